import PyProof.Rows.All
import Wide.All
import OpenK.AllK
import Wide.FinOn
import HandS.ForMost
import KE.KDictKeyed
import HandS.Wide
import HandS.TupAny
import HandS.Deep
import HandS.Style
import HandS.IsInst
import HandS.SortInts
import HandS.SortRule
import HandS.Flow
import HandS.More
import KE.SortData
import KE.OsSortAny
import KE.KSortedM
import PyProof.ConsumeWalk
import HandS.Sort
import HandS.WideBits
import HandS.Ends
import HandS.Words
import HandS.Defaults
import HandS.Walk
import HandS.Dict
import KE.KDictDisplayH
import KE.GoesMore
import HandS.Iter
import HandS.Comp
import HandS.Codes
import HandS.Head0
import HandS.Head1
import HandS.Head2
import HandS.HeadEnd
import HandS.HeadHook1
import HandS.HeadHook2
import HandS.HeadHook3
import HandS.HeadHook4
import KE.KStateDown
import PySem.Challenge.RW_lookcosts_k78_known_papers
set_option Elab.async false
set_option linter.all false
set_option autoImplicit false
set_option maxRecDepth 100000
set_option maxHeartbeats 0
set_option exponentiation.threshold 10000
namespace Mi
open PySem L2

inductive MV where
  | non | bl (b : Bool) | int (i : Int) | str (s : Str)
  | tup (l : List MV) | lst (l : List MV)
  | obj (c : Nat) (fs : List MV)
  | loc (i : Nat)
  | fn (j : Nat)
  | kd (j : Nat)
  | scr (l : List MV)
  deriving Inhabited

inductive MO where
  | lst (l : List MV)
  | dt (kvs : List (MV × MV))
  | ins (c : Nat) (fs : List (Nat × MV))
  | dead
  deriving Inhabited

abbrev MH := List MO
abbrev MS := List (Option MV)

inductive Out (α : Type) where
  | ok (a : α) (h : MH)
  | bad

def Out.bind {α β : Type} (x : Out α) (f : α → MH → Out β) : Out β :=
  match x with
  | .ok a h => f a h
  | .bad => .bad

inductive Bop where | add | sub | mul | fdiv | mod | pow
  deriving DecidableEq
inductive Cop where | eq | ne | lt | le | gt | ge | in_ | ni
  deriving DecidableEq
inductive Ty where | int | bool | str | tuple | list
  deriving DecidableEq
inductive Blt where | len | int | list | tuple | abs | sum | all | any | min | max | divmod | sorted | repr
  deriving DecidableEq
inductive Mth where | append | extend | pop | get
  deriving DecidableEq

inductive Tg where
  | nm (i : Nat)
  | tup (l : List Tg)

inductive Ex where
  | var (i : Nat)
  | non | bl (b : Bool) | int (i : Int) | str (s : Str)
  | glb (j : Nat)
  | bin (o : Bop) (a b : Ex)
  | neg (a : Ex)
  | cmp (o : Cop) (a b : Ex)
  | isN (a : Ex) | notN (a : Ex)
  | chn (o o' : Cop) (a b c : Ex)
  | and (a b : Ex) | or (a b : Ex) | not (a : Ex)
  | ife (c a b : Ex)
  | tup (l : List Ex)
  | lst (m : Bool) (l : List Ex)
  | idx (a b : Ex)
  | slc (a : Ex) (lo hi : Option Ex)
  | rev (a : Ex)
  | call (j : Nat) (l : List Ex)
  | callK (j : Nat) (ks : List Nat) (l : List Ex)
  | callV (i : Nat) (l : List Ex)
  | blt (b : Blt) (l : List Ex)
  | isi (a : Ex) (t : Ty)
  | mth (m : Mth) (o : Ex) (l : List Ex)
  | fld (o : Ex) (f : Nat)
  | new (c : Nat) (l : List Ex)
  | comp (m : Bool) (tg : Tg) (it : Ex) (ifs : List Ex) (elt : Ex) (own : List Nat)
  | dic0
  | dic1 (k v : Ex)
  | rng1 (a : Ex) | rng2 (a b : Ex) | rngd (a b : Ex)
  | enm (a : Ex)
  | frz (a : Ex)

inductive Sx where
  | expr (e : Ex)
  | set (i : Nat) (e : Ex)
  | unp (t : Tg) (e : Ex)
  | par (i j : Nat) (a b : Ex)
  | sub (o i e : Ex)
  | subn (o i : Ex) (j : Nat) (e : Ex)
  | fld (o : Ex) (f : Nat) (e : Ex)
  | aug (i : Nat) (o : Bop) (e : Ex)
  | ifs (c : Ex) (a b : List Sx)
  | whl (c : Ex) (b : List Sx)
  | for_ (t : Tg) (it : Ex) (b : List Sx)
  | ret (e : Ex)
  | retn
  | brk | cnt | pass

inductive SR where
  | nx (σ : MS) (h : MH) | rt (v : MV) (h : MH) | bk (σ : MS) (h : MH) | ct (σ : MS) (h : MH) | bad

/-! ### data -/
mutual
def MV.pd : MV → Option PyData
  | .non => some .none
  | .bl b => some (.bool b)
  | .int i => some (.int i)
  | .str s => some (.str s)
  | .tup l => (pdL l).map .tuple
  | .lst l => (pdL l).map .list
  | _ => none
def pdL : List MV → Option (List PyData)
  | [] => some []
  | a :: l => match a.pd, pdL l with
    | some x, some y => some (x :: y)
    | _, _ => none
end
mutual
def MV.nk : MV → Option NestedKey
  | .non => some .none
  | .bl b => some (.num (if b then 1 else 0))
  | .int i => some (.num i)
  | .str s => some (.text s)
  | .tup l => (nkL l).map .tup
  | _ => none
def nkL : List MV → Option (List NestedKey)
  | [] => some []
  | a :: l => match a.nk, nkL l with
    | some x, some y => some (x :: y)
    | _, _ => none
end
mutual
def MV.fix : MV → Bool
  | .tup l => fixL l
  | .lst l => fixL l
  | .obj _ l => fixL l
  | .scr l => fixL l
  | .loc _ => false
  | _ => true
def fixL : List MV → Bool
  | [] => true
  | a :: l => a.fix && fixL l
end
/-! lists that were made here become data -/
mutual
def frz (h : MH) : MV → Option MV
  | .tup l => (frzL h l).map .tup
  | .lst l => (frzL h l).map .lst
  | .obj c l => (frzL h l).map (.obj c)
  | .loc i => match h[i]? with
    | some (.lst l) => if fixL l then some (.lst l) else none
    | _ => none
  | .scr l => if fixL l then some (.scr l) else none
  | v => some v
def frzL (h : MH) : List MV → Option (List MV)
  | [] => some []
  | a :: l => match frz h a, frzL h l with
    | some x, some y => some (x :: y)
    | _, _ => none
end

def LIM : Nat := 2 ^ 9000
def small (i : Int) : Bool := decide (i.natAbs < LIM)

def truth (h : MH) : MV → Option Bool
  | .non => some false
  | .bl b => some b
  | .int i => some (i != 0)
  | .tup l => some (!l.isEmpty)
  | .lst l => some (!l.isEmpty)
  | _ => none

def asSeq (h : MH) : MV → Option (List MV)
  | .tup l => some l
  | .lst l => some l
  | .scr l => some l
  | .loc i => match h[i]? with
    | some (.lst l) => some l
    | _ => none
  | _ => none

def bop (o : Bop) (a b : MV) (h : MH) : Out MV :=
  match o, a, b with
  | .add, .int i, .int j => .ok (.int (i + j)) h
  | .sub, .int i, .int j => .ok (.int (i - j)) h
  | .mul, .int i, .int j => if small i && small j then .ok (.int (i * j)) h else .bad
  | .fdiv, .int i, .int j => if decide (0 < j) && small j then .ok (.int (i / j)) h else .bad
  | .mod, .int i, .int j => if decide (0 < j) then .ok (.int (i % j)) h else .bad
  | .pow, .int i, .int j => if decide (0 ≤ j) && decide (j ≤ 1000) && decide (i.natAbs < 1000) then .ok (.int (i ^ j.toNat)) h else .bad
  | .add, .tup a, .tup b => if decide (a.length + b.length ≤ 100000) then .ok (.tup (a ++ b)) h else .bad
  | .add, .lst a, .lst b => if decide (a.length + b.length ≤ 100000) then .ok (.lst (a ++ b)) h else .bad
  | _, _, _ => .bad

def pyEq (a b : MV) : Option Bool := match a.pd, b.pd with
  | some d, some e => if SeqAt.shaped d && SeqAt.shaped e then some (PyData.eqv d e) else none
  | _, _ => none

def flat : MV → Bool
  | .bl _ => true | .int _ => true | .str _ => true | .non => true
  | _ => false
def atKd (kds : List (List (Str × MV))) (j : Nat) (s : Str) : Option MV := match kds[j]? with
  | some t => t.lookup s
  | none => none
def inL (a : MV) (l : List MV) : Option Bool := match a.pd, pdL l with
  | some d, some ds => if SeqAt.shaped d && SeqAt.shaped (.list ds) then some (ds.any fun z => PyData.eqv z d) else none
  | _, _ => none
def eqF : MV → MV → Bool
  | .non, .non => true
  | .bl a, .bl b => a == b
  | .bl a, .int b => (if a then 1 else 0) == b
  | .int a, .bl b => a == (if b then 1 else 0)
  | .int a, .int b => a == b
  | .str a, .str b => a == b
  | _, _ => false
def inT (a : MV) (l : List MV) : Option Bool := if flat a && l.all flat then some (l.any fun y => eqF y a) else none

def cop (o : Cop) (a b : MV) (h : MH) : Out MV :=
  match o, a, b with
  | .lt, .int i, .int j => .ok (.bl (decide (i < j))) h
  | .le, .int i, .int j => .ok (.bl (decide (i ≤ j))) h
  | .gt, .int i, .int j => .ok (.bl (decide (j < i))) h
  | .ge, .int i, .int j => .ok (.bl (decide (j ≤ i))) h
  | .eq, a, b => match pyEq a b with
    | some k => .ok (.bl k) h
    | none => .bad
  | .ne, a, b => match pyEq a b with
    | some k => .ok (.bl (!k)) h
    | none => .bad
  | _, _, _ => .bad
/-! ### the program's tables -/
structure Df where
  np : Nat
  nn : Nat
  pure : Bool
  body : List Sx
structure Cl where
  flds : List Nat
  init : Nat
structure Gm where
  defs : List Df
  glo : List MV
  kds : List (List (Str × MV))
  cls : List Cl
  lvl : Nat

abbrev Fn := Nat → List MV → MH → Out MV

def callD (G : Gm) (F : Fn) (j : Nat) (l : List MV) (h : MH) : Out MV := match G.defs[j]? with
  | some d => match d.pure with
    | true => match fixL l with
      | true => match F j l [] with
        | .ok v h' => match frz h' v with
          | some v' => .ok v' h
          | none => .bad
        | .bad => .bad
      | false => .bad
    | false => F j l h
  | none => .bad
def newO (G : Gm) (F : Fn) (c : Nat) (l : List MV) (h : MH) : Out MV := match G.cls[c]? with
  | some cl => match fixL l with
    | true => match F cl.init (.loc 0 :: l) [.ins c []] with
      | .ok .non (.ins c' fs :: _) => if decide (c' = c) && (decide (fs.map (·.1) = cl.flds)) && fixL (fs.map (·.2)) then .ok (.obj c (fs.map (·.2))) h else .bad
      | _ => .bad
    | false => .bad
  | none => .bad
/-- an attribute -/
def getF (G : Gm) (f : Nat) (h : MH) : MV → Option MV
  | .obj c l => match G.cls[c]? with
    | some cl => (cl.flds.zip l).lookup f
    | none => none
  | .loc i => match h[i]? with
    | some (.ins c fs) => match G.cls[c]? with
      | some _ => fs.lookup f
      | none => none
    | _ => none
  | _ => none
def putA (f : Nat) (v : MV) : List (Nat × MV) → List (Nat × MV)
  | [] => [(f, v)]
  | (g, x) :: r => if g = f then (g, v) :: r else (g, x) :: putA f v r

/-! ### built-ins, by values -/
def boolsM : List MV → Option (List Bool)
  | [] => some []
  | .bl b :: l => (boolsM l).map (b :: ·)
  | _ => none
def intsM : List MV → Option (List Int)
  | [] => some []
  | .int b :: l => (intsM l).map (b :: ·)
  | _ => none
def pairsM : List MV → Option (List (Int × Int))
  | [] => some []
  | .tup [.int a, .int b] :: l => (pairsM l).map ((a, b) :: ·)
  | _ => none
def insI (a : Int) : List Int → List Int
  | [] => [a]
  | b :: l => if a ≤ b then a :: b :: l else b :: insI a l
def sortI (l : List Int) : List Int := l.foldr insI []
def ltPr (a b : Int × Int) : Bool := if a.1 = b.1 then decide (a.2 < b.2) else decide (a.1 < b.1)
def insP (a : Int × Int) : List (Int × Int) → List (Int × Int)
  | [] => [a]
  | b :: l => if ltPr b a then b :: insP a l else a :: b :: l
def sortP (l : List (Int × Int)) : List (Int × Int) := l.foldr insP []
def lkT (kvs : List (MV × MV)) (k : NestedKey) : Option MV := (kvs.find? fun p => decide (p.1.nk = some k)).map (·.2)
def putT (kvs : List (MV × MV)) (k : NestedKey) (a v : MV) : List (MV × MV) :=
  if kvs.any fun p => decide (p.1.nk = some k) then kvs.map fun p => if p.1.nk = some k then (p.1, v) else p else kvs ++ [(a, v)]
def keyT (a : MV) : Option NestedKey := match a with
  | .tup _ => match a.nk with
    | some k => if decide (k.depth ≤ 8) then some k else none
    | none => none
  | _ => none

def bLen (l : List MV) (h : MH) : Out MV := match l with
  | [.str s] => if decide (s.length ≤ 100000) then .ok (.int s.length) h else .bad
  | [v] => match asSeq h v with
    | some l => .ok (.int l.length) h
    | none => .bad
  | _ => .bad
def bInt (l : List MV) (h : MH) : Out MV := match l with
  | [.int i] => .ok (.int i) h
  | [.bl b] => .ok (.int (if b then 1 else 0)) h
  | _ => .bad
def bList (l : List MV) (h : MH) : Out MV := match l with
  | [.loc i] => match h[i]? with
    | some (.dt kvs) => if decide (kvs.length ≤ 100000) then .ok (.lst (kvs.map (·.1))) h else .bad
    | some (.lst l) => .ok (.lst l) h
    | _ => .bad
  | [.tup l] => .ok (.lst l) h
  | [.lst l] => .ok (.lst l) h
  | _ => .bad
def bTuple (l : List MV) (h : MH) : Out MV := match l with
  | [v] => match asSeq h v with
    | some l => .ok (.tup l) h
    | none => .bad
  | _ => .bad
def bAbs (l : List MV) (h : MH) : Out MV := match l with
  | [.int i] => .ok (.int (if i < 0 then -i else i)) h
  | _ => .bad
def bSum (l : List MV) (h : MH) : Out MV := match l with
  | [.lst l] => match intsM l with
    | some ns => .ok (.int ns.sum) h
    | none => .bad
  | _ => .bad
def bAll (l : List MV) (h : MH) : Out MV := match l with
  | [.lst l] => match boolsM l with
    | some bs => .ok (.bl (bs.all id)) h
    | none => .bad
  | _ => .bad
def bAny (l : List MV) (h : MH) : Out MV := match l with
  | [.lst l] => match boolsM l with
    | some bs => .ok (.bl (bs.any id)) h
    | none => .bad
  | _ => .bad
def bMin (l : List MV) (h : MH) : Out MV := match l with
  | [.int a, .int b] => .ok (.int (if b < a then b else a)) h
  | _ => .bad
def bMax (l : List MV) (h : MH) : Out MV := match l with
  | [.int a, .int b] => .ok (.int (if a < b then b else a)) h
  | _ => .bad
def bDivmod (l : List MV) (h : MH) : Out MV := match l with
  | [.int a, .int b] => if decide (0 < b) && decide (b < 1073741824) then .ok (.tup [.int (a / b), .int (a % b)]) h else .bad
  | _ => .bad
def bSorted (l : List MV) (h : MH) : Out MV := match l with
  | [.lst l] => match intsM l with
    | some ns => .ok (.lst ((sortI ns).map .int)) h
    | none => match pairsM l with
      | some ps => .ok (.lst ((sortP ps).map fun p => .tup [.int p.1, .int p.2])) h
      | none => .bad
  | _ => .bad
def bRepr (l : List MV) (h : MH) : Out MV := match l with
  | [.lst l] => match MV.pd (.lst l) with
    | some d => if SeqAt.shaped d && d.showable && decide (d.shown.length ≤ 100000) then .ok (.str d.shown) h else .bad
    | none => .bad
  | _ => .bad
def blt (b : Blt) : List MV → MH → Out MV := match b with
  | .len => bLen | .int => bInt | .list => bList | .tuple => bTuple | .abs => bAbs | .sum => bSum | .all => bAll | .any => bAny
  | .min => bMin | .max => bMax | .divmod => bDivmod | .sorted => bSorted | .repr => bRepr

def isTy (t : Ty) (h : MH) : MV → Option Bool
  | .non => some false
  | .bl _ => some (decide (t = .bool) || decide (t = .int))
  | .int _ => some (decide (t = .int))
  | .str _ => some (decide (t = .str))
  | .tup _ => some (decide (t = .tuple))
  | .lst _ => some (decide (t = .list))
  | _ => none

def mApp (o : MV) (l : List MV) (h : MH) : Out MV := match o, l with
  | .loc i, [v] => match h[i]? with
    | some (.lst xs) => if decide (xs.length < 100000) then .ok .non (h.set i (.lst (xs ++ [v]))) else .bad
    | _ => .bad
  | _, _ => .bad
def mExt (o : MV) (l : List MV) (h : MH) : Out MV := match o, l with
  | .loc i, [.lst ys] => match h[i]? with
    | some (.lst xs) => if decide (xs.length + ys.length < 100000) then .ok .non (h.set i (.lst (xs ++ ys))) else .bad
    | _ => .bad
  | _, _ => .bad
def mPop (o : MV) (l : List MV) (h : MH) : Out MV := match o, l with
  | .loc i, [] => match h[i]? with
    | some (.lst xs) => match xs[xs.length - 1]? with
      | some v => .ok v (h.set i (.lst xs.dropLast))
      | none => .bad
    | _ => .bad
  | _, _ => .bad
def mGet (o : MV) (l : List MV) (h : MH) : Out MV := match o, l with
  | .loc i, [k, d] => match h[i]? with
    | some (.dt kvs) => match keyT k with
      | some q => .ok ((lkT kvs q).getD d) h
      | none => .bad
    | _ => .bad
  | _, _ => .bad
def mth (m : Mth) : MV → List MV → MH → Out MV := match m with
  | .append => mApp | .extend => mExt | .pop => mPop | .get => mGet

/-- the receiver's kind -/
def rcv (m : Mth) (o : MV) (h : MH) : Bool := match o with
  | .loc i => match h[i]? with
    | some (.lst _) => (match m with | .get => false | _ => true)
    | some (.dt _) => (match m with | .get => true | _ => false)
    | _ => false
  | _ => false

def getIx (G : Gm) (a i : MV) (h : MH) : Out MV := match a, i with
  | .kd j, .str s => match atKd G.kds j s with
    | some v => .ok v h
    | none => .bad
  | .loc d, .tup l => match h[d]?, keyT (.tup l) with
    | some (.dt kvs), some q => match lkT kvs q with
      | some v => .ok v h
      | none => .bad
    | _, _ => .bad
  | a, .int k => match asSeq h a with
    | some l => match atI l k with
      | some v => .ok v h
      | none => .bad
    | none => .bad
  | _, _ => .bad
def setIx (a i v : MV) (h : MH) : Option MH := match a with
  | .loc d => match h[d]? with
    | some (.lst l) => match i with
      | .int k => match ixN l.length k with
        | some j => some (h.set d (.lst (l.set j v)))
        | none => none
      | _ => none
    | some (.dt kvs) => match keyT i with
      | some q => if decide (kvs.length < 100000) then some (h.set d (.dt (putT kvs q i v))) else none
      | none => none
    | _ => none
  | _ => none
def cutM (l : List MV) (lo hi : Option Int) : List MV := (l.drop (HT.sIx l.length 0 lo)).take (HT.sIx l.length l.length hi - HT.sIx l.length 0 lo)
def slcV (a : MV) (lo hi : Option Int) (h : MH) : Out MV := match a with
  | .tup l => .ok (.tup (cutM l lo hi)) h
  | .lst l => .ok (.lst (cutM l lo hi)) h
  | .scr l => .ok (.lst (cutM l lo hi)) h
  | .loc i => match h[i]? with
    | some (.lst l) => .ok (.lst (cutM l lo hi)) h
    | _ => .bad
  | _ => .bad
def revV (a : MV) (h : MH) : Out MV := match a with
  | .lst l => .ok (.lst l.reverse) h
  | .tup l => .ok (.tup l.reverse) h
  | _ => .bad
def copG (G : Gm) (o : Cop) (a b : MV) (h : MH) : Out MV := match o, b with
  | .in_, .kd j => match a with
    | .str s => match G.kds[j]? with
      | some t => .ok (.bl (t.lookup s).isSome) h
      | none => .bad
    | _ => .bad
  | .ni, .kd j => match a with
    | .str s => match G.kds[j]? with
      | some t => .ok (.bl (!(t.lookup s).isSome)) h
      | none => .bad
    | _ => .bad
  | .in_, .loc d => match h[d]?, keyT a with
    | some (.dt kvs), some q => .ok (.bl (lkT kvs q).isSome) h
    | _, _ => .bad
  | .in_, .tup l => match inT a l with
    | some k => .ok (.bl k) h
    | none => .bad
  | .in_, .lst l => match inL a l with
    | some k => .ok (.bl k) h
    | none => .bad
  | .ni, .tup l => match inT a l with
    | some k => .ok (.bl (!k)) h
    | none => .bad
  | .ni, .lst l => match inL a l with
    | some k => .ok (.bl (!k)) h
    | none => .bad
  | o, b => cop o a b h

/-! ### targets, loops -/
mutual
def stT (t : Tg) (v : MV) (σ : MS) (h : MH) : Option MS := match t with
  | .nm i => some (σ.set i (some v))
  | .tup ts => match v with
    | .tup l => stTs ts l σ h
    | _ => none
def stTs (ts : List Tg) (l : List MV) (σ : MS) (h : MH) : Option MS := match ts with
  | [] => match l with
    | [] => some σ
    | _ :: _ => none
  | t :: ts => match l with
    | [] => none
    | v :: l => match stT t v σ h with
      | some σ' => stTs ts l σ' h
      | none => none
end
def wipeM (σ : MS) : List Nat → MS
  | [] => σ
  | v :: vs => (wipeM σ vs).set v none
/-- a comprehension: what it makes so far -/
def loopC (t : Tg) (tt : MS → MH → Out MV) (e : MS → MH → Out MV) (σ : MS) : List MV → List MV → MH → Out (List MV)
  | [], acc, h => .ok acc h
  | v :: l, acc, h => match stT t v σ h with
    | some σ' => match tt σ' h with
      | .ok c h1 => match truth h1 c with
        | some true => match e σ' h1 with
          | .ok x h2 => if decide (acc.length < 100000) then loopC t tt e σ l (acc ++ [x]) h2 else .bad
          | .bad => .bad
        | some false => loopC t tt e σ l acc h1
        | none => .bad
      | .bad => .bad
    | none => .bad
def loopF (t : Tg) (b : MS → MH → SR) : List MV → MS → MH → SR
  | [], σ, h => .nx σ h
  | v :: l, σ, h => match stT t v σ h with
    | some σ' => match b σ' h with
      | .nx σ2 h2 => loopF t b l σ2 h2
      | .ct σ2 h2 => loopF t b l σ2 h2
      | .bk σ2 h2 => .nx σ2 h2
      | r => r
    | none => .bad
def loopW (c : MS → MH → Out MV) (b : MS → MH → SR) : Nat → MS → MH → SR
  | 0, _, _ => .bad
  | n + 1, σ, h => match c σ h with
    | .ok v h1 => match truth h1 v with
      | some true => match b σ h1 with
        | .nx σ2 h2 => loopW c b n σ2 h2
        | .ct σ2 h2 => loopW c b n σ2 h2
        | .bk σ2 h2 => .nx σ2 h2
        | r => r
      | some false => .nx σ h1
      | none => .bad
    | .bad => .bad
def enumM (n : Nat) : List MV → List MV
  | [] => []
  | a :: l => .tup [.int n, a] :: enumM (n + 1) l
def rngM (lo : Int) : Nat → List MV
  | 0 => []
  | n + 1 => .int lo :: rngM (lo + 1) n
def rngdM (hi : Int) : Nat → List MV
  | 0 => []
  | n + 1 => .int hi :: rngdM (hi - 1) n
def mid (i : Int) : Bool := decide (-(2 ^ 62) ≤ i) && decide (i < 2 ^ 62)

def specB : Ex → Bool
  | .rng1 _ => true | .rng2 _ _ => true | .rngd _ _ => true | .enm _ => true
  | _ => false
def seqOf (r : Out MV) : Out (List MV) := match r with
  | .ok (.tup l) h => .ok l h
  | .ok (.lst l) h => .ok l h
  | _ => .bad
/-! ### expressions -/
section
variable (G : Gm) (F : Fn)
mutual
def evE (e : Ex) (σ : MS) (h : MH) : Out MV := match e with
  | .var i => match σ[i]? with
    | some (some v) => .ok v h
    | _ => .bad
  | .non => .ok .non h
  | .bl b => .ok (.bl b) h
  | .int i => .ok (.int i) h
  | .str s => .ok (.str s) h
  | .glb j => match G.glo[j]? with
    | some v => .ok v h
    | none => .bad
  | .bin o a b => match evE a σ h with
    | .ok x h1 => match evE b σ h1 with
      | .ok y h2 => bop o x y h2
      | .bad => .bad
    | .bad => .bad
  | .neg a => match evE a σ h with
    | .ok (.int i) h1 => .ok (.int (-i)) h1
    | _ => .bad
  | .cmp o a b => match evE a σ h with
    | .ok x h1 => match evE b σ h1 with
      | .ok y h2 => copG G o x y h2
      | .bad => .bad
    | .bad => .bad
  | .isN a => match evE a σ h with
    | .ok .non h1 => .ok (.bl true) h1
    | .ok _ h1 => .ok (.bl false) h1
    | .bad => .bad
  | .notN a => match evE a σ h with
    | .ok .non h1 => .ok (.bl false) h1
    | .ok _ h1 => .ok (.bl true) h1
    | .bad => .bad
  | .chn o o' a b c => match evE a σ h with
    | .ok x h1 => match evE b σ h1 with
      | .ok y h2 => match cop o x y h2 with
        | .ok (.bl true) h3 => match evE c σ h3 with
          | .ok z h4 => cop o' y z h4
          | .bad => .bad
        | .ok (.bl false) h3 => .ok (.bl false) h3
        | _ => .bad
      | .bad => .bad
    | .bad => .bad
  | .and a b => match evE a σ h with
    | .ok v h1 => match truth h1 v with
      | some true => evE b σ h1
      | some false => .ok v h1
      | none => .bad
    | .bad => .bad
  | .or a b => match evE a σ h with
    | .ok v h1 => match truth h1 v with
      | some true => .ok v h1
      | some false => evE b σ h1
      | none => .bad
    | .bad => .bad
  | .not a => match evE a σ h with
    | .ok v h1 => match truth h1 v with
      | some k => .ok (.bl (!k)) h1
      | none => .bad
    | .bad => .bad
  | .ife c a b => match evE c σ h with
    | .ok v h1 => match truth h1 v with
      | some true => evE a σ h1
      | some false => evE b σ h1
      | none => .bad
    | .bad => .bad
  | .tup l => match evL l σ h with
    | .ok vs h1 => .ok (.tup vs) h1
    | .bad => .bad
  | .lst m l => match evL l σ h with
    | .ok vs h1 => match m with
      | true => .ok (.loc h1.length) (h1 ++ [.lst vs])
      | false => .ok (.lst vs) h1
    | .bad => .bad
  | .idx a b => match evE a σ h with
    | .ok x h1 => match evE b σ h1 with
      | .ok y h2 => getIx G x y h2
      | .bad => .bad
    | .bad => .bad
  | .slc a lo hi => match evE a σ h with
    | .ok x h1 => match evO lo σ h1 with
      | .ok u h2 => match evO hi σ h2 with
        | .ok w h3 => slcV x u w h3
        | .bad => .bad
      | .bad => .bad
    | .bad => .bad
  | .rev a => match evE a σ h with
    | .ok x h1 => revV x h1
    | .bad => .bad
  | .call j l => match evL l σ h with
    | .ok vs h1 => callD G F j vs h1
    | .bad => .bad
  | .callK j ks l => match evL l σ h with
    | .ok vs h1 => callD G F j (ks.map fun k => (vs[k]?).getD .non) h1
    | .bad => .bad
  | .callV i l => match σ[i]? with
    | some (some (.fn j)) => match evL l σ h with
      | .ok vs h1 => callD G F j vs h1
      | .bad => .bad
    | _ => .bad
  | .blt b l => match evL l σ h with
    | .ok vs h1 => blt b vs h1
    | .bad => .bad
  | .isi a t => match evE a σ h with
    | .ok v h1 => match isTy t h1 v with
      | some k => .ok (.bl k) h1
      | none => .bad
    | .bad => .bad
  | .mth m o l => match evE o σ h with
    | .ok v h1 => match rcv m v h1 with
      | true => match evL l σ h1 with
        | .ok vs h2 => mth m v vs h2
        | .bad => .bad
      | false => .bad
    | .bad => .bad
  | .fld o f => match evE o σ h with
    | .ok v h1 => match getF G f h1 v with
      | some x => .ok x h1
      | none => .bad
    | .bad => .bad
  | .new c l => match evL l σ h with
    | .ok vs h1 => newO G F c vs h1
    | .bad => .bad
  | .comp m tg it ifs elt own => match (match specB it with
      | true => evR it σ h
      | false => seqOf (evE it σ h)) with
    | .ok l h1 => match loopC tg (fun σ h => evTs ifs σ h) (fun σ h => evE elt σ h) (wipeM σ own) l [] h1 with
      | .ok vs h2 => match m with
        | true => .ok (.loc h2.length) (h2 ++ [.lst vs])
        | false => .ok (.lst vs) h2
      | .bad => .bad
    | .bad => .bad
  | .dic0 => .ok (.loc h.length) (h ++ [.dt []])
  | .dic1 k v => match evE k σ h with
    | .ok x h1 => match evE v σ h1 with
      | .ok y h2 => match keyT x with
        | some _ => .ok (.loc h2.length) (h2 ++ [.dt [(x, y)]])
        | none => .bad
      | .bad => .bad
    | .bad => .bad
  | .frz a => match evE a σ h with
    | .ok (.loc i) h1 => match h1[i]? with
      | some (.lst l) => .ok (.lst l) (h1.set i .dead)
      | _ => .bad
    | _ => .bad
  | .rng1 _ => .bad
  | .rng2 _ _ => .bad
  | .rngd _ _ => .bad
  | .enm _ => .bad
def evL (l : List Ex) (σ : MS) (h : MH) : Out (List MV) := match l with
  | [] => .ok [] h
  | e :: l => match evE e σ h with
    | .ok v h1 => match evL l σ h1 with
      | .ok vs h2 => .ok (v :: vs) h2
      | .bad => .bad
    | .bad => .bad
def evO (e : Option Ex) (σ : MS) (h : MH) : Out (Option Int) := match e with
  | none => .ok none h
  | some e => match evE e σ h with
    | .ok (.int i) h1 => .ok (some i) h1
    | _ => .bad
/-- what is walked: ranges, enumerate -/
def evR (e : Ex) (σ : MS) (h : MH) : Out (List MV) := match e with
  | .rng1 a => match evE a σ h with
    | .ok (.int j) h1 => if mid j then .ok (rngM 0 j.toNat) h1 else .bad
    | _ => .bad
  | .rng2 a b => match evE a σ h with
    | .ok (.int i) h1 => match evE b σ h1 with
      | .ok (.int j) h2 => if mid i && mid j then .ok (rngM i (j - i).toNat) h2 else .bad
      | _ => .bad
    | _ => .bad
  | .rngd a b => match evE a σ h with
    | .ok (.int i) h1 => match evE b σ h1 with
      | .ok (.int j) h2 => if mid i && mid j then .ok (rngdM i (i - j).toNat) h2 else .bad
      | _ => .bad
    | _ => .bad
  | .enm a => match evE a σ h with
    | .ok (.tup l) h1 => .ok (enumM 0 l) h1
    | .ok (.lst l) h1 => .ok (enumM 0 l) h1
    | _ => .bad
  | _ => .bad
/-- the tests of a comprehension: none or one -/
def evTs (l : List Ex) (σ : MS) (h : MH) : Out MV := match l with
  | [] => .ok (.bl true) h
  | e :: _ => evE e σ h
end
/-- what is walked -/
def evI (e : Ex) (σ : MS) (h : MH) : Out (List MV) := match specB e with
  | true => evR G F e σ h
  | false => seqOf (evE G F e σ h)

mutual
def evS (W : Nat) (s : Sx) (σ : MS) (h : MH) : SR := match s with
  | .expr e => match evE G F e σ h with
    | .ok _ h1 => .nx σ h1
    | .bad => .bad
  | .set i e => match evE G F e σ h with
    | .ok v h1 => .nx (σ.set i (some v)) h1
    | .bad => .bad
  | .unp t e => match evE G F e σ h with
    | .ok v h1 => match stT t v σ h1 with
      | some σ' => .nx σ' h1
      | none => .bad
    | .bad => .bad
  | .par i j a b => match evE G F a σ h with
    | .ok v h1 => match evE G F b σ h1 with
      | .ok w h2 => .nx ((σ.set i (some v)).set j (some w)) h2
      | .bad => .bad
    | .bad => .bad
  | .sub o i e => match evE G F e σ h with
    | .ok v h1 => match evE G F o σ h1 with
      | .ok x h2 => match evE G F i σ h2 with
        | .ok y h3 => match setIx x y v h3 with
          | some h4 => .nx σ h4
          | none => .bad
        | .bad => .bad
      | .bad => .bad
    | .bad => .bad
  | .subn o i j e => match evE G F e σ h with
    | .ok (.tup [v, w]) h1 => match evE G F o σ h1 with
      | .ok x h2 => match evE G F i σ h2 with
        | .ok y h3 => match setIx x y v h3 with
          | some h4 => .nx (σ.set j (some w)) h4
          | none => .bad
        | .bad => .bad
      | .bad => .bad
    | _ => .bad
  | .fld o f e => match evE G F e σ h with
    | .ok v h1 => match evE G F o σ h1 with
      | .ok (.loc i) h2 => match h2[i]? with
        | some (.ins c fs) => if decide (fs.length < 100) && (G.cls[c]?).isSome then .nx σ (h2.set i (.ins c (putA f v fs))) else .bad
        | _ => .bad
      | _ => .bad
    | .bad => .bad
  | .aug i o e => match σ[i]? with
    | some (some x) => match evE G F e σ h with
      | .ok y h1 => match o, x, y with
        | .add, .int a, .int b => .nx (σ.set i (some (.int (a + b)))) h1
        | .sub, .int a, .int b => .nx (σ.set i (some (.int (a - b)))) h1
        | _, _, _ => .bad
      | .bad => .bad
    | _ => .bad
  | .ifs c a b => match evE G F c σ h with
    | .ok v h1 => match truth h1 v with
      | some true => evSs W a σ h1
      | some false => evSs W b σ h1
      | none => .bad
    | .bad => .bad
  | .whl c b => loopW (fun σ h => evE G F c σ h) (fun σ h => evSs W b σ h) W σ h
  | .for_ t it b => match evI G F it σ h with
    | .ok l h1 => loopF t (fun σ h => evSs W b σ h) l σ h1
    | .bad => .bad
  | .ret e => match evE G F e σ h with
    | .ok v h1 => .rt v h1
    | .bad => .bad
  | .retn => .rt .non h
  | .brk => .bk σ h
  | .cnt => .ct σ h
  | .pass => .nx σ h
def evSs (W : Nat) (l : List Sx) (σ : MS) (h : MH) : SR := match l with
  | [] => .nx σ h
  | s :: l => match evS W s σ h with
    | .nx σ' h' => evSs W l σ' h'
    | r => r
end
end
def startM (n : Nat) (l : List MV) : MS := l.map some ++ List.replicate (n - l.length) none
def runF (G : Gm) (W : Nat) : Nat → Fn
  | 0, _, _, _ => .bad
  | k + 1, j, l, h => match G.defs[j]? with
    | some d => if l.length = d.np then (match evSs G (runF G W k) W d.body (startM d.nn l) h with
      | .rt v h' => .ok v h'
      | .nx _ h' => .ok .non h'
      | _ => .bad) else .bad
    | none => .bad
end Mi

namespace Mi
open PySem PySem.Spec PyProof.Rows L2

structure Tb where
  K : PySem.W.Frag
  mg : Str → Option Value
  G : Gm
  fa : Nat → Addr
  ca : Nat → Addr
  ka : Nat → Addr
  an : Nat → Str

def mine (β : List Addr) (hm : MH) (a : Addr) : Prop := ∃ (i : Nat) (o : MO), β[i]? = some a ∧ hm[i]? = some o ∧ o ≠ MO.dead
def lv (Av : Addr → Prop) (β : List Addr) (hm : MH) (a : Addr) : Prop := Av a ∨ mine β hm a

/-- a list, a tuple of the written part -/
def KL (K : PySem.W.Frag) (a : Addr) (xs : List V) : Prop :=
  ∃ (o : Obj) (its : Array Value) (n : Nat), K.lookup a = some o ∧ o.cls = .type "list" ∧ o.dict = none ∧ o.data = .seq its n ∧ its.size ≤ sizeLine ∧ Vals xs its.toList
def KT (K : PySem.W.Frag) (a : Addr) (xs : List V) : Prop :=
  ∃ (o : Obj) (its : Array Value) (n : Nat), K.lookup a = some o ∧ o.cls = .type "tuple" ∧ o.data = .seq its n ∧ its.size ≤ sizeLine ∧ Vals xs its.toList

mutual
inductive RV (T : Tb) (L : Addr → Prop) (β : List Addr) (H : Hp) : MV → V → Prop
  | non : RV T L β H .non .non
  | bl (b : Bool) : RV T L β H (.bl b) (.bl b)
  | int (i : Int) : RV T L β H (.int i) (.int i)
  | str (s : Str) : RV T L β H (.str s) (.str s)
  | tup {a : Addr} {xs : List V} {l : List MV} : Rd H a (.tup xs) → ¬ L a → RVs T L β H l xs → RV T L β H (.tup l) (.ref a)
  | tupK {a : Addr} {xs : List V} {l : List MV} : KT T.K a xs → RVs T L β H l xs → RV T L β H (.tup l) (.ref a)
  | lst {a : Addr} {xs : List V} {l : List MV} : H a = some (.lst xs) → ¬ L a → RVs T L β H l xs → RV T L β H (.lst l) (.ref a)
  | scr {a : Addr} {xs : List V} {l : List MV} : Rd H a (.lst xs) → ¬ L a → RVs T L β H l xs → RV T L β H (.scr l) (.ref a)
  | scrK {a : Addr} {xs : List V} {l : List MV} : KL T.K a xs → RVs T L β H l xs → RV T L β H (.scr l) (.ref a)
  | obj {a dx : Addr} {c : Nat} {cl : Cl} {xs : List V} {l : List MV} : T.G.cls[c]? = some cl → H a = some (.ins (T.ca c) dx ((cl.flds.map T.an).zip xs)) → ¬ L a → l.length = cl.flds.length → RVs T L β H l xs → RV T L β H (.obj c l) (.ref a)
  | loc {i : Nat} {a : Addr} : β[i]? = some a → RV T L β H (.loc i) (.ref a)
  | fn (j : Nat) : RV T L β H (.fn j) (.ref (T.fa j))
  | kd (j : Nat) : RV T L β H (.kd j) (.ref (T.ka j))
inductive RVs (T : Tb) (L : Addr → Prop) (β : List Addr) (H : Hp) : List MV → List V → Prop
  | nil : RVs T L β H [] []
  | cons {m : MV} {v : V} {ms : List MV} {vs : List V} : RV T L β H m v → RVs T L β H ms vs → RVs T L β H (m :: ms) (v :: vs)
end

section
variable {T : Tb} {L L' : Addr → Prop} {β β' : List Addr} {H H' : Hp}
theorem RVs.length : ∀ {l : List MV} {xs : List V}, RVs T L β H l xs → l.length = xs.length
  | _, _, .nil => rfl
  | _, _, .cons _ r => by rw [List.length_cons, List.length_cons, RVs.length r]
theorem RVs.get : ∀ {l : List MV} {xs : List V} {i : Nat} {m : MV}, RVs T L β H l xs → l[i]? = some m → ∃ x, xs[i]? = some x ∧ RV T L β H m x
  | _, _, _, _, .nil, e => by simp at e
  | _, _, 0, _, .cons r _, e => by simp at e; subst e; exact ⟨_, rfl, r⟩
  | _, _, i + 1, m, .cons _ t, e => by
    obtain ⟨x, h1, h2⟩ := RVs.get (i := i) (m := m) t (by simpa using e)
    exact ⟨x, by simpa using h1, h2⟩
theorem RVs.get' : ∀ {l : List MV} {xs : List V} {i : Nat} {x : V}, RVs T L β H l xs → xs[i]? = some x → ∃ m, l[i]? = some m ∧ RV T L β H m x
  | _, _, _, _, .nil, e => by simp at e
  | _, _, 0, _, .cons r _, e => by simp at e; subst e; exact ⟨_, rfl, r⟩
  | _, _, i + 1, x, .cons _ t, e => by
    obtain ⟨m, h1, h2⟩ := RVs.get' (i := i) (x := x) t (by simpa using e)
    exact ⟨m, by simpa using h1, h2⟩
theorem RVs.append : ∀ {l l2 : List MV} {xs ys : List V}, RVs T L β H l xs → RVs T L β H l2 ys → RVs T L β H (l ++ l2) (xs ++ ys)
  | _, _, _, _, .nil, r => r
  | _, _, _, _, .cons a b, r => .cons a (RVs.append b r)
theorem RVs.take : ∀ {l : List MV} {xs : List V} (n : Nat), RVs T L β H l xs → RVs T L β H (l.take n) (xs.take n)
  | _, _, 0, _ => .nil
  | _, _, _ + 1, .nil => .nil
  | _, _, n + 1, .cons a b => .cons a (RVs.take n b)
theorem RVs.drop : ∀ {l : List MV} {xs : List V} (n : Nat), RVs T L β H l xs → RVs T L β H (l.drop n) (xs.drop n)
  | _, _, 0, r => r
  | _, _, _ + 1, .nil => .nil
  | _, _, n + 1, .cons _ b => RVs.drop n b
theorem RVs.set {m : MV} {x : V} (r : RV T L β H m x) : ∀ {l : List MV} {xs : List V} (i : Nat), RVs T L β H l xs → RVs T L β H (l.set i m) (xs.set i x)
  | _, _, _, .nil => .nil
  | _, _, 0, .cons _ b => .cons r b
  | _, _, i + 1, .cons a b => .cons a (RVs.set r i b)
theorem RVs.one {m : MV} {x : V} (r : RV T L β H m x) : RVs T L β H [m] [x] := .cons r .nil
theorem RVs.reverse : ∀ {l : List MV} {xs : List V}, RVs T L β H l xs → RVs T L β H l.reverse xs.reverse
  | _, _, .nil => .nil
  | _, _, .cons a b => by
    rw [List.reverse_cons, List.reverse_cons]
    exact RVs.append (RVs.reverse b) (RVs.one a)
theorem RVs.dropLast {l : List MV} {xs : List V} (r : RVs T L β H l xs) : RVs T L β H l.dropLast xs.dropLast := by
  rw [List.dropLast_eq_take, List.dropLast_eq_take, r.length]
  exact r.take _
/-- what is asked of the heap behind -/
structure Ex' (β : List Addr) (hm : MH) (H : Hp) (β' : List Addr) (hm' : MH) (H' : Hp) : Prop where
  pre : ∀ (i : Nat) (a : Addr), β[i]? = some a → β'[i]? = some a
  liv : ∀ a, mine β' hm' a → mine β hm a ∨ H a = none
  frm : ∀ a o, H a = some o → ¬ mine β hm a → H' a = some o
  thr : ∀ a, H a ≠ none → H' a ≠ none

mutual
theorem RV.imp {T : Tb} {L L' : Addr → Prop} {β β' : List Addr} {H H' : Hp} (hβ : ∀ (i : Nat) (a : Addr), β[i]? = some a → β'[i]? = some a) (hH : ∀ a o, H a = some o → ¬ L a → H' a = some o ∧ ¬ L' a) : ∀ {m : MV} {x : V}, RV T L β H m x → RV T L' β' H' m x
  | _, _, .non => .non
  | _, _, .bl b => .bl b
  | _, _, .int i => .int i
  | _, _, .str s => .str s
  | _, _, .tup h n r => by
    rcases h with h | ⟨o, h⟩
    · obtain ⟨h1, h2⟩ := hH _ _ h n
      exact .tup (.inl h1) h2 (RVs.imp hβ hH r)
    · obtain ⟨h1, h2⟩ := hH _ _ h n
      exact .tup (.inr ⟨o, h1⟩) h2 (RVs.imp hβ hH r)
  | _, _, .tupK h r => .tupK h (RVs.imp hβ hH r)
  | _, _, .lst h n r => by
    obtain ⟨h1, h2⟩ := hH _ _ h n
    exact .lst h1 h2 (RVs.imp hβ hH r)
  | _, _, .scr h n r => by
    rcases h with h | ⟨o, h⟩
    · obtain ⟨h1, h2⟩ := hH _ _ h n
      exact .scr (.inl h1) h2 (RVs.imp hβ hH r)
    · obtain ⟨h1, h2⟩ := hH _ _ h n
      exact .scr (.inr ⟨o, h1⟩) h2 (RVs.imp hβ hH r)
  | _, _, .scrK h r => .scrK h (RVs.imp hβ hH r)
  | _, _, .obj hc h n e r => by
    obtain ⟨h1, h2⟩ := hH _ _ h n
    exact .obj hc h1 h2 e (RVs.imp hβ hH r)
  | _, _, .loc h => .loc (hβ _ _ h)
  | _, _, .fn j => .fn j
  | _, _, .kd j => .kd j
theorem RVs.imp {T : Tb} {L L' : Addr → Prop} {β β' : List Addr} {H H' : Hp} (hβ : ∀ (i : Nat) (a : Addr), β[i]? = some a → β'[i]? = some a) (hH : ∀ a o, H a = some o → ¬ L a → H' a = some o ∧ ¬ L' a) : ∀ {m : List MV} {x : List V}, RVs T L β H m x → RVs T L' β' H' m x
  | _, _, .nil => .nil
  | _, _, .cons a b => .cons (RV.imp hβ hH a) (RVs.imp hβ hH b)
end
end

section
variable {T : Tb} {Av : Addr → Prop} {β β' β'' : List Addr} {hm hm' hm'' : MH} {H H' H'' : Hp}
theorem Ex'.frL (e : Ex' β hm H β' hm' H') : ∀ a o, H a = some o → ¬ lv Av β hm a → H' a = some o ∧ ¬ lv Av β' hm' a := fun a o h n => by
  refine ⟨e.frm a o h fun q => n (.inr q), fun q => ?_⟩
  rcases q with q | q
  · exact n (.inl q)
  · rcases e.liv a q with q | q
    · exact n (.inr q)
    · rw [h] at q; cases q
theorem RV.mono (e : Ex' β hm H β' hm' H') {m : MV} {x : V} (r : RV T (lv Av β hm) β H m x) : RV T (lv Av β' hm') β' H' m x := r.imp e.pre e.frL
theorem RVs.mono (e : Ex' β hm H β' hm' H') {m : List MV} {x : List V} (r : RVs T (lv Av β hm) β H m x) : RVs T (lv Av β' hm') β' H' m x := r.imp e.pre e.frL
theorem Ex'.refl : Ex' β hm H β hm H := ⟨fun _ _ h => h, fun _ h => .inl h, fun _ _ h _ => h, fun _ h => h⟩
theorem Ex'.trans (e : Ex' β hm H β' hm' H') (e2 : Ex' β' hm' H' β'' hm'' H'') : Ex' β hm H β'' hm'' H'' where
  pre := fun i a h => e2.pre i a (e.pre i a h)
  liv := fun a h => by
    rcases e2.liv a h with q | q
    · exact e.liv a q
    · refine .inr ?_
      cases z : H a with
      | none => rfl
      | some o => exact absurd q (e.thr a (by rw [z]; exact fun w => nomatch w))
  frm := fun a o h n => e2.frm a o (e.frm a o h n) fun q => by
    rcases e.liv a q with q | q
    · exact n q
    · rw [h] at q; cases q
  thr := fun a h => e2.thr a (e.thr a h)
end

mutual
theorem RV.any {T : Tb} {L L' : Addr → Prop} {β β' : List Addr} {H : Hp} (hL : ∀ a, L' a → L a) : ∀ {m : MV} {x : V}, m.fix = true → RV T L β H m x → RV T L' β' H m x
  | _, _, _, .non => .non
  | _, _, _, .bl b => .bl b
  | _, _, _, .int i => .int i
  | _, _, _, .str s => .str s
  | _, _, f, .tup h n r => .tup h (fun q => n (hL _ q)) (RVs.any hL (by simpa [MV.fix] using f) r)
  | _, _, f, .tupK h r => .tupK h (RVs.any hL (by simpa [MV.fix] using f) r)
  | _, _, f, .lst h n r => .lst h (fun q => n (hL _ q)) (RVs.any hL (by simpa [MV.fix] using f) r)
  | _, _, f, .scr h n r => .scr h (fun q => n (hL _ q)) (RVs.any hL (by simpa [MV.fix] using f) r)
  | _, _, f, .scrK h r => .scrK h (RVs.any hL (by simpa [MV.fix] using f) r)
  | _, _, f, .obj hc h n e r => .obj hc h (fun q => n (hL _ q)) e (RVs.any hL (by simpa [MV.fix] using f) r)
  | _, _, f, .loc h => by simp [MV.fix] at f
  | _, _, _, .fn j => .fn j
  | _, _, _, .kd j => .kd j
theorem RVs.any {T : Tb} {L L' : Addr → Prop} {β β' : List Addr} {H : Hp} (hL : ∀ a, L' a → L a) : ∀ {m : List MV} {x : List V}, fixL m = true → RVs T L β H m x → RVs T L' β' H m x
  | _, _, _, .nil => .nil
  | _, _, f, .cons a b => by
    rw [fixL, Bool.and_eq_true] at f
    exact .cons (RV.any hL f.1 a) (RVs.any hL f.2 b)
end

/-! ### objects -/
inductive RFs (T : Tb) (L : Addr → Prop) (β : List Addr) (H : Hp) : List (Nat × MV) → List (Str × V) → Prop
  | nil : RFs T L β H [] []
  | cons {f : Nat} {m : MV} {x : V} {fs : List (Nat × MV)} {gs : List (Str × V)} : RV T L β H m x → RFs T L β H fs gs → RFs T L β H ((f, m) :: fs) ((T.an f, x) :: gs)
/-- the entries of a dict with tuples as keys -/
inductive REs (T : Tb) (L : Addr → Prop) (β : List Addr) (H : Hp) : List (MV × MV) → List (NestedKey × Addr × Value) → Prop
  | nil : REs T L β H [] []
  | cons {k v : MV} {q : NestedKey} {a : Addr} {x : V} {u : Value} {kvs : List (MV × MV)} {es : List (NestedKey × Addr × Value)} : keyT k = some q → RV T L β H k (.ref a) → RV T L β H v x → RelV x u → REs T L β H kvs es → REs T L β H ((k, v) :: kvs) ((q, a, u) :: es)
def ent (hs : NestedKey → Int) (x : NestedKey × Addr × Value) : DictEntry := ⟨hs x.1, .ref x.2.1, x.2.2⟩
inductive RO (T : Tb) (L : Addr → Prop) (β : List Addr) (H : Hp) (hs : NestedKey → Int) : MO → Addr → HO → Prop
  | lst {l : List MV} {xs : List V} {a : Addr} : RVs T L β H l xs → RO T L β H hs (.lst l) a (.lst xs)
  | ins {c : Nat} {fs : List (Nat × MV)} {dx : Addr} {gs : List (Str × V)} {a : Addr} : RFs T L β H fs gs → RO T L β H hs (.ins c fs) a (.ins (T.ca c) dx gs)
  | dt {kvs : List (MV × MV)} {xs : List (NestedKey × Addr × Value)} {es : Array DictEntry} {n : Nat} {a : Addr} {o : Obj} : REs T L β H kvs xs → (xs.map (·.1)).Nodup → o.ExactDict → o.data = .dict es n → es.toList = xs.map (ent hs) → (a == sysModules) = false →
      RO T L β H hs (.dt kvs) a (.ext fun h => h.get? a = some o)
  | dead {a : Addr} {u : HO} : RO T L β H hs .dead a u

section
variable {T : Tb} {L L' : Addr → Prop} {β β' : List Addr} {H H' : Hp} {hs : NestedKey → Int}
theorem RFs.imp (h : ∀ m x, RV T L β H m x → RV T L' β' H' m x) : ∀ {fs : List (Nat × MV)} {gs : List (Str × V)}, RFs T L β H fs gs → RFs T L' β' H' fs gs
  | _, _, .nil => .nil
  | _, _, .cons a b => .cons (h _ _ a) (RFs.imp h b)
theorem REs.imp (h : ∀ m x, RV T L β H m x → RV T L' β' H' m x) : ∀ {fs : List (MV × MV)} {gs : List (NestedKey × Addr × Value)}, REs T L β H fs gs → REs T L' β' H' fs gs
  | _, _, .nil => .nil
  | _, _, .cons k a b r t => .cons k (h _ _ a) (h _ _ b) r (REs.imp h t)
theorem RVs.imp' (h : ∀ m x, RV T L β H m x → RV T L' β' H' m x) : ∀ {fs : List MV} {gs : List V}, RVs T L β H fs gs → RVs T L' β' H' fs gs
  | _, _, .nil => .nil
  | _, _, .cons a b => .cons (h _ _ a) (RVs.imp' h b)
theorem RO.imp (h : ∀ m x, RV T L β H m x → RV T L' β' H' m x) {o : MO} {a : Addr} {u : HO} (r : RO T L β H hs o a u) : RO T L' β' H' hs o a u := by
  cases r with
  | lst r => exact .lst (r.imp' h)
  | ins r => exact .ins (r.imp h)
  | dt r n x d e s => exact .dt (r.imp h) n x d e s
  | dead => exact .dead
end

structure HR (T : Tb) (hs : NestedKey → Int) (Av : Addr → Prop) (β : List Addr) (hm : MH) (H : Hp) : Prop where
  len : β.length = hm.length
  nd : β.Nodup
  av : ∀ a ∈ β, ¬ Av a
  thr : ∀ a ∈ β, H a ≠ none
  avt : ∀ a, Av a → H a ≠ none
  obj : ∀ (i : Nat) (a : Addr) (o : MO), β[i]? = some a → hm[i]? = some o → o ≠ .dead → ∃ u, H a = some u ∧ RO T (lv Av β hm) β H hs o a u

section
variable {T : Tb} {hs : NestedKey → Int} {Av : Addr → Prop} {β β' : List Addr} {hm hm' : MH} {H H' : Hp}
theorem HR.noL (h : HR T hs Av β hm H) {p : Addr} (hp : H p = none) : ¬ lv Av β hm p := fun q => by
  rcases q with q | ⟨i, o, e, _⟩
  · exact h.avt p q hp
  · exact h.thr p (List.mem_of_getElem? e) hp
theorem mineThere (h : HR T hs Av β hm H) {a : Addr} (q : mine β hm a) : a ∈ β := by
  obtain ⟨i, o, e, _⟩ := q
  exact List.mem_of_getElem? e
/-- a new thing that is not one of the numbered -/
theorem Ex'.new {p : Addr} {o : HO} (hp : H p = none) : Ex' β hm H β hm (upd H p o) := by
  refine ⟨fun _ _ h => h, fun _ h => .inl h, fun a u h _ => ?_, fun a h => ?_⟩
  · rw [upd_ne (ne_of_none h hp)]; exact h
  · by_cases e : a = p
    · subst e; exact absurd hp h
    · rw [upd_ne e]; exact h
theorem HR.ext (h : HR T hs Av β hm H) (e : Ex' β hm H β hm H') (k : ∀ a, mine β hm a → H' a = H a) : HR T hs Av β hm H' := by
  refine ⟨h.len, h.nd, h.av, fun a ha => e.thr a (h.thr a ha), fun a ha => e.thr a (h.avt a ha), fun i a o h1 h2 h3 => ?_⟩
  obtain ⟨u, hu, r⟩ := h.obj i a o h1 h2 h3
  refine ⟨u, by rw [k a ⟨i, o, h1, h2, h3⟩]; exact hu, r.imp fun _ _ q => q.mono e⟩
theorem HR.new (h : HR T hs Av β hm H) {p : Addr} {o : HO} (hp : H p = none) : HR T hs Av β hm (upd H p o) :=
  h.ext (Ex'.new hp) fun a q => by
    have hne : a ≠ p := fun e => by subst e; exact h.thr a (mineThere h q) hp
    exact upd_ne hne
/-- a new numbered thing -/
theorem Ex'.alloc (hl : β.length = hm.length) {p : Addr} {u : HO} {o : MO} (hp : H p = none) : Ex' β hm H (β ++ [p]) (hm ++ [o]) (upd H p u) := by
  refine ⟨fun i a h => ?_, fun a q => ?_, fun a v h _ => ?_, fun a h => ?_⟩
  · rw [List.getElem?_append_left (List.getElem?_eq_some_iff.mp h).1]; exact h
  · obtain ⟨i, m, h1, h2, h3⟩ := q
    by_cases hi : i < β.length
    · rw [List.getElem?_append_left hi] at h1
      rw [List.getElem?_append_left (by omega)] at h2
      exact .inl ⟨i, m, h1, h2, h3⟩
    · rw [List.getElem?_append_right (by omega)] at h1
      have e := List.mem_of_getElem? h1
      rw [List.mem_singleton] at e
      rw [e]
      exact .inr hp
  · rw [upd_ne (ne_of_none h hp)]; exact h
  · by_cases e : a = p
    · subst e; exact absurd hp h
    · rw [upd_ne e]; exact h
theorem HR.alloc (h : HR T hs Av β hm H) {p : Addr} {u : HO} {o : MO} (hp : H p = none) (r : RO T (lv Av (β ++ [p]) (hm ++ [o])) (β ++ [p]) (upd H p u) hs o p u) : HR T hs Av (β ++ [p]) (hm ++ [o]) (upd H p u) := by
  have e := Ex'.alloc (u := u) (o := o) h.len hp
  have hpn : p ∉ β := fun q => h.thr p q hp
  refine ⟨by simp [h.len], ?_, fun a ha => ?_, fun a ha => ?_, fun a ha => e.thr a (h.avt a ha), fun i a m h1 h2 h3 => ?_⟩
  · rw [List.nodup_append]
    refine ⟨h.nd, by simp, fun a ha b hb q => ?_⟩
    rw [List.mem_singleton] at hb
    subst hb q
    exact hpn ha
  · rcases List.mem_append.mp ha with q | q
    · exact h.av a q
    · rw [List.mem_singleton] at q
      subst q
      exact fun z => h.avt a z hp
  · rcases List.mem_append.mp ha with q | q
    · exact e.thr a (h.thr a q)
    · rw [List.mem_singleton] at q
      subst q
      rw [upd_same]
      exact fun z => nomatch z
  · by_cases hi : i < β.length
    · rw [List.getElem?_append_left hi] at h1
      rw [List.getElem?_append_left (by have := h.len; omega)] at h2
      obtain ⟨v, hv, rr⟩ := h.obj i a m h1 h2 h3
      have hne : a ≠ p := ne_of_none hv hp
      exact ⟨v, by rw [upd_ne hne]; exact hv, rr.imp fun _ _ q => q.mono e⟩
    · rw [List.getElem?_append_right (by omega)] at h1
      rw [List.getElem?_append_right (by have := h.len; omega)] at h2
      have e1 := List.mem_of_getElem? h1
      have e2 := List.mem_of_getElem? h2
      rw [List.mem_singleton] at e1 e2
      subst e1 e2
      exact ⟨u, upd_same, r⟩
theorem nodup_get {l : List Addr} (hn : l.Nodup) {i j : Nat} {a : Addr} (h1 : l[i]? = some a) (h2 : l[j]? = some a) : i = j := by
  obtain ⟨b1, e1⟩ := List.getElem?_eq_some_iff.mp h1
  obtain ⟨b2, e2⟩ := List.getElem?_eq_some_iff.mp h2
  exact (List.getElem_inj hn).mp (e1.trans e2.symm)
/-- a numbered thing is changed -/
theorem Ex'.write (h : HR T hs Av β hm H) {i : Nat} {a : Addr} {u : HO} {o o' : MO} (hi : β[i]? = some a) (ho : hm[i]? = some o) (hd : o ≠ .dead) : Ex' β hm H β (hm.set i o') (upd H a u) := by
  refine ⟨fun _ _ q => q, fun b q => ?_, fun b v q n => ?_, fun b q => ?_⟩
  · obtain ⟨j, m, h1, h2, h3⟩ := q
    by_cases e : i = j
    · subst e
      exact .inl ⟨i, o, h1, ho, hd⟩
    · rw [List.getElem?_set_ne e] at h2
      exact .inl ⟨j, m, h1, h2, h3⟩
  · have hne : b ≠ a := fun e => by subst e; exact n ⟨i, o, hi, ho, hd⟩
    rw [upd_ne hne]; exact q
  · by_cases e : b = a
    · subst e; rw [upd_same]; exact fun z => nomatch z
    · rw [upd_ne e]; exact q
theorem HR.write (h : HR T hs Av β hm H) {i : Nat} {a : Addr} {u : HO} {o o' : MO} (hi : β[i]? = some a) (ho : hm[i]? = some o) (hd : o ≠ .dead) (r : RO T (lv Av β (hm.set i o')) β (upd H a u) hs o' a u) : HR T hs Av β (hm.set i o') (upd H a u) := by
  have e := Ex'.write (u := u) (o' := o') h hi ho hd
  refine ⟨by simp [h.len], h.nd, h.av, fun b hb => e.thr b (h.thr b hb), fun b hb => e.thr b (h.avt b hb), fun j b m h1 h2 h3 => ?_⟩
  by_cases q : i = j
  · subst q
    have hlt := (List.getElem?_eq_some_iff.mp ho).1
    rw [List.getElem?_set_self hlt] at h2
    cases h2
    rw [hi] at h1; cases h1
    exact ⟨u, upd_same, r⟩
  · rw [List.getElem?_set_ne q] at h2
    obtain ⟨v, hv, rr⟩ := h.obj j b m h1 h2 h3
    have hne : b ≠ a := fun z => by subst z; exact q (nodup_get h.nd hi h1)
    exact ⟨v, by rw [upd_ne hne]; exact hv, rr.imp fun _ _ z => z.mono e⟩
/-- a numbered thing is given up -/
theorem Ex'.kill {i : Nat} : Ex' β hm H β (hm.set i .dead) H := by
  refine ⟨fun _ _ q => q, fun b q => ?_, fun _ _ q _ => q, fun _ q => q⟩
  obtain ⟨j, m, h1, h2, h3⟩ := q
  by_cases e : i = j
  · subst e
    have : m = .dead := by
      by_cases hlt : i < hm.length
      · rw [List.getElem?_set_self hlt] at h2; exact (Option.some.inj h2).symm
      · rw [List.getElem?_eq_none (by simp; omega)] at h2; cases h2
    exact absurd this h3
  · rw [List.getElem?_set_ne e] at h2
    exact .inl ⟨j, m, h1, h2, h3⟩
theorem HR.kill (h : HR T hs Av β hm H) {i : Nat} : HR T hs Av β (hm.set i .dead) H := by
  refine ⟨by simp [h.len], h.nd, h.av, h.thr, h.avt, fun j b m h1 h2 h3 => ?_⟩
  by_cases e : i = j
  · subst e
    have : m = .dead := by
      by_cases hlt : i < hm.length
      · rw [List.getElem?_set_self hlt] at h2; exact (Option.some.inj h2).symm
      · rw [List.getElem?_eq_none (by simp; omega)] at h2; cases h2
    exact absurd this h3
  · rw [List.getElem?_set_ne e] at h2
    obtain ⟨v, hv, rr⟩ := h.obj j b m h1 h2 h3
    exact ⟨v, hv, rr.imp fun _ _ z => z.mono Ex'.kill⟩
theorem notMine_kill (h : HR T hs Av β hm H) {i : Nat} {a : Addr} (hi : β[i]? = some a) : ¬ lv Av β (hm.set i .dead) a := fun q => by
  rcases q with q | ⟨j, m, h1, h2, h3⟩
  · exact h.av a (List.mem_of_getElem? hi) q
  · have e := nodup_get h.nd hi h1
    subst e
    by_cases hlt : i < hm.length
    · rw [List.getElem?_set_self hlt] at h2; exact h3 (Option.some.inj h2).symm
    · rw [List.getElem?_eq_none (by simp; omega)] at h2; cases h2
end

/-! ### slots -/
def SS (T : Tb) (L : Addr → Prop) (β : List Addr) (H : Hp) (σm : MS) (σ : L2.St) : Prop := σm.length = σ.length ∧ ∀ (i : Nat) (v : MV), σm[i]? = some (some v) → ∃ x, σ[i]? = some (some x) ∧ RV T L β H v x
section
variable {T : Tb} {Av : Addr → Prop} {L : Addr → Prop} {β β' : List Addr} {hm hm' : MH} {H H' : Hp} {σm : MS} {σ : L2.St}
theorem SS.mono (s : SS T (lv Av β hm) β H σm σ) (e : Ex' β hm H β' hm' H') : SS T (lv Av β' hm') β' H' σm σ :=
  ⟨s.1, fun i v h => let ⟨x, h1, h2⟩ := s.2 i v h; ⟨x, h1, h2.mono e⟩⟩
theorem SS.set (s : SS T L β H σm σ) {i : Nat} {v : MV} {x : V} (r : RV T L β H v x) : SS T L β H (σm.set i (some v)) (σ.set i (some x)) := by
  refine ⟨by simp [s.1], fun j u h => ?_⟩
  by_cases e : i = j
  · subst e
    by_cases hlt : i < σm.length
    · rw [List.getElem?_set_self hlt] at h
      cases h
      exact ⟨x, List.getElem?_set_self (by rw [← s.1]; exact hlt), r⟩
    · rw [List.getElem?_eq_none (by simp; omega)] at h; cases h
  · rw [List.getElem?_set_ne e] at h
    obtain ⟨y, h1, h2⟩ := s.2 j u h
    exact ⟨y, by rw [List.getElem?_set_ne e]; exact h1, h2⟩
theorem SS.none (s : SS T L β H σm σ) {i : Nat} : SS T L β H (σm.set i none) (σ.set i none) := by
  refine ⟨by simp [s.1], fun j u h => ?_⟩
  by_cases e : i = j
  · subst e
    by_cases hlt : i < σm.length
    · rw [List.getElem?_set_self hlt] at h; cases h
    · rw [List.getElem?_eq_none (by simp; omega)] at h; cases h
  · rw [List.getElem?_set_ne e] at h
    obtain ⟨y, h1, h2⟩ := s.2 j u h
    exact ⟨y, by rw [List.getElem?_set_ne e]; exact h1, h2⟩
theorem SS.wipe (s : SS T L β H σm σ) : ∀ vs : List Nat, SS T L β H (wipeM σm vs) (wipe σ vs)
  | [] => s
  | _ :: vs => (SS.wipe s vs).none
end
end Mi

namespace Mi
open PySem PySem.Spec PyProof.Rows L2

/-- what is wanted behind, of a value and what stands then -/
def Kp (T : Tb) (hs : NestedKey → Int) (Av : Addr → Prop) (β : List Addr) (hm : MH) (H : Hp) (v : MV) (hm' : MH) (Q : VK) : Prop :=
  ∀ (β' : List Addr) (H' : Hp) (x : V), Ex' β hm H β' hm' H' → HR T hs Av β' hm' H' → RV T (lv Av β' hm') β' H' v x → Q x H'
section
variable {T : Tb} {hs : NestedKey → Int} {Av : Addr → Prop} {β : List Addr} {hm hm' : MH} {H : Hp} {Q : VK} {v : MV} {l : List MV} {xs : List V}
theorem Kp.same {x : V} (k : Kp T hs Av β hm H v hm Q) (h : HR T hs Av β hm H) (r : RV T (lv Av β hm) β H v x) : Q x H := k β H x Ex'.refl h r
theorem Kp.tup (k : Kp T hs Av β hm H (.tup l) hm Q) (h : HR T hs Av β hm H) (r : RVs T (lv Av β hm) β H l xs) {p : Addr} (hp : H p = none) : Q (.ref p) (upd H p (.tup xs)) :=
  k β _ _ (Ex'.new hp) (h.new hp) (.tup (.inl upd_same) (fun q => (HR.noL h hp) q) (r.mono (Ex'.new hp)))
theorem Kp.lst (k : Kp T hs Av β hm H (.lst l) hm Q) (h : HR T hs Av β hm H) (r : RVs T (lv Av β hm) β H l xs) {p : Addr} (hp : H p = none) : Q (.ref p) (upd H p (.lst xs)) :=
  k β _ _ (Ex'.new hp) (h.new hp) (.lst upd_same (fun q => (HR.noL h hp) q) (r.mono (Ex'.new hp)))
theorem getLen {α : Type} {l : List α} {a : α} : (l ++ [a])[l.length]? = some a := by simp
theorem Kp.loc {o : MO} {u : HO} (k : Kp T hs Av β hm H (.loc hm.length) (hm ++ [o]) Q) (h : HR T hs Av β hm H) {p : Addr} (hp : H p = none) (r : RO T (lv Av (β ++ [p]) (hm ++ [o])) (β ++ [p]) (upd H p u) hs o p u) : Q (.ref p) (upd H p u) :=
  k _ _ _ (Ex'.alloc h.len hp) (h.alloc hp r) (.loc (by rw [← h.len]; exact getLen))
end

def rO2 (T : Tb) (hs : NestedKey → Int) (f : MV → MV → MH → Out MV) : R2 := fun x y H Q => ∃ (Av : Addr → Prop) (β : List Addr) (hm : MH) (a b v : MV) (hm' : MH),
  HR T hs Av β hm H ∧ RV T (lv Av β hm) β H a x ∧ RV T (lv Av β hm) β H b y ∧ f a b hm = .ok v hm' ∧ Kp T hs Av β hm H v hm' Q

theorem OpR.of {X : Cx} {f : Value → Value → Sem Value} {r r' : R2} (h : OpR X f r) (i : ∀ x y H Q, r' x y H Q → r x y H Q) : OpR X f r' :=
  fun pins s σ H x y v u Q I rx ry q => h pins s σ H x y v u Q I rx ry (i _ _ _ _ q)
theorem CallR.of {X : Cx} {f : Value} {r r' : List V → Hp → VK → Prop} (h : CallR X f r) (i : ∀ xs H Q, r' xs H Q → r xs H Q) : CallR X f r' :=
  fun pins s σ H xs us Q I rx q => h pins s σ H xs us Q I rx (i _ _ _ q)

def opOf : Bop → Operator
  | .add => .Add | .sub => .Sub | .mul => .Mult | .fdiv => .FloorDiv | .mod => .Mod | .pow => .Pow
def coOf : Cop → CmpOp
  | .eq => .Eq | .ne => .NotEq | .lt => .Lt | .le => .LtE | .gt => .Gt | .ge => .GtE | .in_ => .In | .ni => .NotIn

section
variable {T : Tb} {L : Addr → Prop} {β : List Addr} {H : Hp} {x : V} {l : List MV}
theorem RV.int' {i : Int} (r : RV T L β H (.int i) x) : x = .int i := by cases r; rfl
theorem RV.bl' {i : Bool} (r : RV T L β H (.bl i) x) : x = .bl i := by cases r; rfl
theorem RV.str' {i : Str} (r : RV T L β H (.str i) x) : x = .str i := by cases r; rfl
theorem RV.non' (r : RV T L β H .non x) : x = .non := by cases r; rfl
theorem RV.tup' (r : RV T L β H (.tup l) x) : ∃ a xs, x = .ref a ∧ SqT T.K H a xs ∧ RVs T L β H l xs := by
  cases r with
  | tup h n r => exact ⟨_, _, rfl, .inl h, r⟩
  | tupK h r => exact ⟨_, _, rfl, .inr h, r⟩
theorem RV.lst' (r : RV T L β H (.lst l) x) : ∃ a xs, x = .ref a ∧ H a = some (.lst xs) ∧ ¬ L a ∧ RVs T L β H l xs := by
  cases r with
  | lst h n r => exact ⟨_, _, rfl, h, n, r⟩
theorem RV.scr' (r : RV T L β H (.scr l) x) : ∃ a xs, x = .ref a ∧ SqL T.K H a xs ∧ RVs T L β H l xs := by
  cases r with
  | scr h n r => exact ⟨_, _, rfl, .inl h, r⟩
  | scrK h r => exact ⟨_, _, rfl, .inr h, r⟩
theorem RV.loc' {i : Nat} (r : RV T L β H (.loc i) x) : ∃ a, x = .ref a ∧ β[i]? = some a := by
  cases r with
  | loc h => exact ⟨_, rfl, h⟩
end

theorem small_log {i : Int} (h : small i = true) : i.natAbs.log2 < 9000 := by
  have h' : i.natAbs < 2 ^ 9000 := of_decide_eq_true h
  exact PySem.Flt.log2_lt_of (by decide) h'
theorem out_inj {α : Type} {a b : α} {h h' : MH} (e : Out.ok a h = Out.ok b h') : a = b ∧ h = h' := by cases e; exact ⟨rfl, rfl⟩
theorem n100 {n : Nat} (h : n ≤ 100000) : n ≤ sizeLine := by rw [sizeLine_eq]; omega

section
variable {T : Tb} {L : Addr → Prop} {β : List Addr} {H : Hp}
theorem RVs.nil_l {xs : List V} (r : RVs T L β H [] xs) : xs = [] := by cases r; rfl
theorem RVs.nil_r {l : List MV} (r : RVs T L β H l []) : l = [] := by cases r; rfl
end
section
variable {X : Cx} {T : Tb} {hs : NestedKey → Int}
theorem add_ok (hK : X.K = T.K) : OpR X (binaryOp .Add) (rO2 T hs (bop .add)) := by
  intro pins s σ H x y v u Q I rx ry h
  obtain ⟨Av, β, hm, a, b, w, hm', hr, ra, rb, e, k⟩ := h
  cases a with
  | int i =>
    cases b with
    | int j =>
      obtain ⟨rfl, rfl⟩ := out_inj (show Out.ok (MV.int (i + j)) hm = .ok w hm' from e)
      cases ra.int'; cases rb.int'
      exact op_add pins s σ H _ _ v u Q I rx ry ⟨i, j, rfl, rfl, k.same hr (.int _)⟩
    | _ => cases e
  | tup l =>
    cases b with
    | tup l2 =>
      have e' : (if decide (l.length + l2.length ≤ 100000) = true then Out.ok (MV.tup (l ++ l2)) hm else .bad) = .ok w hm' := e
      split at e'
      · rename_i hl
        obtain ⟨rfl, rfl⟩ := out_inj e'
        obtain ⟨p, xs, rfl, s1, q1⟩ := ra.tup'
        obtain ⟨p2, ys, rfl, s2, q2⟩ := rb.tup'
        rw [← hK] at s1 s2
        have hl := of_decide_eq_true hl
        refine op_catA pins s σ H _ _ v u Q I rx ry ⟨p, p2, xs, ys, rfl, rfl, s1, s2, n100 (by rw [← q1.length, ← q2.length]; exact hl), fun e1 => ?_, fun _ e2 => ?_, fun _ _ p hp => k.tup hr (q1.append q2) hp⟩
        · subst e1
          cases q1.nil_r
          exact k.same hr rb
        · subst e2
          cases q2.nil_r
          rw [List.append_nil] at k
          exact k.same hr ra
      · cases e'
    | _ => cases e
  | lst l =>
    cases b with
    | lst l2 =>
      have e' : (if decide (l.length + l2.length ≤ 100000) = true then Out.ok (MV.lst (l ++ l2)) hm else .bad) = .ok w hm' := e
      split at e'
      · rename_i hl
        obtain ⟨rfl, rfl⟩ := out_inj e'
        obtain ⟨p, xs, rfl, s1, _, q1⟩ := ra.lst'
        obtain ⟨p2, ys, rfl, s2, _, q2⟩ := rb.lst'
        have hl := of_decide_eq_true hl
        exact op_cat pins s σ H _ _ v u Q I rx ry ⟨p, p2, xs, ys, rfl, rfl, s1, s2, n100 (by rw [← q1.length, ← q2.length]; exact hl), fun p hp => k.lst hr (q1.append q2) hp⟩
      · cases e'
    | _ => cases e
  | _ => cases b <;> cases e
/-- two ints in, an int out, under a test -/
theorem int2_ok {o : Bop} {c : Int → Int → Bool} {g : Int → Int → Int} {C : Int → Int → Prop} (hop : OpR X (binaryOp (opOf o)) (rI C fun i j => .int (g i j))) (hC : ∀ i j, c i j = true → C i j)
    (he : ∀ a b hm w hm', bop o a b hm = .ok w hm' → ∃ i j, a = .int i ∧ b = .int j ∧ c i j = true ∧ w = .int (g i j) ∧ hm' = hm) : OpR X (binaryOp (opOf o)) (rO2 T hs (bop o)) := by
  intro pins s σ H x y v u Q I rx ry h
  obtain ⟨Av, β, hm, a, b, w, hm', hr, ra, rb, e, k⟩ := h
  obtain ⟨i, j, rfl, rfl, hc, rfl, rfl⟩ := he _ _ _ _ _ e
  cases ra.int'; cases rb.int'
  exact hop pins s σ H _ _ v u Q I rx ry ⟨i, j, rfl, rfl, hC i j hc, k.same hr (.int _)⟩
theorem ite_ok {α : Type} {c : Bool} {a b : α} {h h' : MH} (e : (if c = true then Out.ok a h else .bad) = .ok b h') : c = true ∧ a = b ∧ h = h' := by
  cases c with
  | true => exact ⟨rfl, out_inj e⟩
  | false => cases e
theorem bop_ok (hK : X.K = T.K) (o : Bop) : OpR X (binaryOp (opOf o)) (rO2 T hs (bop o)) := by
  cases o with
  | add => exact add_ok hK
  | sub =>
    refine int2_ok (c := fun _ _ => true) (C := fun _ _ => True) (g := fun i j => i - j) (OpR.of op_sub fun x y H Q ⟨i, j, a, b, _, q⟩ => ⟨i, j, a, b, q⟩) (fun _ _ _ => trivial) fun a b hm w hm' e => ?_
    cases a with
    | int i => cases b with
      | int j =>
        obtain ⟨rfl, rfl⟩ := out_inj (show Out.ok (MV.int (i - j)) hm = .ok w hm' from e)
        exact ⟨i, j, rfl, rfl, rfl, rfl, rfl⟩
      | _ => cases e
    | _ => cases b <;> cases e
  | mul =>
    refine int2_ok (c := fun i j => small i && small j) (C := CMulW) (g := fun i j => i * j) op_mulW (fun i j h => ?_) fun a b hm w hm' e => ?_
    · have h := Bool.and_eq_true_iff.mp h
      have h1 := small_log h.1
      have h2 := small_log h.2
      show i.natAbs.log2 + j.natAbs.log2 < 1000000
      omega
    cases a with
    | int i => cases b with
      | int j =>
        obtain ⟨hc, rfl, rfl⟩ := ite_ok (show (if (small i && small j) = true then Out.ok (MV.int (i * j)) hm else .bad) = .ok w hm' from e)
        exact ⟨i, j, rfl, rfl, hc, rfl, rfl⟩
      | _ => cases e
    | _ => cases b <;> cases e
  | fdiv =>
    refine int2_ok (c := fun i j => decide (0 < j) && small j) (C := CDivW) (g := fun i j => i / j) op_fdivW (fun i j h => ?_) fun a b hm w hm' e => ?_
    · have h := Bool.and_eq_true_iff.mp h
      exact ⟨of_decide_eq_true h.1, small_log h.2⟩
    cases a with
    | int i => cases b with
      | int j =>
        obtain ⟨hc, rfl, rfl⟩ := ite_ok (show (if (decide (0 < j) && small j) = true then Out.ok (MV.int (i / j)) hm else .bad) = .ok w hm' from e)
        exact ⟨i, j, rfl, rfl, hc, rfl, rfl⟩
      | _ => cases e
    | _ => cases b <;> cases e
  | mod =>
    refine int2_ok (c := fun i j => decide (0 < j)) (C := fun _ j => 0 < j) (g := fun i j => i % j) op_mod (fun i j h => of_decide_eq_true h) fun a b hm w hm' e => ?_
    cases a with
    | int i => cases b with
      | int j =>
        obtain ⟨hc, rfl, rfl⟩ := ite_ok (show (if (decide (0 < j)) = true then Out.ok (MV.int (i % j)) hm else .bad) = .ok w hm' from e)
        exact ⟨i, j, rfl, rfl, hc, rfl, rfl⟩
      | _ => cases e
    | _ => cases b <;> cases e
  | pow =>
    refine int2_ok (c := fun i j => decide (0 ≤ j) && decide (j ≤ 1000) && decide (i.natAbs < 1000)) (C := CPow) (g := fun i j => i ^ j.toNat) op_pow (fun i j h => ?_) fun a b hm w hm' e => ?_
    · simp only [Bool.and_eq_true, decide_eq_true_eq] at h
      have h2 : i.natAbs < 2 ^ 64 := Nat.lt_trans h.2 (by decide)
      exact ⟨h.1.1, by omega, h2⟩
    cases a with
    | int i => cases b with
      | int j =>
        obtain ⟨hc, rfl, rfl⟩ := ite_ok (show (if (decide (0 ≤ j) && decide (j ≤ 1000) && decide (i.natAbs < 1000)) = true then Out.ok (MV.int (i ^ j.toNat)) hm else .bad) = .ok w hm' from e)
        exact ⟨i, j, rfl, rfl, hc, rfl, rfl⟩
      | _ => cases e
    | _ => cases b <;> cases e
end

/-! ### data -/
mutual
theorem RV.dp {T : Tb} {L : Addr → Prop} {β : List Addr} {H : Hp} : ∀ {m : MV} {x : V} {d : PyData}, RV T L β H m x → m.pd = some d → Dp T.K H x d
  | _, _, _, .non, e => by simp only [MV.pd, Option.some.injEq] at e; subst e; exact .non
  | _, _, _, .bl b, e => by simp only [MV.pd, Option.some.injEq] at e; subst e; exact .bl b
  | _, _, _, .int i, e => by simp only [MV.pd, Option.some.injEq] at e; subst e; exact .int i
  | _, _, _, .str s, e => by simp only [MV.pd, Option.some.injEq] at e; subst e; exact .str s
  | _, _, d, .tup h n r, e => by
    simp only [MV.pd, Option.map_eq_some_iff] at e
    obtain ⟨ds, e1, rfl⟩ := e
    exact .tup (.inl h) (RVs.dp r e1)
  | _, _, d, .tupK h r, e => by
    simp only [MV.pd, Option.map_eq_some_iff] at e
    obtain ⟨ds, e1, rfl⟩ := e
    exact .tup (.inr h) (RVs.dp r e1)
  | _, _, d, .lst h n r, e => by
    simp only [MV.pd, Option.map_eq_some_iff] at e
    obtain ⟨ds, e1, rfl⟩ := e
    exact .lst (.inl (.inl h)) (RVs.dp r e1)
  | _, _, _, .scr _ _ _, e => by simp only [MV.pd] at e; cases e
  | _, _, _, .scrK _ _, e => by simp only [MV.pd] at e; cases e
  | _, _, _, .obj _ _ _ _ _, e => by simp only [MV.pd] at e; cases e
  | _, _, _, .loc _, e => by simp only [MV.pd] at e; cases e
  | _, _, _, .fn _, e => by simp only [MV.pd] at e; cases e
  | _, _, _, .kd _, e => by simp only [MV.pd] at e; cases e
theorem RVs.dp {T : Tb} {L : Addr → Prop} {β : List Addr} {H : Hp} : ∀ {m : List MV} {x : List V} {d : List PyData}, RVs T L β H m x → pdL m = some d → DpAll T.K H x d
  | _, _, _, .nil, e => by simp only [pdL, Option.some.injEq] at e; subst e; exact .nil
  | _, _, d, .cons (m := m) (ms := ms) a b, e => by
    simp only [pdL] at e
    split at e
    · rename_i x y h1 h2
      cases e
      exact .cons (RV.dp a h1) (RVs.dp b h2)
    · cases e
end
theorem pyEq_some {a b : MV} {k : Bool} (h : pyEq a b = some k) : ∃ d e, a.pd = some d ∧ b.pd = some e ∧ SeqAt.shaped d = true ∧ SeqAt.shaped e = true ∧ k = PyData.eqv d e := by
  unfold pyEq at h
  split at h
  · rename_i d e h1 h2
    split at h
    · rename_i hc
      have hc := Bool.and_eq_true_iff.mp hc
      cases h
      exact ⟨d, e, h1, h2, hc.1, hc.2, rfl⟩
    · cases h
  · cases h
section
variable {X : Cx} {T : Tb} {hs : NestedKey → Int}
theorem eq_ok (hK : X.K = T.K) (hu : X.A.units + 64 < cLine) : OpR X (compareOp .Eq) (rO2 T hs (cop .eq)) := by
  refine OpR.of (op_eqD hu) fun x y H Q h => ?_
  obtain ⟨Av, β, hm, a, b, w, hm', hr, ra, rb, e, k⟩ := h
  have e' : (match pyEq a b with
    | some k => Out.ok (MV.bl k) hm
    | none => .bad) = .ok w hm' := by cases a <;> exact e
  split at e'
  · rename_i q hq
    obtain ⟨rfl, rfl⟩ := out_inj e'
    obtain ⟨d, d', h1, h2, h3, h4, rfl⟩ := pyEq_some hq
    exact ⟨d, d', hK ▸ ra.dp h1, hK ▸ rb.dp h2, h3, h4, k.same hr (.bl _)⟩
  · cases e'
theorem ne_ok (hK : X.K = T.K) (hu : X.A.units + 64 < cLine) : OpR X (compareOp .NotEq) (rO2 T hs (cop .ne)) := by
  refine OpR.of (op_neD hu) fun x y H Q h => ?_
  obtain ⟨Av, β, hm, a, b, w, hm', hr, ra, rb, e, k⟩ := h
  have e' : (match pyEq a b with
    | some k => Out.ok (MV.bl (!k)) hm
    | none => .bad) = .ok w hm' := by cases a <;> exact e
  split at e'
  · rename_i q hq
    obtain ⟨rfl, rfl⟩ := out_inj e'
    obtain ⟨d, d', h1, h2, h3, h4, rfl⟩ := pyEq_some hq
    exact ⟨d, d', hK ▸ ra.dp h1, hK ▸ rb.dp h2, h3, h4, k.same hr (.bl _)⟩
  · cases e'
theorem cmpI_ok {o : Cop} {g : Int → Int → Bool} (hop : OpR X (compareOp (coOf o)) (rI0 fun i j => .bl (g i j)))
    (he : ∀ a b hm w hm', cop o a b hm = .ok w hm' → ∃ i j, a = .int i ∧ b = .int j ∧ w = .bl (g i j) ∧ hm' = hm) : OpR X (compareOp (coOf o)) (rO2 T hs (cop o)) := by
  intro pins s σ H x y v u Q I rx ry h
  obtain ⟨Av, β, hm, a, b, w, hm', hr, ra, rb, e, k⟩ := h
  obtain ⟨i, j, rfl, rfl, rfl, rfl⟩ := he _ _ _ _ _ e
  cases ra.int'; cases rb.int'
  exact hop pins s σ H _ _ v u Q I rx ry ⟨i, j, rfl, rfl, k.same hr (.bl _)⟩
def baseOp : Cop → Bool
  | .in_ => false | .ni => false
  | _ => true
theorem cop_ok (hK : X.K = T.K) (hu : X.A.units + 64 < cLine) (o : Cop) : OpR X (compareOp (coOf o)) (rO2 T hs (cop o)) := by
  cases o with
  | eq => exact eq_ok hK hu
  | ne => exact ne_ok hK hu
  | lt =>
    refine cmpI_ok op_lt fun a b hm w hm' e => ?_
    cases a with
    | int i => cases b with
      | int j => obtain ⟨rfl, rfl⟩ := out_inj (show Out.ok (MV.bl (decide (i < j))) hm = .ok w hm' from e); exact ⟨i, j, rfl, rfl, rfl, rfl⟩
      | _ => cases e
    | _ => cases b <;> cases e
  | le =>
    refine cmpI_ok op_le fun a b hm w hm' e => ?_
    cases a with
    | int i => cases b with
      | int j => obtain ⟨rfl, rfl⟩ := out_inj (show Out.ok (MV.bl (decide (i ≤ j))) hm = .ok w hm' from e); exact ⟨i, j, rfl, rfl, rfl, rfl⟩
      | _ => cases e
    | _ => cases b <;> cases e
  | gt =>
    refine cmpI_ok op_gt fun a b hm w hm' e => ?_
    cases a with
    | int i => cases b with
      | int j => obtain ⟨rfl, rfl⟩ := out_inj (show Out.ok (MV.bl (decide (j < i))) hm = .ok w hm' from e); exact ⟨i, j, rfl, rfl, rfl, rfl⟩
      | _ => cases e
    | _ => cases b <;> cases e
  | ge =>
    refine cmpI_ok op_ge fun a b hm w hm' e => ?_
    cases a with
    | int i => cases b with
      | int j => obtain ⟨rfl, rfl⟩ := out_inj (show Out.ok (MV.bl (decide (j ≤ i))) hm = .ok w hm' from e); exact ⟨i, j, rfl, rfl, rfl, rfl⟩
      | _ => cases e
    | _ => cases b <;> cases e
  | in_ =>
    intro pins s σ H x y v u Q I rx ry h
    obtain ⟨Av, β, hm, a, b, w, hm', hr, ra, rb, e, k⟩ := h
    cases a <;> cases b <;> cases e
  | ni =>
    intro pins s σ H x y v u Q I rx ry h
    obtain ⟨Av, β, hm, a, b, w, hm', hr, ra, rb, e, k⟩ := h
    cases a <;> cases b <;> cases e
end

/-! ### in -/
section
variable {T : Tb} {L : Addr → Prop} {β : List Addr} {H : Hp}
theorem RV.flat {m : MV} {x : V} (r : RV T L β H m x) (h : flat m = true) : flatV x = true := by
  cases r <;> first | rfl | cases h
theorem RVs.flat : ∀ {l : List MV} {xs : List V}, RVs T L β H l xs → l.all Mi.flat = true → xs.all flatV = true
  | _, _, .nil, _ => rfl
  | _, _, .cons a b, h => by
    simp only [List.all_cons, Bool.and_eq_true] at h ⊢
    exact ⟨a.flat h.1, RVs.flat b h.2⟩
theorem RV.eqF {m n : MV} {x y : V} (r : RV T L β H m x) (r2 : RV T L β H n y) (h : Mi.flat m = true) (h2 : Mi.flat n = true) : eqV x y = Mi.eqF m n := by
  cases r <;> first | (cases h; done) | skip
  all_goals (cases r2 <;> first | (cases h2; done) | rfl)
theorem RVs.anyF {a : MV} {y : V} (r2 : RV T L β H a y) (h2 : Mi.flat a = true) : ∀ {l : List MV} {xs : List V}, RVs T L β H l xs → l.all Mi.flat = true → (xs.any fun z => eqV z y) = l.any fun z => Mi.eqF z a
  | _, _, .nil, _ => rfl
  | _, _, .cons a b, h => by
    simp only [List.all_cons, Bool.and_eq_true] at h
    simp only [List.any_cons]
    rw [a.eqF r2 h.1 h2, RVs.anyF r2 h2 b h.2]
end
theorem inT_some {a : MV} {l : List MV} {k : Bool} (h : inT a l = some k) : flat a = true ∧ l.all flat = true ∧ k = l.any fun y => eqF y a := by
  unfold inT at h
  split at h
  · rename_i hc
    have hc := Bool.and_eq_true_iff.mp hc
    cases h
    exact ⟨hc.1, hc.2, rfl⟩
  · cases h
theorem inL_some {a : MV} {l : List MV} {k : Bool} (h : inL a l = some k) : ∃ d ds, a.pd = some d ∧ pdL l = some ds ∧ SeqAt.shaped d = true ∧ SeqAt.shaped (.list ds) = true ∧ k = ds.any fun z => PyData.eqv z d := by
  unfold inL at h
  split at h
  · rename_i d ds h1 h2
    split at h
    · rename_i hc
      have hc := Bool.and_eq_true_iff.mp hc
      cases h
      exact ⟨d, ds, h1, h2, hc.1, hc.2, rfl⟩
    · cases h
  · cases h

/-- what the written tables hold -/
structure KdOk (T : Tb) (w : World) : Prop where
  at_ : ∀ (j : Nat) (t : List (Str × MV)), T.G.kds[j]? = some t → ∃ es n, KDict T.K w (T.ka j) es n
  none : ∀ (j : Nat) (t : List (Str × MV)) (z : Str), T.G.kds[j]? = some t → t.lookup z = none → PySem.W.nsIn T.K (T.ka j) z = some none
  some : ∀ (j : Nat) (t : List (Str × MV)) (z : Str) (m : MV), T.G.kds[j]? = some t → t.lookup z = some m → ∃ (i : Int) (u : Tok), m = .int i ∧ PySem.W.nsIn T.K (T.ka j) z = some (some (.int i u))

/-! ### keys that are tuples -/
section
variable {X : Cx} {pins : List (Addr × Obj)} {σ : L2.St} {H : Hp} {s : Shared} {T : Tb} {L : Addr → Prop} {β : List Addr}
mutual
theorem RV.key (I : Inv X pins σ H s) (hK : X.K = T.K) : ∀ {m : MV} {x : V} {u : Value} {q : NestedKey}, RV T L β H m x → RelV x u → m.nk = some q → NestedIs s.heap q u
  | _, _, u, q, .non, r, e => by simp only [MV.nk, Option.some.injEq] at e; subst e; cases r; exact .none
  | _, _, u, q, .bl b, r, e => by simp only [MV.nk, Option.some.injEq] at e; subst e; cases r; exact .bool rfl
  | _, _, u, q, .int i, r, e => by simp only [MV.nk, Option.some.injEq] at e; subst e; obtain ⟨t, rfl⟩ := r; exact .int i t
  | _, _, u, q, .str z, r, e => by simp only [MV.nk, Option.some.injEq] at e; subst e; obtain ⟨t, rfl⟩ := r; exact .text z t
  | _, _, u, q, .tup h n rr, r, e => by
    simp only [MV.nk, Option.map_eq_some_iff] at e
    obtain ⟨ks, e1, rfl⟩ := e
    cases r
    obtain ⟨its, rv, ⟨o, ho, hc, k, hd⟩, _⟩ := I.tuple (.inl h)
    exact .tup ho hc hd (by simpa using RVs.key I hK rr rv e1)
  | _, _, u, q, .tupK h rr, r, e => by
    simp only [MV.nk, Option.map_eq_some_iff] at e
    obtain ⟨ks, e1, rfl⟩ := e
    cases r
    obtain ⟨its, rv, ⟨o, ho, hc, k, hd⟩, _⟩ := I.tuple (show SqT X.K H _ _ from .inr (by rw [hK]; exact h))
    exact .tup ho hc hd (by simpa using RVs.key I hK rr rv e1)
  | _, _, _, _, .lst _ _ _, _, e => by simp only [MV.nk] at e; cases e
  | _, _, _, _, .scr _ _ _, _, e => by simp only [MV.nk] at e; cases e
  | _, _, _, _, .scrK _ _, _, e => by simp only [MV.nk] at e; cases e
  | _, _, _, _, .obj _ _ _ _ _, _, e => by simp only [MV.nk] at e; cases e
  | _, _, _, _, .loc _, _, e => by simp only [MV.nk] at e; cases e
  | _, _, _, _, .fn _, _, e => by simp only [MV.nk] at e; cases e
  | _, _, _, _, .kd _, _, e => by simp only [MV.nk] at e; cases e
theorem RVs.key (I : Inv X pins σ H s) (hK : X.K = T.K) : ∀ {m : List MV} {x : List V} {us : List Value} {q : List NestedKey}, RVs T L β H m x → Vals x us → nkL m = some q → NestedAll s.heap q us
  | _, _, _, q, .nil, .nil, e => by simp only [nkL, Option.some.injEq] at e; subst e; exact .nil
  | _, _, _, q, .cons a b, .cons r t, e => by
    simp only [nkL] at e
    split at e
    · rename_i k ks h1 h2
      cases e
      exact .cons (RV.key I hK a r h1) (RVs.key I hK b t h2)
    · cases e
end
theorem keyT_some {m : MV} {q : NestedKey} (h : keyT m = some q) : (∃ l, m = .tup l) ∧ m.nk = some q ∧ q.depth ≤ 8 := by
  unfold keyT at h
  split at h
  · rename_i l
    split at h
    · rename_i k hk
      split at h
      · rename_i hd
        cases h
        exact ⟨⟨l, rfl⟩, hk, of_decide_eq_true hd⟩
      · cases h
    · cases h
  · cases h
theorem RV.keyIs (I : Inv X pins σ H s) (hK : X.K = T.K) {m : MV} {x : V} {q : NestedKey} (r : RV T L β H m x) (h : keyT m = some q) : ∃ a, x = .ref a ∧ (nestedKind X.prog X.w).is s.heap q a := by
  obtain ⟨⟨l, rfl⟩, h1, h2⟩ := keyT_some h
  obtain ⟨a, xs, rfl, _, _⟩ := r.tup'
  exact ⟨a, rfl, RV.key I hK r rfl h1, h2⟩
theorem REs.keys (I : Inv X pins σ H s) (hK : X.K = T.K) : ∀ {kvs : List (MV × MV)} {xs : List (NestedKey × Addr × Value)}, REs T L β H kvs xs → ∀ x ∈ xs, (nestedKind X.prog X.w).is s.heap x.1 x.2.1
  | _, _, .nil, x, h => by cases h
  | _, _, .cons k a b r t, x, h => by
    rcases List.mem_cons.mp h with rfl | h
    · obtain ⟨a', e, q⟩ := RV.keyIs I hK a k
      cases e
      exact q
    · exact REs.keys I hK t x h
theorem REs.at : ∀ {kvs : List (MV × MV)} {xs : List (NestedKey × Addr × Value)} (q : NestedKey), REs T L β H kvs xs → (atKey xs q = none ∧ lkT kvs q = none) ∨ ∃ m x u b, atKey xs q = some (b, u) ∧ lkT kvs q = some m ∧ RV T L β H m x ∧ RelV x u
  | _, _, q, .nil => .inl ⟨rfl, rfl⟩
  | _, _, q, .cons (q := q') (k := km) (v := vm) (a := a) (x := x) (u := u) k ra rb r t => by
    obtain ⟨_, h1, _⟩ := keyT_some k
    by_cases e : q' = q
    · subst e
      refine .inr ⟨vm, x, u, a, ?_, ?_, rb, r⟩
      · simp [atKey]
      · simp [lkT, h1]
    · have e1 : ¬ (some q' = some q) := fun z => e (Option.some.inj z)
      rcases REs.at q t with ⟨a1, a2⟩ | ⟨m, x', u', b', a1, a2, a3, a4⟩
      · refine .inl ⟨?_, ?_⟩
        · simp only [atKey, List.find?_cons, e, decide_false] at a1 ⊢; exact a1
        · simp only [lkT, List.find?_cons, h1, e1, decide_false] at a2 ⊢; exact a2
      · refine .inr ⟨m, x', u', b', ?_, ?_, a3, a4⟩
        · simp only [atKey, List.find?_cons, e, decide_false] at a1 ⊢; exact a1
        · simp only [lkT, List.find?_cons, h1, e1, decide_false] at a2 ⊢; exact a2
theorem REs.length : ∀ {kvs : List (MV × MV)} {xs : List (NestedKey × Addr × Value)}, REs T L β H kvs xs → kvs.length = xs.length
  | _, _, .nil => rfl
  | _, _, .cons _ _ _ _ t => by rw [List.length_cons, List.length_cons, REs.length t]
theorem REs.append {k v : MV} {q : NestedKey} {a : Addr} {x : V} {u : Value} (hk : keyT k = some q) (ra : RV T L β H k (.ref a)) (rb : RV T L β H v x) (r : RelV x u) : ∀ {kvs : List (MV × MV)} {xs : List (NestedKey × Addr × Value)}, REs T L β H kvs xs → REs T L β H (kvs ++ [(k, v)]) (xs ++ [(q, a, u)])
  | _, _, .nil => .cons hk ra rb r .nil
  | _, _, .cons k' a' b' r' t => .cons k' a' b' r' (REs.append hk ra rb r t)
theorem REs.put {v : MV} {q : NestedKey} {x : V} {u : Value} (rb : RV T L β H v x) (r : RelV x u) : ∀ {kvs : List (MV × MV)} {xs : List (NestedKey × Addr × Value)}, REs T L β H kvs xs → REs T L β H (kvs.map fun p => if p.1.nk = some q then (p.1, v) else p) (xs.map (putAt q u))
  | _, _, .nil => .nil
  | _, _, .cons (q := q') k' a' b' r' t => by
    obtain ⟨_, h1, _⟩ := keyT_some k'
    by_cases e : q' = q
    · subst e
      simp only [List.map_cons, h1, putAt, if_true]
      exact .cons k' a' rb r (REs.put rb r t)
    · have e1 : ¬ (some q' = some q) := fun z => e (Option.some.inj z)
      simp only [List.map_cons, h1, putAt, e1, e, if_false]
      exact .cons k' a' b' r' (REs.put rb r t)
theorem any_lkT : ∀ (kvs : List (MV × MV)) (q : NestedKey), (kvs.any fun p => decide (p.1.nk = some q)) = (lkT kvs q).isSome
  | [], _ => rfl
  | p :: kvs, q => by
    have ih := any_lkT kvs q
    unfold lkT at ih ⊢
    simp only [List.any_cons, List.find?_cons]
    by_cases e : p.1.nk = some q
    · simp [e]
    · simp only [e, decide_false, Bool.false_or]
      exact ih
theorem REs.stored {k v : MV} {q : NestedKey} {a : Addr} {x : V} {u : Value} (hk : keyT k = some q) (ra : RV T L β H k (.ref a)) (rb : RV T L β H v x) (r : RelV x u) {kvs : List (MV × MV)} {xs : List (NestedKey × Addr × Value)} (t : REs T L β H kvs xs) : REs T L β H (putT kvs q k v) (storedH xs q a u) := by
  unfold putT storedH
  rw [any_lkT]
  rcases REs.at q t with ⟨a1, a2⟩ | ⟨m, x', u', b', a1, a2, _, _⟩
  · rw [a1, a2]
    exact REs.append hk ra rb r t
  · rw [a1, a2]
    exact REs.put rb r t
theorem ent_eq (w : World) (P : Program) (x : NestedKey × Addr × Value) : ent (fun q => q.hash w) x = entryOfKey (nestedKind P w) x := rfl
end

section
variable {X : Cx} {T : Tb} {hs : NestedKey → Int} {w : World}
abbrev hsOf (w : World) : NestedKey → Int := fun q => q.hash w
variable {pins : List (Addr × Obj)} {σ : L2.St} {H : Hp} {s : Shared} {Av : Addr → Prop} {β : List Addr} {hm : MH}
/-- a dict of ours in the heap -/
theorem HR.dict (I : Inv X pins σ H s) (hK : X.K = T.K) (h : HR T (hsOf X.w) Av β hm H) {i : Nat} {a : Addr} {kvs : List (MV × MV)} (hi : β[i]? = some a) (ho : hm[i]? = some (.dt kvs)) :
    ∃ xs o, REs T (lv Av β hm) β H kvs xs ∧ s.heap.DictOfH (nestedKind X.prog X.w) a xs ∧ (a == sysModules) = false ∧ H a = some (.ext fun h => h.get? a = some o) ∧ s.heap.get? a = some o ∧ o.ExactDict := by
  obtain ⟨u, hu, r⟩ := h.obj i a _ hi ho (fun z => nomatch z)
  cases r with
  | @dt _ xs es n _ o re nd ed dat ent low =>
    obtain ⟨q, _, _⟩ := (show ObjOk X.prog X.w H s.heap a (.ext fun h => h.get? a = some o) from I.hok a _ hu)
    exact ⟨xs, o, re, ⟨o, es, n, q, ed, dat, by rw [ent]; rfl, REs.keys I hK re, nd⟩, low, hu, q, ed⟩
theorem inG_ok (hK : X.K = T.K) (hw : X.w = w) (kd : KdOk T w) (hu : X.A.units + 65 < cLine) : OpR X (compareOp .In) (rO2 T (hsOf w) (copG T.G .in_)) := by
  subst hw
  intro pins s σ H x y v u Q I rx ry h
  obtain ⟨Av, β, hm, a, b, w', hm', hr, ra, rb, e, k⟩ := h
  cases b with
  | kd j =>
    cases rb
    cases a with
    | str z =>
      cases ra.str'
      cases ht : T.G.kds[j]? with
      | none =>
        have e' : (match T.G.kds[j]? with | some t => Out.ok (MV.bl (t.lookup z).isSome) hm | none => .bad) = .ok w' hm' := e
        rw [ht] at e'; cases e'
      | some t =>
        have e' : (match T.G.kds[j]? with | some t => Out.ok (MV.bl (t.lookup z).isSome) hm | none => .bad) = .ok w' hm' := e
        rw [ht] at e'
        obtain ⟨rfl, rfl⟩ := out_inj e'
        obtain ⟨es, n, D⟩ := kd.at_ j t ht
        rw [← hK] at D
        refine op_in_kd D pins s σ H _ _ v u Q I rx ry ?_
        cases hl : t.lookup z with
        | none =>
          rw [hl] at k
          exact ⟨z, none, rfl, rfl, hK ▸ kd.none j t z ht hl, k.same hr (.bl _)⟩
        | some m =>
          rw [hl] at k
          obtain ⟨i, uu, _, q⟩ := kd.some j t z m ht hl
          exact ⟨z, some (.int i uu), rfl, rfl, hK ▸ q, k.same hr (.bl _)⟩
    | _ => cases e
  | loc d =>
    obtain ⟨da, rfl, hd⟩ := rb.loc'
    have e' : (match hm[d]?, keyT a with | some (.dt kvs), some q => Out.ok (MV.bl (lkT kvs q).isSome) hm | _, _ => .bad) = .ok w' hm' := by cases a <;> exact e
    split at e'
    · rename_i kvs q h1 h2
      obtain ⟨rfl, rfl⟩ := out_inj e'
      obtain ⟨xs, o, re, dk, low, hx, _, _⟩ := hr.dict I hK hd h1
      obtain ⟨ka, rfl, hk⟩ := RV.keyIs I hK ra h2
      cases rx; cases ry
      refine wpAny_in_heap (by show X.A.units + 1 + 8 < cLine; omega) hk low dk ?_
      refine ⟨.bl (lkT kvs q).isSome, H, I.tok _, ?_, k.same hr (.bl _)⟩
      rcases REs.at q re with ⟨a1, a2⟩ | ⟨m, x', u', b', a1, a2, _, _⟩
      · rw [a1, a2]; rfl
      · rw [a1, a2]; rfl
    · cases e'
  | tup l =>
    have e' : (match inT a l with | some k => Out.ok (MV.bl k) hm | none => .bad) = .ok w' hm' := by cases a <;> exact e
    split at e'
    · rename_i k' hk'
      obtain ⟨rfl, rfl⟩ := out_inj e'
      obtain ⟨f1, f2, rfl⟩ := inT_some hk'
      obtain ⟨p, xs, rfl, sq, rr⟩ := rb.tup'
      refine op_in_seq pins s σ H _ _ v u Q I rx ry ⟨p, xs, rfl, .inr (hK ▸ sq), ra.flat f1, rr.flat f2, ?_⟩
      show Q (.bl (inV x xs)) H
      unfold inV
      rw [RVs.anyF ra f1 rr f2]
      exact k.same hr (.bl _)
    · cases e'
  | lst l =>
    have e' : (match inL a l with | some k => Out.ok (MV.bl k) hm | none => .bad) = .ok w' hm' := by cases a <;> exact e
    split at e'
    · rename_i k' hk'
      obtain ⟨rfl, rfl⟩ := out_inj e'
      obtain ⟨d, ds, h1, h2, h3, h4, rfl⟩ := inL_some hk'
      refine op_inD hu pins s σ H _ _ v u Q I rx ry ⟨d, ds, hK ▸ ra.dp h1, hK ▸ rb.dp (by simp [MV.pd, h2]), h3, h4, k.same hr (.bl _)⟩
    · cases e'
  | _ => cases a <;> cases e
theorem niG_ok (hK : X.K = T.K) (hw : X.w = w) (kd : KdOk T w) (hu : X.A.units + 65 < cLine) : OpR X (compareOp .NotIn) (rO2 T (hsOf w) (copG T.G .ni)) := by
  subst hw
  intro pins s σ H x y v u Q I rx ry h
  obtain ⟨Av, β, hm, a, b, w', hm', hr, ra, rb, e, k⟩ := h
  cases b with
  | kd j =>
    cases rb
    cases a with
    | str z =>
      cases ra.str'
      cases ht : T.G.kds[j]? with
      | none =>
        have e' : (match T.G.kds[j]? with | some t => Out.ok (MV.bl (!(t.lookup z).isSome)) hm | none => .bad) = .ok w' hm' := e
        rw [ht] at e'; cases e'
      | some t =>
        have e' : (match T.G.kds[j]? with | some t => Out.ok (MV.bl (!(t.lookup z).isSome)) hm | none => .bad) = .ok w' hm' := e
        rw [ht] at e'
        obtain ⟨rfl, rfl⟩ := out_inj e'
        obtain ⟨es, n, D⟩ := kd.at_ j t ht
        rw [← hK] at D
        refine op_notIn_kd D pins s σ H _ _ v u Q I rx ry ?_
        cases hl : t.lookup z with
        | none =>
          rw [hl] at k
          exact ⟨z, none, rfl, rfl, hK ▸ kd.none j t z ht hl, k.same hr (.bl _)⟩
        | some m =>
          rw [hl] at k
          obtain ⟨i, uu, _, q⟩ := kd.some j t z m ht hl
          exact ⟨z, some (.int i uu), rfl, rfl, hK ▸ q, k.same hr (.bl _)⟩
    | _ => cases e
  | tup l =>
    have e' : (match inT a l with | some k => Out.ok (MV.bl (!k)) hm | none => .bad) = .ok w' hm' := by cases a <;> exact e
    split at e'
    · rename_i k' hk'
      obtain ⟨rfl, rfl⟩ := out_inj e'
      obtain ⟨f1, f2, rfl⟩ := inT_some hk'
      obtain ⟨p, xs, rfl, sq, rr⟩ := rb.tup'
      refine op_notIn_seq pins s σ H _ _ v u Q I rx ry ⟨p, xs, rfl, .inr (hK ▸ sq), ra.flat f1, rr.flat f2, ?_⟩
      show Q (.bl (!inV x xs)) H
      unfold inV
      rw [RVs.anyF ra f1 rr f2]
      exact k.same hr (.bl _)
    · cases e'
  | lst l =>
    have e' : (match inL a l with | some k => Out.ok (MV.bl (!k)) hm | none => .bad) = .ok w' hm' := by cases a <;> exact e
    split at e'
    · rename_i k' hk'
      obtain ⟨rfl, rfl⟩ := out_inj e'
      obtain ⟨d, ds, h1, h2, h3, h4, rfl⟩ := inL_some hk'
      refine op_notInD hu pins s σ H _ _ v u Q I rx ry ⟨d, ds, hK ▸ ra.dp h1, hK ▸ rb.dp (by simp [MV.pd, h2]), h3, h4, k.same hr (.bl _)⟩
    · cases e'
  | _ => cases a <;> cases e
theorem copG_ok (hK : X.K = T.K) (hw : X.w = w) (kd : KdOk T w) (hu : X.A.units + 65 < cLine) (o : Cop) : OpR X (compareOp (coOf o)) (rO2 T (hsOf w) (copG T.G o)) := by
  cases o with
  | in_ => exact inG_ok hK hw kd hu
  | ni => exact niG_ok hK hw kd hu
  | _ => exact cop_ok hK (by omega) _
end
end Mi

namespace Mi
open PySem PySem.Spec PyProof.Rows L2

section
variable {T : Tb} {L : Addr → Prop} {β : List Addr} {H : Hp} {hs : NestedKey → Int} {Av : Addr → Prop} {hm hm' : MH}
theorem RVs.isEmpty {l : List MV} {xs : List V} (r : RVs T L β H l xs) : l.isEmpty = xs.isEmpty := by cases r <;> rfl
theorem RV.truth {m : MV} {x : V} {k : Bool} {K : PySem.W.Frag} (hK : K = T.K) (r : RV T L β H m x) (h : Mi.truth hm m = some k) : TruV K x H k := by
  subst hK
  cases r with
  | non => cases h; rfl
  | bl b => cases h; rfl
  | int i => cases h; rfl
  | tup h1 _ r => cases h; exact .inr (.inl ⟨_, .inl h1, by rw [r.isEmpty]⟩)
  | tupK h1 r => cases h; exact .inr (.inl ⟨_, .inr h1, by rw [r.isEmpty]⟩)
  | lst h1 _ r => cases h; exact .inl ⟨_, .inl (.inl h1), by rw [r.isEmpty]⟩
  | _ => cases h
/-- a numbered list -/
theorem HR.list (h : HR T hs Av β hm H) {i : Nat} {a : Addr} {l : List MV} (hi : β[i]? = some a) (ho : hm[i]? = some (.lst l)) : ∃ xs, H a = some (.lst xs) ∧ RVs T (lv Av β hm) β H l xs := by
  obtain ⟨u, hu, r⟩ := h.obj i a _ hi ho (fun z => nomatch z)
  cases r with
  | lst r => exact ⟨_, hu, r⟩
/-- a sequence that is read -/
theorem asSeq_ok (h : HR T hs Av β hm H) {m : MV} {x : V} {l : List MV} (r : RV T (lv Av β hm) β H m x) (e : asSeq hm m = some l) : ∃ a xs, x = .ref a ∧ (SqL T.K H a xs ∨ SqT T.K H a xs) ∧ RVs T (lv Av β hm) β H l xs := by
  cases m with
  | tup l' => cases e; obtain ⟨a, xs, rfl, s, q⟩ := r.tup'; exact ⟨a, xs, rfl, .inr s, q⟩
  | lst l' => cases e; obtain ⟨a, xs, rfl, s, _, q⟩ := r.lst'; exact ⟨a, xs, rfl, .inl (.inl (.inl s)), q⟩
  | scr l' => cases e; obtain ⟨a, xs, rfl, s, q⟩ := r.scr'; exact ⟨a, xs, rfl, .inl s, q⟩
  | loc i =>
    obtain ⟨a, rfl, hi⟩ := r.loc'
    have e' : (match hm[i]? with | some (.lst l) => some l | _ => none) = some l := e
    split at e'
    · rename_i l' ho
      cases e'
      obtain ⟨xs, s, q⟩ := h.list hi ho
      exact ⟨a, xs, rfl, .inl (.inl (.inl s)), q⟩
    · cases e'
  | _ => cases e
theorem RVs.atI {l : List MV} {xs : List V} (r : RVs T L β H l xs) {k : Int} {v : MV} (h : L2.atI l k = some v) : ∃ x, L2.atI xs k = some x ∧ RV T L β H v x := by
  unfold L2.atI at h ⊢
  rw [← r.length]
  cases e : ixN l.length k with
  | none => rw [e] at h; cases h
  | some j =>
    rw [e] at h
    exact r.get h
end

section
variable {X : Cx} {T : Tb} {w : World}
theorem getIx_ok (hK : X.K = T.K) (hw : X.w = w) (kd : KdOk T w) (hu : X.A.units + 65 < cLine) : IxR X (rO2 T (hsOf w) (getIx T.G)) := by
  subst hw
  intro value slice pins s σ H x y v u Q I rx ry h hsub
  obtain ⟨Av, β, hm, a, b, w', hm', hr, ra, rb, e, k⟩ := h
  have seq : ∀ i : Int, b = .int i → (match asSeq hm a with | some l => (match atI l i with | some v => Out.ok v hm | none => .bad) | none => .bad) = .ok w' hm' → wpAny (model X.prog X.w) X.A (subscriptTail value slice v u) (EP X pins σ Q) X.xe s := by
    intro i hb e'
    subst hb
    cases rb.int'
    split at e'
    · rename_i l hl
      split at e'
      · rename_i m hat
        obtain ⟨rfl, rfl⟩ := out_inj e'
        obtain ⟨p, xs, rfl, sq, q⟩ := asSeq_ok hr ra hl
        obtain ⟨z, hz, rz⟩ := q.atI hat
        rw [← hK] at sq
        rcases sq with sq | sq
        · exact ix_list value slice pins s σ H _ _ v u Q I rx ry ⟨p, xs, i, z, rfl, rfl, sq, hz, k.same hr rz⟩ hsub
        · exact ix_tup value slice pins s σ H _ _ v u Q I rx ry ⟨p, xs, i, z, rfl, rfl, sq, hz, k.same hr rz⟩ hsub
      · cases e'
    · cases e'
  cases a with
  | kd j =>
    cases ra
    cases b with
    | str z =>
      cases rb.str'
      have e' : (match atKd T.G.kds j z with | some v => Out.ok v hm | none => .bad) = .ok w' hm' := e
      split at e'
      · rename_i m hat
        obtain ⟨rfl, rfl⟩ := out_inj e'
        unfold atKd at hat
        split at hat
        · rename_i t ht
          obtain ⟨es, n, D⟩ := kd.at_ j t ht
          rw [← hK] at D
          obtain ⟨i, uu, rfl, q⟩ := kd.some j t z m ht hat
          exact ix_kdict value slice pins s σ H _ _ v u Q I rx ry ⟨T.ka j, z, .int i, rfl, rfl, ⟨es, n, .int i uu, D.at_, D.lit, hK ▸ q, ⟨uu, rfl⟩⟩, k.same hr (.int i)⟩ hsub
        · cases hat
      · cases e'
    | int i => cases e
    | _ => cases e
  | loc d =>
    cases b with
    | int i => exact seq i rfl e
    | tup l =>
      obtain ⟨da, rfl, hd⟩ := ra.loc'
      have e' : (match hm[d]?, keyT (.tup l) with
        | some (.dt kvs), some q => (match lkT kvs q with
          | some v => Out.ok v hm
          | none => .bad)
        | _, _ => .bad) = .ok w' hm' := e
      split at e'
      · rename_i kvs q h1 h2
        split at e'
        · rename_i m hl
          obtain ⟨rfl, rfl⟩ := out_inj e'
          obtain ⟨xs, o, re, dk, low, hx, _, _⟩ := hr.dict I hK hd h1
          obtain ⟨ka, rfl, hk⟩ := RV.keyIs I hK rb h2
          cases rx; cases ry
          rcases REs.at q re with ⟨a1, a2⟩ | ⟨m', x', u', b', a1, a2, a3, a4⟩
          · rw [a2] at hl; cases hl
          · rw [a2] at hl; cases hl
            exact tail_any dk.typeIs slot_dict_getitem.lookup (wpAny_getItem_heap (by show X.A.units + 1 + 8 < cLine; omega) hk dk a1 ⟨x', H, I.tok _, a4, k.same hr a3⟩) hsub
        · cases e'
      · cases e'
    | _ => cases e
  | _ =>
    cases b with
    | int i => exact seq i rfl e
    | _ => cases e
end

/-! ### stores to items -/
def rSet (T : Tb) (hs : NestedKey → Int) : TSet := fun o i v H Q => ∃ (Av : Addr → Prop) (β : List Addr) (hm : MH) (a b m : MV) (hm' : MH),
  HR T hs Av β hm H ∧ RV T (lv Av β hm) β H a o ∧ RV T (lv Av β hm) β H b i ∧ RV T (lv Av β hm) β H m v ∧ setIx a b m hm = some hm' ∧ ∀ H', Ex' β hm H β hm' H' → HR T hs Av β hm' H' → Q H'
section
variable {X : Cx} {T : Tb} {w : World}
theorem setIx_ok (hK : X.K = T.K) (hw : X.w = w) (hu : X.A.units + 65 < cLine) : PSet X (rSet T (hsOf w)) := by
  subst hw
  intro pins s σ H o i v ov iv u Q I ro ri rv h
  obtain ⟨Av, β, hm, a, b, m, hm', hr, ra, rb, rm, e, k⟩ := h
  cases a with
  | loc d =>
    obtain ⟨da, rfl, hd⟩ := ra.loc'
    have e' := e
    unfold setIx at e'
    dsimp only at e'
    split at e'
    · rename_i l hl
      obtain ⟨xs, s1, q1⟩ := hr.list hd hl
      split at e'
      · rename_i k'
        cases rb.int'
        split at e'
        · rename_i j hj
          have e2 := Option.some.inj e'
          subst e2
          have ew := Ex'.write (u := .lst (xs.set j v)) (o' := .lst (l.set j m)) hr hd hl (fun z => nomatch z)
          refine set_list pins s σ H _ _ v ov iv u Q I ro ri rv ⟨da, xs, k', j, rfl, rfl, s1, by rw [← q1.length]; exact hj, k _ ew (hr.write hd hl (fun z => nomatch z) (.lst ?_))⟩
          exact (q1.set rm j).mono ew
        · cases e'
      · cases e'
    · rename_i kvs hl
      split at e'
      · rename_i q hq
        split at e'
        · rename_i hz
          have e2 := Option.some.inj e'
          subst e2
          have hz := of_decide_eq_true hz
          obtain ⟨xs, ob, re, dk, low, hx, hob, ed⟩ := hr.dict I hK hd hl
          obtain ⟨ka, rfl, hk⟩ := RV.keyIs I hK rb hq
          cases ro; cases ri
          refine wpAny_setItem_heap (by show X.A.units + 1 + 8 < cLine; omega) hk dk (fun h' dk' sb => ?_) (by rw [← re.length]; exact n100 (by omega))
          obtain ⟨ob', es', ep', ho', ed', dat', ent', _, nd'⟩ := dk'
          have ew := Ex'.write (u := .ext fun h => h.get? da = some ob') (o' := .dt (putT kvs q b m)) hr hd hl (fun z => nomatch z)
          refine ⟨_, I.write (x := da) (e := da) (o := .ext fun h => h.get? da = some ob') (by rw [hx]; trivial) (.inl rfl) (fun c w hc z => (sb.2 c hc).trans z) ⟨ob', ho'⟩ ⟨ho', ⟨ob', ho'⟩, fun h1 h2 z1 z2 => z2 _ z1⟩, k _ ew (hr.write hd hl (fun z => nomatch z) ?_)⟩
          exact .dt ((re.stored hq rb rm rv).imp fun _ _ z => z.mono ew) nd' ed' dat' (by rw [ent']; rfl) low
        · cases e'
      · cases e'
    · cases e'
  | _ => cases e
end

/-! ### slices -/
theorem cutM_len (l : List MV) (lo hi : Option Int) : (cutM l lo hi).length ≤ l.length := by
  unfold cutM
  rw [List.length_take, List.length_drop]
  omega
section
variable {T : Tb} {L : Addr → Prop} {β : List Addr} {H : Hp}
theorem RVs.cut {l : List MV} {xs : List V} (r : RVs T L β H l xs) (lo hi : Option Int) : RVs T L β H (cutM l lo hi) (cutV xs lo hi) := by
  unfold cutM cutV
  rw [r.length]
  exact (r.drop _).take _
theorem cut_all {l : List MV} {lo hi : Option Int} (h : HT.sIx l.length 0 lo = 0 ∧ HT.sIx l.length l.length hi = l.length) : cutM l lo hi = l := by
  unfold cutM
  rw [h.1, h.2]
  simp
end
def rSl (T : Tb) (hs : NestedKey → Int) : V → Option Int → Option Int → Hp → VK → Prop := fun x lo hi H Q => ∃ (Av : Addr → Prop) (β : List Addr) (hm : MH) (a v : MV) (hm' : MH),
  HR T hs Av β hm H ∧ RV T (lv Av β hm) β H a x ∧ slcV a lo hi hm = .ok v hm' ∧ Kp T hs Av β hm H v hm' Q
section
variable {X : Cx} {T : Tb} {hs : NestedKey → Int}
theorem slc_ok (hK : X.K = T.K) : SlR X (rSl T hs) := by
  intro pins s σ H x v vl vu lo hi sl Q I rx hsl pl pu h
  obtain ⟨Av, β, hm, a, m, hm', hr, ra, e, k⟩ := h
  cases a with
  | tup l =>
    obtain ⟨rfl, rfl⟩ := out_inj (show Out.ok (MV.tup (cutM l lo hi)) hm = .ok m hm' from e)
    obtain ⟨p, xs, rfl, sq, q⟩ := ra.tup'
    rw [← hK] at sq
    refine sl_tupA pins s σ H _ v vl vu lo hi sl Q I rx hsl pl pu ⟨p, xs, rfl, sq, fun hc => ?_, fun _ p' hp => k.tup hr (q.cut lo hi) hp⟩
    rw [← q.length] at hc
    rw [cut_all hc] at k
    exact k.same hr ra
  | lst l =>
    obtain ⟨rfl, rfl⟩ := out_inj (show Out.ok (MV.lst (cutM l lo hi)) hm = .ok m hm' from e)
    obtain ⟨p, xs, rfl, sq, _, q⟩ := ra.lst'
    exact sl_list pins s σ H _ v vl vu lo hi sl Q I rx hsl pl pu ⟨p, xs, rfl, .inl (.inl sq), fun p' hp => k.lst hr (q.cut lo hi) hp⟩
  | scr l =>
    obtain ⟨rfl, rfl⟩ := out_inj (show Out.ok (MV.lst (cutM l lo hi)) hm = .ok m hm' from e)
    obtain ⟨p, xs, rfl, sq, q⟩ := ra.scr'
    rw [← hK] at sq
    exact sl_list pins s σ H _ v vl vu lo hi sl Q I rx hsl pl pu ⟨p, xs, rfl, sq, fun p' hp => k.lst hr (q.cut lo hi) hp⟩
  | loc i =>
    obtain ⟨p, rfl, hi'⟩ := ra.loc'
    have e' : (match hm[i]? with | some (.lst l) => Out.ok (MV.lst (cutM l lo hi)) hm | _ => .bad) = .ok m hm' := e
    split at e'
    · rename_i l ho
      obtain ⟨rfl, rfl⟩ := out_inj e'
      obtain ⟨xs, sq, q⟩ := hr.list hi' ho
      exact sl_list pins s σ H _ v vl vu lo hi sl Q I rx hsl pl pu ⟨p, xs, rfl, .inl (.inl sq), fun p' hp => k.lst hr (q.cut lo hi) hp⟩
    · cases e'
  | _ => cases e
end

/-! ### built-ins -/
def bval : Blt → Value
  | .len => .builtin "len" | .int => .type "int" | .list => .type "list" | .tuple => .type "tuple" | .abs => .builtin "abs" | .sum => .builtin "sum" | .all => .builtin "all" | .any => .builtin "any"
  | .min => .builtin "min" | .max => .builtin "max" | .divmod => .builtin "divmod" | .sorted => .builtin "sorted" | .repr => .builtin "repr"
def rB (T : Tb) (hs : NestedKey → Int) (f : List MV → MH → Out MV) : List V → Hp → VK → Prop := fun xs H Q => ∃ (Av : Addr → Prop) (β : List Addr) (hm : MH) (l : List MV) (v : MV) (hm' : MH),
  HR T hs Av β hm H ∧ RVs T (lv Av β hm) β H l xs ∧ f l hm = .ok v hm' ∧ Kp T hs Av β hm H v hm' Q
section
variable {T : Tb} {L : Addr → Prop} {β : List Addr} {H : Hp}
theorem RVs.one' {m : MV} {xs : List V} (r : RVs T L β H [m] xs) : ∃ x, xs = [x] ∧ RV T L β H m x := by
  cases r with
  | cons a b => cases b; exact ⟨_, rfl, a⟩
theorem RVs.two' {m n : MV} {xs : List V} (r : RVs T L β H [m, n] xs) : ∃ x y, xs = [x, y] ∧ RV T L β H m x ∧ RV T L β H n y := by
  cases r with
  | cons a b =>
    obtain ⟨y, rfl, q⟩ := b.one'
    exact ⟨_, y, rfl, a, q⟩
theorem RVs.ints : ∀ {l : List MV} {xs : List V} {ns : List Int}, RVs T L β H l xs → intsM l = some ns → xs = ns.map V.int ∧ l = ns.map MV.int
  | _, _, ns, .nil, e => by cases e; exact ⟨rfl, rfl⟩
  | _, _, ns, .cons (m := m) (ms := ms) a b, e => by
    cases m with
    | int i =>
      have e' : (intsM ms).map (i :: ·) = some ns := e
      cases h : intsM ms with
      | none => rw [h] at e'; cases e'
      | some ks =>
        rw [h] at e'; cases e'
        cases a.int'
        obtain ⟨h1, h2⟩ := RVs.ints b h
        exact ⟨by rw [h1]; rfl, by rw [h2]; rfl⟩
    | _ => cases e
theorem RVs.ofInts : ∀ ns : List Int, RVs T L β H (ns.map MV.int) (ns.map V.int)
  | [] => .nil
  | n :: ns => .cons (.int n) (RVs.ofInts ns)
theorem RVs.bools : ∀ {l : List MV} {xs : List V} {ns : List Bool}, RVs T L β H l xs → boolsM l = some ns → xs = ns.map V.bl
  | _, _, ns, .nil, e => by cases e; rfl
  | _, _, ns, .cons (m := m) (ms := ms) a b, e => by
    cases m with
    | bl i =>
      have e' : (boolsM ms).map (i :: ·) = some ns := e
      cases h : boolsM ms with
      | none => rw [h] at e'; cases e'
      | some ks =>
        rw [h] at e'; cases e'
        cases a.bl'
        rw [RVs.bools b h]
        rfl
    | _ => cases e
end
/-! #### sorting -/
theorem insI_perm (a : Int) : ∀ l : List Int, (insI a l).Perm (a :: l)
  | [] => .refl _
  | b :: l => by
    unfold insI
    split
    · exact .refl _
    · exact ((insI_perm a l).cons b).trans (.swap a b l)
theorem sortI_perm : ∀ l : List Int, (sortI l).Perm l
  | [] => .refl _
  | a :: l => (insI_perm a (sortI l)).trans ((sortI_perm l).cons a)
theorem insI_pair (a : Int) : ∀ l : List Int, l.Pairwise (· ≤ ·) → (insI a l).Pairwise (· ≤ ·)
  | [], _ => by simp [insI]
  | b :: l, h => by
    unfold insI
    rw [List.pairwise_cons] at h
    split
    · rename_i q
      refine List.pairwise_cons.mpr ⟨fun c hc => ?_, List.pairwise_cons.mpr h⟩
      rcases List.mem_cons.mp hc with rfl | hc
      · exact q
      · exact Int.le_trans q (h.1 c hc)
    · rename_i q
      refine List.pairwise_cons.mpr ⟨fun c hc => ?_, insI_pair a l h.2⟩
      rcases List.mem_cons.mp ((insI_perm a l).mem_iff.mp hc) with rfl | hc
      · omega
      · exact h.1 c hc
theorem sortI_pair : ∀ l : List Int, (sortI l).Pairwise (· ≤ ·)
  | [] => .nil
  | a :: l => insI_pair a _ (sortI_pair l)
def leP (p q : Int × Int) : Bool := decide (p.1 < q.1 ∨ (p.1 = q.1 ∧ p.2 ≤ q.2))
theorem leP_trans (a b c : Int × Int) (h1 : leP a b = true) (h2 : leP b c = true) : leP a c = true := by
  unfold leP at *
  rw [decide_eq_true_eq] at *
  omega
theorem leP_total (a b : Int × Int) : leP a b = true ∨ leP b a = true := by
  unfold leP
  rw [decide_eq_true_eq, decide_eq_true_eq]
  omega
theorem leP_anti (a b : Int × Int) (h1 : leP a b = true) (h2 : leP b a = true) : a = b := by
  unfold leP at *
  rw [decide_eq_true_eq] at *
  exact Prod.ext (by omega) (by omega)
theorem ltPr_not {a b : Int × Int} (h : ltPr b a = false) : leP a b = true := by
  unfold ltPr at h
  unfold leP
  rw [decide_eq_true_eq]
  split at h
  · have := of_decide_eq_false h; omega
  · have := of_decide_eq_false h; omega
theorem ltPr_le {a b : Int × Int} (h : ltPr a b = true) : leP a b = true := by
  unfold ltPr at h
  unfold leP
  rw [decide_eq_true_eq]
  split at h
  · have := of_decide_eq_true h; omega
  · have := of_decide_eq_true h; omega
theorem insP_perm (a : Int × Int) : ∀ l : List (Int × Int), (insP a l).Perm (a :: l)
  | [] => .refl _
  | b :: l => by
    unfold insP
    split
    · exact ((insP_perm a l).cons b).trans (.swap a b l)
    · exact .refl _
theorem sortP_perm : ∀ l : List (Int × Int), (sortP l).Perm l
  | [] => .refl _
  | a :: l => (insP_perm a (sortP l)).trans ((sortP_perm l).cons a)
theorem insP_pair (a : Int × Int) : ∀ l : List (Int × Int), l.Pairwise (fun x y => leP x y = true) → (insP a l).Pairwise (fun x y => leP x y = true)
  | [], _ => by simp [insP]
  | b :: l, h => by
    unfold insP
    rw [List.pairwise_cons] at h
    split
    · rename_i q
      refine List.pairwise_cons.mpr ⟨fun c hc => ?_, insP_pair a l h.2⟩
      rcases List.mem_cons.mp ((insP_perm a l).mem_iff.mp hc) with rfl | hc
      · exact ltPr_le q
      · exact h.1 c hc
    · rename_i q
      have q : ltPr b a = false := by simpa using q
      refine List.pairwise_cons.mpr ⟨fun c hc => ?_, List.pairwise_cons.mpr h⟩
      rcases List.mem_cons.mp hc with rfl | hc
      · exact ltPr_not q
      · exact leP_trans _ _ _ (ltPr_not q) (h.1 c hc)
theorem sortP_pair : ∀ l : List (Int × Int), (sortP l).Pairwise (fun x y => leP x y = true)
  | [] => .nil
  | a :: l => insP_pair a _ (sortP_pair l)
theorem sortP_eq (l : List (Int × Int)) : sortP l = l.mergeSort leP := by
  refine (sortP_perm l).trans (List.mergeSort_perm l leP).symm |>.eq_of_pairwise (fun x y _ _ h1 h2 => leP_anti x y h1 h2) (sortP_pair l) ?_
  exact List.pairwise_mergeSort (le := leP) (fun a b c h1 h2 => leP_trans a b c h1 h2) (fun a b => Bool.or_eq_true_iff.mpr (leP_total a b)) l
end Mi

namespace Mi
open PySem PySem.Spec PyProof.Rows L2

section
variable {T : Tb} {L : Addr → Prop} {β : List Addr} {H : Hp}
theorem REs.keysRV : ∀ {kvs : List (MV × MV)} {xs : List (NestedKey × Addr × Value)}, REs T L β H kvs xs → RVs T L β H (kvs.map (·.1)) (xs.map fun x => V.ref x.2.1)
  | _, _, .nil => .nil
  | _, _, .cons _ a _ _ t => .cons a (REs.keysRV t)
end
theorem vals_refs : ∀ {us : List Value} {xs : List (NestedKey × Addr × Value)}, us.length = xs.length → (∀ (j : Nat) (v : Value), us[j]? = some v → ∃ y, xs[j]? = some y ∧ v = .ref y.2.1) → Vals (xs.map fun x => V.ref x.2.1) us
  | [], [], _, _ => .nil
  | [], _ :: _, h, _ => by simp at h
  | _ :: _, [], h, _ => by simp at h
  | u :: us, x :: xs, h, q => by
    obtain ⟨y, h1, h2⟩ := q 0 u rfl
    have e : x = y := Option.some.inj h1
    subst e
    exact .cons h2 (vals_refs (by simpa using h) fun j v e => q (j + 1) v (by simpa using e))
/-- every item's truth -/
theorem bools_at {bs : List Bool} {us : List Value} (r : Vals (bs.map V.bl) us) {i : Nat} {v : Value} (h : us[i]? = some v) : v = .bool (bs.getD i false) := by
  have e : us = bs.map Value.bool := r.bls
  subst e
  rw [List.getElem?_map] at h
  cases q : bs[i]? with
  | none => rw [q] at h; cases h
  | some b =>
    rw [q] at h
    cases h
    rw [List.getD_eq_getElem?_getD, q]
    rfl
theorem range_all (bs : List Bool) : ((List.range bs.length).all fun i => bs.getD i false) = bs.all id := by
  rw [Bool.eq_iff_iff, List.all_eq_true, List.all_eq_true]
  constructor
  · intro h b hb
    obtain ⟨i, hi, e⟩ := List.getElem_of_mem hb
    have := h i (List.mem_range.mpr hi)
    rw [List.getD_eq_getElem?_getD, List.getElem?_eq_getElem hi] at this
    rw [← e]
    exact this
  · intro h i hi
    have hi := List.mem_range.mp hi
    rw [List.getD_eq_getElem?_getD, List.getElem?_eq_getElem hi]
    exact h _ (List.getElem_mem hi)
theorem range_any (bs : List Bool) : ((List.range bs.length).any fun i => bs.getD i false) = bs.any id := by
  rw [Bool.eq_iff_iff, List.any_eq_true, List.any_eq_true]
  constructor
  · rintro ⟨i, hi, h⟩
    have hi := List.mem_range.mp hi
    rw [List.getD_eq_getElem?_getD, List.getElem?_eq_getElem hi] at h
    exact ⟨_, List.getElem_mem hi, h⟩
  · rintro ⟨b, hb, h⟩
    obtain ⟨i, hi, e⟩ := List.getElem_of_mem hb
    refine ⟨i, List.mem_range.mpr hi, ?_⟩
    rw [List.getD_eq_getElem?_getD, List.getElem?_eq_getElem hi]
    rw [← e] at h
    exact h

section
variable {X : Cx} {T : Tb} {w : World}
/-- a list of bools is walked by all, any -/
theorem allB_ok (hc : X.calm = true) : CallR X (.builtin "all") (fun xs H Q => ∃ (a : Addr) (bs : List Bool), xs = [.ref a] ∧ SqL X.K H a (bs.map V.bl) ∧ Q (.bl (bs.all id)) H) := by
  intro pins s σ H xs us Q I r h
  obtain ⟨a, bs, rfl, hs, q⟩ := h
  obtain ⟨its, rv, hl, hz⟩ := I.list hs
  rw [Vals.ref1 r]
  have hh := I.ok.hd hc
  refine PySem.call_all_walk (wpAny_pyIter_list hl.isList ?_)
  have hlt : a < s.heap.objs.size := by obtain ⟨o, n, e, _⟩ := hl; exact Heap.lt_size e
  have hne : a ≠ s.heap.objs.size := Nat.ne_of_lt hlt
  obtain ⟨o, e1, e2, n, e4⟩ := hl.isList
  refine ⟨s.heap.objs.size, _, _, _, _, _, fun i => bs.getD i false, rfl, Walks.list (A := X.A.in1) (show X.A.in1.handled = none from hh) _ a hne its.toArray, ⟨⟨_, Heap.get?_push_size _ rfl, rfl, rfl⟩, ⟨o, Heap.get?_push_of_some _ e1, e2, n, e4⟩⟩, fun i v s' Q' E' hp hq => ?_, fun h' tk hk => ?_⟩
  · have e : v = .bool (bs.getD i false) := bools_at rv (by simpa using hp)
    rw [e]
    exact wpAny_truthy_bool hq
  · have hlen : its.toArray.size = bs.length := by have := rv.length; simp at this; simp [this]
    rw [hlen, range_all]
    exact ⟨.bl _, H, I.kept (t' := tk) fun b u e => hk b u (by simpa using Nat.ne_of_lt (Heap.lt_size e)) (Heap.get?_push_of_some _ e), rfl, q⟩
theorem anyB_ok (hc : X.calm = true) : CallR X (.builtin "any") (fun xs H Q => ∃ (a : Addr) (bs : List Bool), xs = [.ref a] ∧ SqL X.K H a (bs.map V.bl) ∧ Q (.bl (bs.any id)) H) := by
  intro pins s σ H xs us Q I r h
  obtain ⟨a, bs, rfl, hs, q⟩ := h
  obtain ⟨its, rv, hl, hz⟩ := I.list hs
  rw [Vals.ref1 r]
  have hh := I.ok.hd hc
  refine PySem.call_any_walk (wpAny_pyIter_list hl.isList ?_)
  have hlt : a < s.heap.objs.size := by obtain ⟨o, n, e, _⟩ := hl; exact Heap.lt_size e
  have hne : a ≠ s.heap.objs.size := Nat.ne_of_lt hlt
  obtain ⟨o, e1, e2, n, e4⟩ := hl.isList
  refine ⟨s.heap.objs.size, _, _, _, _, _, fun i => bs.getD i false, rfl, Walks.list (A := X.A.in1) (show X.A.in1.handled = none from hh) _ a hne its.toArray, ⟨⟨_, Heap.get?_push_size _ rfl, rfl, rfl⟩, ⟨o, Heap.get?_push_of_some _ e1, e2, n, e4⟩⟩, fun i v s' Q' E' hp hq => ?_, fun h' tk hk => ?_⟩
  · have e : v = .bool (bs.getD i false) := bools_at rv (by simpa using hp)
    rw [e]
    exact wpAny_truthy_bool hq
  · have hlen : its.toArray.size = bs.length := by have := rv.length; simp at this; simp [this]
    rw [hlen, range_any]
    exact ⟨.bl _, H, I.kept (t' := tk) fun b u e => hk b u (by simpa using Nat.ne_of_lt (Heap.lt_size e)) (Heap.get?_push_of_some _ e), rfl, q⟩
/-- repr of data -/
theorem reprD_ok (hg : X.A.guards = some []) (hu : X.A.units + 66 < cLine) : CallR X (.builtin "repr") (fun xs H Q => ∃ (a : Addr) (d : PyData), xs = [.ref a] ∧ Dp X.K H (.ref a) d ∧ SeqAt.shaped d = true ∧ d.showable = true ∧ d.shown.length ≤ sizeLine ∧ Q (.str d.shown) H) := by
  intro pins s σ H xs us Q I r h
  obtain ⟨a, d, rfl, hd, hsh, hw, hz, q⟩ := h
  rw [Vals.ref1 r]
  obtain ⟨as, rr⟩ := Dp.reads I d (.ref a) (.ref a) hd rfl
  have hdep := SeqAt.depth_of_shaped hsh
  refine repr_of_reads' rr hw (PyData.noDict_hsm (PyData.hasDict_of_canLay d (SeqAt.canLay_of_shaped hsh))) hg (by omega) (fun b o e => e) (fun h' u tk hk => ?_) hz
  exact ⟨.str d.shown, H, I.kept (t' := tk) hk, ⟨u, rfl⟩, q⟩
end
end Mi

namespace Mi
open PySem PySem.Spec PyProof.Rows L2

abbrev PV := Int × Int × V
def leB (a b : PV) : Bool := decide (a.1 < b.1 ∨ (a.1 = b.1 ∧ a.2.1 ≤ b.2.1))
def encP (b : PV) : PyData := .tuple [.int b.1, .int b.2.1]
theorem each_vals {xs : List V} {us : List Value} : ∀ {bs : List PV}, Vals (bs.map (·.2.2)) us → PySem.W.EachIs (fun v (b : PV) => RelV b.2.2 v) us bs := by
  intro bs
  induction bs generalizing us with
  | nil => intro h; cases h; exact .nil
  | cons b bs ih => intro h; cases h with | cons a t => exact .cons a (ih t)
theorem vals_each {us : List Value} : ∀ {bs : List PV}, PySem.W.EachIs (fun v (b : PV) => RelV b.2.2 v) us bs → Vals (bs.map (·.2.2)) us := by
  intro bs
  induction bs generalizing us with
  | nil => intro h; cases h; exact .nil
  | cons b bs ih => intro h; cases h with | cons a t => exact .cons a (ih t)
theorem each_reads {X : Cx} {pins : List (Addr × Obj)} {σ : L2.St} {H : Hp} {s : Shared} (I : Inv X pins σ H s) : ∀ {us : List Value} {bs : List PV}, (∀ b ∈ bs, Dp X.K H b.2.2 (encP b)) → Vals (bs.map (·.2.2)) us → PySem.W.EachIs (fun v (b : PV) => ∃ as, Reads s.heap v (encP b) as) us bs := by
  intro us bs
  induction bs generalizing us with
  | nil => intro _ h; cases h; exact .nil
  | cons b bs ih =>
    intro hd h
    cases h with
    | cons a t => exact .cons (Dp.reads I _ _ _ (hd b (List.mem_cons_self ..)) a) (ih (fun c hc => hd c (List.mem_cons_of_mem _ hc)) t)
theorem encP_depth (b : PV) : (encP b).depth ≤ 3 := by
  show PyData.depth (.tuple [.int b.1, .int b.2.1]) ≤ 3
  simp [PyData.depth, PyData.depthAll]
theorem encP_room {n : Nat} (hu : n + 66 < cLine) (b : PV) : n + 2 + (encP b).depth < cLine := by
  have := encP_depth b
  omega
section
variable {X : Cx} {T : Tb}
theorem sortedP_ok (hu : X.A.units + 66 < cLine) : CallR X (.builtin "sorted") (fun vs H Q => ∃ (a : Addr) (bs : List PV), vs = [.ref a] ∧ SqL X.K H a (bs.map (·.2.2)) ∧ (∀ b ∈ bs, Dp X.K H b.2.2 (encP b)) ∧
    ∀ p, H p = none → Q (.ref p) (upd H p (.lst ((bs.mergeSort leB).map (·.2.2))))) := by
  intro pins s σ H vs us Q I r h
  obtain ⟨a, bs, rfl, hs, hd, q⟩ := h
  obtain ⟨its, rv, hl, hz⟩ := I.list hs
  rw [Vals.ref1 r]
  have hlen : its.length = bs.length := by have := rv.length; simpa using this.symm
  rw [List.length_map] at hz
  refine PySem.W.sorted_data (enc := encP) (bs := bs) (R := fun v (b : PV) => RelV b.2.2 v) (vs := its) hl.isList (each_vals (xs := []) rv) (each_reads I hd rv)
    (PySem.W.AllAlike.of fun _ _ => rfl) (PySem.W.Sortable.tuples fun b => ⟨_, _, rfl⟩) hz (fun b _ => encP_room hu b) fun out ho eo => ?_
  obtain ⟨ep, he'⟩ := PyProof.Rows.sortedAll_at s.heap its out.toArray
  have e1 : PySem.W.dataLe false encP = leB := by
    unfold encP
    rw [PySem.W.dataLe_ii]
    rfl
  rw [e1] at eo
  have hl2 : ((bs.mergeSort leB).map (·.2.2)).length ≤ sizeLine := by
    rw [List.length_map, List.length_mergeSort]; exact hz
  exact ⟨.ref _, upd H (s.heap.objs.size + 1) (.lst ((bs.mergeSort leB).map (·.2.2))), I.laid (t' := s.toks) (fun _ _ => PyProof.Rows.sortedAll_old) (Nat.le_succ _) ⟨hl2, out, ep, vals_each eo, he'⟩, rfl, q _ (I.hok.fresh (Nat.le_succ _))⟩
end
section
variable {T : Tb} {L : Addr → Prop} {β : List Addr} {H : Hp}
theorem RVs.pairs : ∀ {l : List MV} {xs : List V} {ps : List (Int × Int)}, RVs T L β H l xs → pairsM l = some ps → ∃ bs : List PV, xs = bs.map (·.2.2) ∧ ps = bs.map (fun b => (b.1, b.2.1)) ∧ ∀ b ∈ bs, RV T L β H (.tup [.int b.1, .int b.2.1]) b.2.2
  | _, _, ps, .nil, e => by cases e; exact ⟨[], rfl, rfl, by simp⟩
  | _, _, ps, .cons (m := m) (ms := ms) (v := v) a b, e => by
    unfold pairsM at e
    split at e
    · cases ‹_ :: _ = []›
    · rename_i p q l' heq
      cases heq
      rw [Option.map_eq_some_iff] at e
      obtain ⟨ps', e1, rfl⟩ := e
      obtain ⟨bs, h1, h2, h3⟩ := RVs.pairs b e1
      refine ⟨(p, q, v) :: bs, by rw [h1]; rfl, by rw [h2]; rfl, fun c hc => ?_⟩
      rcases List.mem_cons.mp hc with rfl | hc
      · exact a
      · exact h3 c hc
    · cases e
theorem RVs.sorted {bs : List PV} (h : ∀ b ∈ bs, RV T L β H (.tup [.int b.1, .int b.2.1]) b.2.2) : RVs T L β H (bs.map fun b => .tup [.int b.1, .int b.2.1]) (bs.map (·.2.2)) := by
  induction bs with
  | nil => exact .nil
  | cons b bs ih => exact .cons (h b (List.mem_cons_self ..)) (ih fun c hc => h c (List.mem_cons_of_mem _ hc))
end
theorem sortP_map (bs : List PV) : (sortP (bs.map fun b => (b.1, b.2.1))).map (fun p => MV.tup [.int p.1, .int p.2]) = (bs.mergeSort leB).map fun b => .tup [.int b.1, .int b.2.1] := by
  have h : (bs.mergeSort leB).map (fun b => (b.1, b.2.1)) = (bs.map fun b => (b.1, b.2.1)).mergeSort leP := List.map_mergeSort (r := leB) (s := leP) (fun a _ b _ => rfl)
  rw [sortP_eq, ← h, List.map_map]
  rfl
section
variable {X : Cx} {T : Tb} {w : World}
/-- a list that is read by all, any, sum, sorted -/
theorem SqL.of_lst {H : Hp} {a : Addr} {xs : List V} {K : PySem.W.Frag} (h : H a = some (.lst xs)) : SqL K H a xs := .inl (.inl h)
theorem bLen_ok (hK : X.K = T.K) {hs : NestedKey → Int} : CallR X (.builtin "len") (rB T hs bLen) := by
  refine CallR.of call_len fun xs H Q h => ?_
  obtain ⟨Av, β, hm, l, v, hm', hr, rl, e, k⟩ := h
  unfold bLen at e
  split at e
  · obtain ⟨x, rfl, rx⟩ := rl.one'
    cases rx.str'
    obtain ⟨h1, rfl, rfl⟩ := ite_ok e
    exact ⟨_, _, rfl, ⟨n100 (of_decide_eq_true h1), rfl⟩, k.same hr (.int _)⟩
  · obtain ⟨x, rfl, rx⟩ := rl.one'
    split at e
    · rename_i l' h1
      obtain ⟨rfl, rfl⟩ := out_inj e
      obtain ⟨a, ys, rfl, sq, q⟩ := asSeq_ok hr rx h1
      refine ⟨.ref a, ys.length, rfl, ?_, by rw [← q.length]; exact k.same hr (.int _)⟩
      rw [hK]
      rcases sq with sq | sq
      · exact .inl ⟨ys, sq, rfl⟩
      · exact .inr ⟨ys, sq, rfl⟩
    · cases e
  · cases e
theorem bInt_ok {hs : NestedKey → Int} : CallR X (.type "int") (rB T hs bInt) := by
  refine CallR.of call_int1 fun xs H Q h => ?_
  obtain ⟨Av, β, hm, l, v, hm', hr, rl, e, k⟩ := h
  unfold bInt at e
  split at e
  · obtain ⟨x, rfl, rx⟩ := rl.one'
    cases rx.int'
    obtain ⟨rfl, rfl⟩ := out_inj e
    exact .inl ⟨_, rfl, k.same hr (.int _)⟩
  · obtain ⟨x, rfl, rx⟩ := rl.one'
    cases rx.bl'
    obtain ⟨rfl, rfl⟩ := out_inj e
    exact .inr ⟨_, rfl, k.same hr (.int _)⟩
  · cases e
theorem bList_ok (hK : X.K = T.K) (hc : X.calm = true) : CallR X (.type "list") (rB T (hsOf X.w) bList) := by
  intro pins s σ H xs us Q I r h
  obtain ⟨Av, β, hm, l, v, hm', hr, rl, e, k⟩ := h
  have gen : ∀ m l', l = [m] → asSeq hm m = some l' → v = .lst l' → hm = hm' → wpAny (model X.prog X.w) X.A (call (.type "list") us) (EP X pins σ Q) X.xe s := fun m l' hl e1 e2 e3 => by
    subst hl e2 e3
    obtain ⟨x, rfl, rx⟩ := rl.one'
    obtain ⟨a, ys, rfl, sq, q⟩ := asSeq_ok hr rx e1
    exact call_list_of pins s σ H _ us Q I r ⟨a, ys, rfl, by rw [hK]; exact sq, fun p hp => k.lst hr q hp⟩
  unfold bList at e
  split at e
  · rename_i i
    split at e
    · rename_i kvs ho
      obtain ⟨h1, rfl, rfl⟩ := ite_ok e
      obtain ⟨x, rfl, rx⟩ := rl.one'
      obtain ⟨a, rfl, hi⟩ := rx.loc'
      obtain ⟨ys, o, re, dk, low, hx, _, _⟩ := hr.dict I hK hi ho
      obtain ⟨o', es, ep, g1, g2, g3, g4, g5, g6⟩ := dk
      rw [Vals.ref1 r]
      have hsz : es.size = ys.length := size_of_entries g4
      have hlen : kvs.length ≤ 100000 := of_decide_eq_true h1
      refine PySem.W.kdl_call (PySem.KdlSrc.rawDict low) (I.ok.hd hc) ⟨o', g1, g2, g3⟩ (by rw [hsz, ← re.length]; exact n100 hlen) fun h' tk acc' c' hk hS hit => ?_
      have vv : Vals (ys.map fun x => V.ref x.2.1) acc'.toList := by
        refine vals_refs (by rw [Array.length_toList, hit.1, hsz]) fun j u hu' => ?_
        obtain ⟨hlt, e2⟩ := hit.2 j u (by rw [← Array.getElem?_toList]; exact hu')
        have e3 := entry_at g4 j
        rw [Array.getElem?_eq_getElem hlt] at e3
        cases hy : ys[j]? with
        | none => rw [hy] at e3; cases e3
        | some y =>
          rw [hy] at e3
          have e4 := Option.some.inj e3
          exact ⟨y, rfl, by rw [e2, e4]; rfl⟩
      have hfr : H s.heap.objs.size = none := I.hok.fresh (Nat.le_refl _)
      refine ⟨.ref _, upd H s.heap.objs.size (.lst (ys.map fun x => V.ref x.2.1)), I.laid (t' := tk) hk (Nat.le_refl _) ⟨by rw [List.length_map, ← re.length]; exact n100 hlen, acc'.toList, c', vv, hS⟩, rfl, k.lst hr re.keysRV hfr⟩
    · rename_i l' ho
      obtain ⟨rfl, rfl⟩ := out_inj e
      exact gen (.loc i) l' rfl (by show (match hm[i]? with | some (.lst l) => some l | _ => none) = some l'; rw [ho]) rfl rfl
    · cases e
  · obtain ⟨rfl, rfl⟩ := out_inj e
    exact gen (.tup _) _ rfl rfl rfl rfl
  · obtain ⟨rfl, rfl⟩ := out_inj e
    exact gen (.lst _) _ rfl rfl rfl rfl
  · cases e
theorem bTuple_ok (hK : X.K = T.K) {hs : NestedKey → Int} : CallR X (.type "tuple") (rB T hs bTuple) := by
  refine CallR.of call_tuple_of fun xs H Q h => ?_
  obtain ⟨Av, β, hm, l, v, hm', hr, rl, e, k⟩ := h
  unfold bTuple at e
  split at e
  · rename_i m
    obtain ⟨x, rfl, rx⟩ := rl.one'
    split at e
    · rename_i l' h1
      obtain ⟨rfl, rfl⟩ := out_inj e
      cases m with
      | tup l2 =>
        cases h1
        obtain ⟨a, ys, rfl, sq, q⟩ := id rx.tup'
        exact ⟨a, ys, rfl, .inr ⟨by rw [hK]; exact sq, k.same hr rx⟩⟩
      | lst l2 =>
        cases h1
        obtain ⟨a, ys, rfl, sq, _, q⟩ := rx.lst'
        exact ⟨a, ys, rfl, .inl ⟨SqL.of_lst sq, fun p hp => k.tup hr q hp⟩⟩
      | scr l2 =>
        cases h1
        obtain ⟨a, ys, rfl, sq, q⟩ := rx.scr'
        exact ⟨a, ys, rfl, .inl ⟨by rw [hK]; exact sq, fun p hp => k.tup hr q hp⟩⟩
      | loc i =>
        obtain ⟨a, rfl, hi⟩ := rx.loc'
        have h2 : (match hm[i]? with | some (.lst l) => some l | _ => none) = some l' := h1
        split at h2
        · rename_i l3 ho
          cases h2
          obtain ⟨ys, sq, q⟩ := hr.list hi ho
          exact ⟨a, ys, rfl, .inl ⟨SqL.of_lst sq, fun p hp => k.tup hr q hp⟩⟩
        · cases h2
      | _ => cases h1
    · cases e
  · cases e
theorem bAbs_ok {hs : NestedKey → Int} : CallR X (.builtin "abs") (rB T hs bAbs) := by
  refine CallR.of call_abs fun xs H Q h => ?_
  obtain ⟨Av, β, hm, l, v, hm', hr, rl, e, k⟩ := h
  unfold bAbs at e
  split at e
  · obtain ⟨x, rfl, rx⟩ := rl.one'
    cases rx.int'
    obtain ⟨rfl, rfl⟩ := out_inj e
    exact ⟨_, rfl, k.same hr (.int _)⟩
  · cases e
theorem bSum_ok (hc : X.calm = true) {hs : NestedKey → Int} : CallR X (.builtin "sum") (rB T hs bSum) := by
  refine CallR.of (cr_sum hc) fun xs H Q h => ?_
  obtain ⟨Av, β, hm, l, v, hm', hr, rl, e, k⟩ := h
  unfold bSum at e
  split at e
  · split at e
    · rename_i ns h1
      obtain ⟨rfl, rfl⟩ := out_inj e
      obtain ⟨x, rfl, rx⟩ := rl.one'
      obtain ⟨a, ys, rfl, sq, _, q⟩ := rx.lst'
      obtain ⟨rfl, _⟩ := q.ints h1
      exact ⟨a, ns, rfl, SqL.of_lst sq, k.same hr (.int _)⟩
    · cases e
  · cases e
theorem bAll_ok (hc : X.calm = true) {hs : NestedKey → Int} : CallR X (.builtin "all") (rB T hs bAll) := by
  refine CallR.of (allB_ok hc) fun xs H Q h => ?_
  obtain ⟨Av, β, hm, l, v, hm', hr, rl, e, k⟩ := h
  unfold bAll at e
  split at e
  · split at e
    · rename_i ns h1
      obtain ⟨rfl, rfl⟩ := out_inj e
      obtain ⟨x, rfl, rx⟩ := rl.one'
      obtain ⟨a, ys, rfl, sq, _, q⟩ := rx.lst'
      cases q.bools h1
      exact ⟨a, ns, rfl, SqL.of_lst sq, k.same hr (.bl _)⟩
    · cases e
  · cases e
theorem bAny_ok (hc : X.calm = true) {hs : NestedKey → Int} : CallR X (.builtin "any") (rB T hs bAny) := by
  refine CallR.of (anyB_ok hc) fun xs H Q h => ?_
  obtain ⟨Av, β, hm, l, v, hm', hr, rl, e, k⟩ := h
  unfold bAny at e
  split at e
  · split at e
    · rename_i ns h1
      obtain ⟨rfl, rfl⟩ := out_inj e
      obtain ⟨x, rfl, rx⟩ := rl.one'
      obtain ⟨a, ys, rfl, sq, _, q⟩ := rx.lst'
      cases q.bools h1
      exact ⟨a, ns, rfl, SqL.of_lst sq, k.same hr (.bl _)⟩
    · cases e
  · cases e
theorem bMin_ok (hc : X.calm = true) {hs : NestedKey → Int} : CallR X (.builtin "min") (rB T hs bMin) := by
  refine CallR.of (call_min2 hc) fun xs H Q h => ?_
  obtain ⟨Av, β, hm, l, v, hm', hr, rl, e, k⟩ := h
  unfold bMin at e
  split at e
  · obtain ⟨x, y, rfl, rx, ry⟩ := rl.two'
    cases rx.int'; cases ry.int'
    obtain ⟨rfl, rfl⟩ := out_inj e
    exact ⟨_, _, rfl, k.same hr (.int _)⟩
  · cases e
theorem bMax_ok (hc : X.calm = true) {hs : NestedKey → Int} : CallR X (.builtin "max") (rB T hs bMax) := by
  refine CallR.of (call_max2 hc) fun xs H Q h => ?_
  obtain ⟨Av, β, hm, l, v, hm', hr, rl, e, k⟩ := h
  unfold bMax at e
  split at e
  · obtain ⟨x, y, rfl, rx, ry⟩ := rl.two'
    cases rx.int'; cases ry.int'
    obtain ⟨rfl, rfl⟩ := out_inj e
    exact ⟨_, _, rfl, k.same hr (.int _)⟩
  · cases e
theorem bDivmod_ok {hs : NestedKey → Int} : CallR X (.builtin "divmod") (rB T hs bDivmod) := by
  refine CallR.of call_divmodW fun xs H Q h => ?_
  obtain ⟨Av, β, hm, l, v, hm', hr, rl, e, k⟩ := h
  unfold bDivmod at e
  split at e
  · obtain ⟨x, y, rfl, rx, ry⟩ := rl.two'
    cases rx.int'; cases ry.int'
    obtain ⟨h1, rfl, rfl⟩ := ite_ok e
    simp only [Bool.and_eq_true, decide_eq_true_eq] at h1
    exact ⟨_, _, rfl, ⟨h1.1, PyProof.noPylong_small (by omega)⟩, fun p hp => k.tup hr (.cons (.int _) (.cons (.int _) .nil)) hp⟩
  · cases e
theorem bSorted_ok (hK : X.K = T.K) (hu : X.A.units + 66 < cLine) {hs : NestedKey → Int} : CallR X (.builtin "sorted") (rB T hs bSorted) := by
  intro pins s σ H xs us Q I r h
  obtain ⟨Av, β, hm, l, v, hm', hr, rl, e, k⟩ := h
  unfold bSorted at e
  split at e
  · rename_i l'
    obtain ⟨x, rfl, rx⟩ := rl.one'
    obtain ⟨a, ys, rfl, sq, _, q⟩ := rx.lst'
    split at e
    · rename_i ns h1
      obtain ⟨rfl, rfl⟩ := out_inj e
      obtain ⟨rfl, _⟩ := q.ints h1
      refine cr_sortedI pins s σ H _ us Q I r ⟨a, ns, rfl, SqL.of_lst sq, fun ns' p hp hs hn => ?_⟩
      have e2 : ns' = sortI ns := (hp.trans (sortI_perm ns).symm).eq_of_pairwise (fun x y _ _ h1 h2 => Int.le_antisymm h1 h2) hs (sortI_pair ns)
      rw [e2]
      exact k.lst hr (RVs.ofInts _) hn
    · split at e
      · rename_i ps h2
        obtain ⟨rfl, rfl⟩ := out_inj e
        obtain ⟨bs, rfl, rfl, hb⟩ := q.pairs h2
        refine sortedP_ok hu pins s σ H _ us Q I r ⟨a, bs, rfl, SqL.of_lst sq, fun b hb' => ?_, fun p hp => ?_⟩
        · rw [hK]; exact (hb b hb').dp rfl
        · rw [sortP_map] at k
          exact k.lst hr (RVs.sorted fun b hb' => hb b (List.mem_mergeSort.mp hb')) hp
      · cases e
  · cases e
theorem bRepr_ok (hK : X.K = T.K) (hg : X.A.guards = some []) (hu : X.A.units + 66 < cLine) {hs : NestedKey → Int} : CallR X (.builtin "repr") (rB T hs bRepr) := by
  refine CallR.of (reprD_ok hg hu) fun xs H Q h => ?_
  obtain ⟨Av, β, hm, l, v, hm', hr, rl, e, k⟩ := h
  unfold bRepr at e
  split at e
  · obtain ⟨x, rfl, rx⟩ := rl.one'
    obtain ⟨a, ys, rfl, sq, _, q⟩ := id rx.lst'
    split at e
    · rename_i d hd
      obtain ⟨h1, rfl, rfl⟩ := ite_ok e
      simp only [Bool.and_eq_true, decide_eq_true_eq] at h1
      exact ⟨a, d, rfl, by rw [hK]; exact rx.dp hd, h1.1.1, h1.1.2, n100 h1.2, k.same hr (.str _)⟩
    · cases e
  · cases e
theorem blt_ok (hK : X.K = T.K) (hw : X.w = w) (hc : X.calm = true) (hg : X.A.guards = some []) (hu : X.A.units + 66 < cLine) (b : Blt) : CallR X (bval b) (rB T (hsOf w) (blt b)) := by
  subst hw
  cases b with
  | len => exact bLen_ok hK
  | int => exact bInt_ok
  | list => exact bList_ok hK hc
  | tuple => exact bTuple_ok hK
  | abs => exact bAbs_ok
  | sum => exact bSum_ok hc
  | all => exact bAll_ok hc
  | any => exact bAny_ok hc
  | min => exact bMin_ok hc
  | max => exact bMax_ok hc
  | divmod => exact bDivmod_ok
  | sorted => exact bSorted_ok hK hu
  | repr => exact bRepr_ok hK hg hu
end
end Mi

namespace Mi
open PySem PySem.Spec PyProof.Rows L2

/-- a promise without exceptions -/
abbrev SpG := List V → Hp → VK → Prop
def noE : XK := fun _ _ _ => False
/-- what a code may lean on: room, no repr under way -/
structure Roo (k : Nat) (A : Around) : Prop where
  room : Room k A
  gd : A.guards = some []
theorem Roo.mono {j k : Nat} {A : Around} (r : Roo k A) (h : j ≤ k) : Roo j A := ⟨r.room.mono h, r.gd⟩
theorem Roo.deeper {k : Nat} {A : Around} (r : Roo (k + 1) A) (env : Env) : Roo k (A.deeper env) := ⟨r.room.deeper env, r.gd⟩
theorem Roo.make {k : Nat} {A : Around} (r : Roo (k + 1) A) (C : Addr) (us : List Value) (kw : List (Str × Value)) : Roo k (A.under (.builtin "type.__call__" ⟨.ref C :: us, kw⟩)) := by
  refine ⟨r.room.make C us kw, ?_⟩
  have e : Code.guards (.builtin "type.__call__" ⟨.ref C :: us, kw⟩) = [] := by
    unfold Code.guards
    rw [if_neg]
    simp [Code.isGuard, guardIds]
  simp only [Around.under, e, r.gd]
  rfl

structure FnG (P : Program) (w : World) (K : PySem.W.Frag) (mg : Str → Option Value) (base : Heap) (k : Nat) (f : Addr) (fd : FuncData) (ps : List Str) (sp : SpG) : Prop where
  len : ∀ vs H Q, sp vs H Q → vs.length = ps.length
  run : ∀ (A : Around) (outer : List Env) (s : Shared) (H : Hp) (args : Args) (us : List Value) (vs : List V) (Q : VK), Roo k A → Env0 P w K mg base A outer s H → BindsTo s fd args (ps.zip us) → Vals vs us → sp vs H Q →
    codeAny (model P w) A (.call (.ref f) args) (CR CX0 outer P w H s Q noE) s

section
variable {P : Program} {w : World} {K : PySem.W.Frag} {mg : Str → Option Value} {base : Heap}
/-- the context of a body -/
abbrev cxG (P : Program) (w : World) (K : PySem.W.Frag) (mg : Str → Option Value) (base : Heap) (N : List Str) (qual : Str) (scope : Scope) (f : Addr) (cd : Value) (A : Around) (outer : List Env) (s : Shared) (H : Hp) : Cx := cxOf CX0 P w K mg base N qual scope f cd A outer s H noE
theorem fnG_of {k : Nat} {f : Addr} {x qual : Str} {params : Arguments} {body : List Stmt} {scope : Scope} {dvs : List V} {kws : List (Str × V)} {fd : FuncData} {N ps : List Str} {sp : SpG}
    (D : FunD K x qual params body scope dvs kws f fd) (S : FnScope N ps scope) (len : ∀ vs H Q, sp vs H Q → vs.length = ps.length)
    (hb : ∀ (cdv : Value) (A : Around) (outer : List Env) (s : Shared) (H : Hp) (vs : List V) (Q : VK), Roo k (A.deeper (envOfC qual scope s.heap.objs.size f cdv)) → sp vs H Q →
      ∃ t, PSs (cxG P w K mg base N qual scope f cdv A outer s H) body t ∧ t { nx := fun _ H' => Q .non H', rt := Q } (start N vs) H) :
    FnG P w K mg base (k + 1) f fd ps sp := by
  obtain ⟨oc, od, dV, kV, doc, pm, an, cdv, ct, osl, hfd, hlook, hcode, _, _⟩ := D.ex
  subst hfd
  constructor
  · exact len
  intro A outer s H args us vs Q room env binds rel promise
  have inHeap : K.In s.heap := PySem.W.Frag.In.keeps env.mod.kin fun b o e => (env.bs b o e).1
  have noLimit : s.heap.NoLimit := env.mod.nolimit.keeps fun b o e => (env.bs b o e).1
  have places : ∀ y ∈ ps.zip us, scope.names.lookup y.1 = some .local ∨ (scope.names.lookup y.1 = some .cell ∧ ((cellsFrom (s.heap.objs.size + 1) scope.names []).lookup y.1).isSome = true) := by
    rintro ⟨n, v⟩ hmem
    have hn := S.par n (List.of_mem_zip hmem).1
    exact hn.imp id fun isCell => ⟨isCell, PySem.W.cellsFrom_some _ _ _ (.inl isCell)⟩
  apply codeAny_call_function room.room.depth (inHeap _ _ hlook) rfl S.co S.gen rfl (PySem.W.codeRec_of inHeap hcode)
  apply binds
  apply wpAny_newFunctionEnv_cells S.kind places
  rintro env' rfl s1 started
  obtain ⟨t, walk, goal⟩ := hb cdv A outer s H vs Q (room.deeper _) promise
  have begin_ := inv_start (CX := CX0) (E := noE) S room.room.hd env (len _ _ _ promise) rel started
  refine ⟨noLimit.keeps started.toInCall.keep, codeAny_func (wpAny_mono (walk.run [] s1 _ H _ begin_ goal) ?_ fun _ _ z => z)⟩
  intro flow s' after
  cases flow with
  | next =>
    obtain ⟨σ', H', J, q⟩ := after
    exact ⟨V.non, H', J.os, J.bare, J.base, J.hok, rfl, q⟩
  | ret u =>
    obtain ⟨v, σ', H', J, rv, q⟩ := after
    exact ⟨v, H', J.os, J.bare, J.base, J.hok, rv, q⟩
  | brk => exact after.choose_spec.choose_spec.2.elim
  | cont => exact after.choose_spec.choose_spec.2.elim
end

section
variable {X : Cx} {k : Nat} {f C : Addr} {fd : FuncData} {ps : List Str} {sp : SpG}
/-- no exception comes out -/
theorem CR.back {pins : List (Addr × Obj)} {σ : L2.St} {H : Hp} {s : Shared} {Q : VK} (I : Inv X pins σ H s) {r : Result} {s' : Shared} (h : CR CX0 X.stack X.prog X.w H s Q noE r s') : ∃ u, r = .ok (.ret u) ∧ EP X pins σ Q u s' := by
  cases r with
  | error e => exact (show False from h).elim
  | ok fl =>
    cases fl with
    | ret u => exact ⟨u, rfl, I.after h⟩
    | _ => exact (show False from h).elim
theorem callG {pins : List (Addr × Obj)} {σ : L2.St} {H : Hp} {s : Shared} {Q : VK} {us all : List Value} {vs : List V} {kw : List (Str × Value)} (F : FnG X.prog X.w X.K X.mg X.base k f fd ps sp) (hr : Roo k X.A)
    (I : Inv X pins σ H s) (hb : BindsTo s fd ⟨us, kw⟩ (ps.zip all)) (r : Vals vs all) (h : sp vs H Q) : wpAny (model X.prog X.w) X.A (call (.ref f) us kw) (EP X pins σ Q) X.xe s := by
  refine wpAny_call (codeAny_mono (F.run X.A X.stack s H ⟨us, kw⟩ all vs Q hr I.env0 hb r h) fun res s' hq => ?_)
  obtain ⟨u, rfl, e⟩ := CR.back I hq
  exact e
/-- C(..) -/
theorem makeG {pins : List (Addr × Obj)} {σ : L2.St} {H : Hp} {s : Shared} {Q : VK} {us : List Value} {vs : List V} (M : Mk X.K C f) (F : FnG X.prog X.w X.K X.mg X.base k f fd ps sp) (hr : Roo (k + 1) X.A) (hb : Binds X.K fd ps [])
    (I : Inv X pins σ H s) (r : Vals vs us)
    (h : ∀ x dx, H x = none → H dx = none → dx ≠ x → sp (.ref x :: vs) (upd (upd H dx (.own x)) x (.ins C dx [])) (fun v H2 => v = .non ∧ Q (.ref x) H2)) :
    wpAny (model X.prog X.w) X.A (call (.ref C) us) (EP X pins σ Q) X.xe s := by
  have want := h (s.heap.objs.size + 1) s.heap.objs.size (I.hok.fresh (Nat.le_succ _)) (I.hok.fresh (Nat.le_refl _)) (Nat.ne_of_lt (Nat.lt_succ_self _))
  have made := Inv.made (C := C) I
  have vals : Vals (V.ref (s.heap.objs.size + 1) :: vs) (Value.ref (s.heap.objs.size + 1) :: us) := .cons rfl r
  have bound := hb _ (Value.ref (s.heap.objs.size + 1) :: us) made.kIn (by rw [List.append_nil, ← vals.length]; exact F.len _ _ _ want)
  rw [List.append_nil] at bound
  apply wpAny_call
  apply make_map (f := f) I.kIn M.makes M.init (beq_iff_eq.mp M.fn)
  refine codeAny_mono (F.run _ X.stack _ _ _ _ _ _ (hr.make C us []) (made.env0.make C us []) bound vals want) fun res s' hq => ?_
  obtain ⟨u, rfl, v, H', I3, rv, ev, q3⟩ := CR.back made hq
  subst ev
  exact ⟨rv, V.ref (s.heap.objs.size + 1), H', I3, rfl, q3⟩
end

/-- the law's end: the promise of its def, from the state behind the top -/
theorem law_callG {P : Program} {w : World} {K : PySem.W.Frag} {mg mb : Str → Option Value} {k : Nat} {fa a : Addr} {sp : SpG} {s₁ : Shared} {vs : List Value} {ns : List Int}
    (inK : K.In s₁.heap) (glob : s₁.heap.Ns mainGlobals mg) (blts : s₁.heap.Ns builtinsNs mb) (hblt : ∀ x : Str, x ≠ "__name__" → mb x = bootBuiltins x) (lim : s₁.heap.NoLimit) (nogens : s₁.gens = #[])
    (script : s₁.heap.get? a = some { cls := .type "list", data := .seq vs.toArray }) (intsAre : IntsAre vs ns) (short : ns.length ≤ sizeLine) (room : Roo k callerA)
    (F : ∀ base : Heap, K.In base → base.Ns mainGlobals mg → ∃ (fd : FuncData) (ps : List Str), ps.length = 1 ∧ FnG P w K mg base k fa fd ps sp ∧ Binds K fd ps [])
    (hsp : ∀ H : Hp, Only H → SqL K H a (ns.map V.int) → sp [.ref a] H (fun v _ => v = .bl true)) :
    codeAny (model P w) callerA (.call (.ref fa) ⟨[.ref a], []⟩) (fun r s' => r = .ok (.ret (.bool true)) ∧ OldK s₁.heap s'.heap ∧ s'.os = s₁.os ∧ AllBare s'.gens) s₁ := by
  have scriptVals := vals_ints intsAre
  have main : ∀ H : Hp, Only H → SqL K H a (ns.map V.int) → HOk P w H s₁.heap → (∀ b u, H b = some u → b = a ∧ K.lookup a = none) →
      codeAny (model P w) callerA (.call (.ref fa) ⟨[.ref a], []⟩) (fun r s' => r = .ok (.ret (.bool true)) ∧ OldK s₁.heap s'.heap ∧ s'.os = s₁.os ∧ AllBare s'.gens) s₁ := by
    intro H only sq held sole
    have nsFree : ∀ {b : Addr} {m : Str → Option Value}, s₁.heap.Ns b m → (hidT s₁.heap H).Ns b m := by
      rintro b m ⟨o, es, ep, at_, isDict, rest⟩
      refine ⟨o, es, ep, hidT_get at_ ?_, isDict, rest⟩
      rcases free : H b with _ | u
      · rfl
      · obtain ⟨rfl, _⟩ := sole b u free
        rw [script] at at_
        cases at_
        exact absurd isDict (by intro q; injection q)
    have inBase : K.In (hidT s₁.heap H) := by
      intro b o at_
      refine hidT_get (inK b o at_) ?_
      rcases free : H b with _ | u
      · rfl
      · obtain ⟨rfl, no⟩ := sole b u free
        rw [no] at at_
        cases at_
    obtain ⟨mc, lim1, lim2⟩ := id lim
    have start_ : Env0 P w K mg (hidT s₁.heap H) callerA [] s₁ H :=
      { frames := rfl, mod := ⟨inBase, nsFree glob, ⟨mb, nsFree blts, hblt⟩, mc, nsFree lim1, lim2⟩, bs := fun _ _ e => of_hidT e, bsz := Nat.le_of_eq (hidT_size _ _), funs := trivial, frf := (fun _ z => nomatch z), hok := held, bare := .of_eq nogens }
    obtain ⟨fd, ps, one, fn, binds⟩ := F _ inBase (nsFree glob)
    have bound := binds s₁ [.ref a] inK (by rw [one]; rfl)
    refine codeAny_mono (fn.run callerA [] s₁ H ⟨[.ref a], []⟩ [.ref a] [.ref a] _ room start_ bound (.cons rfl .nil) (hsp H only sq)) ?_
    intro r s' back
    cases r with
    | error e => exact (show False from back).elim
    | ok fl =>
      cases fl with
      | ret u =>
        obtain ⟨v, H', os, bare, un, held', rel, isTrue_⟩ := back
        subst isTrue_
        cases (show u = Value.bool true from rel)
        refine ⟨rfl, OldK.of_keep ?_, os, bare⟩
        intro b o at_
        rcases only b with free | ⟨ob, xs, frozen⟩
        · exact un.keep b o at_ free (fun z => nomatch z) (fun z => nomatch z)
        · have here := (held b _ frozen).1
          have there := (held' b _ (un.frzs b ob _ frozen)).1
          exact (at_.symm.trans here) ▸ there
      | _ => exact (show False from back).elim
  by_cases inText : K.lookup a = none
  · have spot : ∀ b, (if b = a then some (HO.frz { cls := .type "list", data := .seq vs.toArray } (.lst (ns.map V.int))) else none) = none ∨ b = a := by
      intro b
      by_cases e : b = a
      · exact .inr e
      · exact .inl (if_neg e)
    refine main (fun b => if b = a then some (.frz { cls := .type "list", data := .seq vs.toArray } (.lst (ns.map V.int))) else none) (fun b => ?_) (.inl (.inr ⟨_, if_pos rfl⟩)) (fun b u at_ => ?_) (fun b u at_ => ?_)
    · exact (spot b).imp id fun e => ⟨_, _, if_pos e⟩
    · rcases spot b with no | rfl
      · cases no.symm.trans at_
      · cases (if_pos rfl).symm.trans at_
        exact ⟨script, by rw [List.length_map]; exact short, vs, _, scriptVals, script⟩
    · rcases spot b with no | rfl
      · cases no.symm.trans at_
      · exact ⟨rfl, inText⟩
  · obtain ⟨o, at_⟩ := Option.ne_none_iff_exists'.mp inText
    have e := inK a o at_
    rw [script] at e
    cases e
    refine main (fun _ => none) (fun _ => .inl rfl) (.inr ⟨_, vs.toArray, _, at_, rfl, rfl, rfl, ?_, by simpa using scriptVals⟩) (fun _ _ z => nomatch z) (fun _ _ z => nomatch z)
    rw [List.size_toArray, intsAre.length]
    exact short

theorem walkG {l : PySem.W.OpenLaw} {n k : Nat} {q : Program} {loose : List Str} {XP : (Str → Option Value) → Heap → Prop} {YP : World → Heap → Prop} {d : DefRec}
    (most : l.most = some n) (le : n ≤ sizeLine) (nodf : d.params.defaults = []) (room : Roo k callerA)
    (F : ∀ (w : World) (mg : Str → Option Value) (fa : Addr) (h : Heap), YP w h → h.Ns mainGlobals mg → mg d.name = some (.ref fa) →
      ∃ (K : PySem.W.Frag) (sp : SpG), K.In h ∧
        (∀ (H : Hp) (a : Addr) (ns : List Int), ns.length ≤ n → Only H → SqL K H a (ns.map V.int) → sp [.ref a] H (fun v _ => v = .bl true)) ∧
        ∀ base : Heap, K.In base → base.Ns mainGlobals mg → ∃ (fd : FuncData) (ps : List Str), ps.length = 1 ∧ FnG l.prog w K mg base k fa fd ps sp ∧ Binds K fd ps []) :
    PySem.W.WalkO q loose XP YP l.row.toRowW d [] (fun f vs => PySem.call f vs) := by
  apply Att.attach_call most nodf
  intro w s₀ s₁ mg mb fa o pm cd doc a vs ns G Y _ _ _ named script intsAre len nogens
  obtain ⟨K, sp, inK, promise, fn⟩ := F w mg fa _ Y G.T.g named
  exact law_callG inK G.T.g G.T.b G.T.builtins G.T.nolimit nogens script intsAre (Nat.le_trans len le) room fn fun H only sq => promise H a ns len only sq
end Mi

namespace Mi
open PySem PySem.Spec PyProof.Rows L2

/-- a state of the interpreter for one of the layer -/
structure Sg (T : Tb) (w : World) (Av : Addr → Prop) (β : List Addr) (hm : MH) (H : Hp) (σm : MS) (σ : L2.St) : Prop where
  hr : HR T (hsOf w) Av β hm H
  ss : SS T (lv Av β hm) β H σm σ
section
variable {T : Tb} {w : World} {Av : Addr → Prop} {β β' : List Addr} {hm hm' hm2 : MH} {H H' : Hp} {σm : MS} {σ : L2.St} {Q : VK} {v : MV}
theorem Sg.mono (g : Sg T w Av β hm H σm σ) (e : Ex' β hm H β' hm' H') (h : HR T (hsOf w) Av β' hm' H') : Sg T w Av β' hm' H' σm σ := ⟨h, g.ss.mono e⟩
theorem Kp.after {hs : NestedKey → Int} (k : Kp T hs Av β hm H v hm2 Q) (e : Ex' β hm H β' hm' H') : Kp T hs Av β' hm' H' v hm2 Q := fun β2 H2 x e2 => k β2 H2 x (e.trans e2)
end
/-- behind a list of values, a test, a store -/
def Kps (T : Tb) (w : World) (Av : Addr → Prop) (β : List Addr) (hm : MH) (H : Hp) (vs : List MV) (hm' : MH) (Q : List V → Hp → Prop) : Prop :=
  ∀ (β' : List Addr) (H' : Hp) (xs : List V), Ex' β hm H β' hm' H' → HR T (hsOf w) Av β' hm' H' → RVs T (lv Av β' hm') β' H' vs xs → Q xs H'
def Kpt (T : Tb) (w : World) (Av : Addr → Prop) (β : List Addr) (hm : MH) (H : Hp) (hm' : MH) (Q : Hp → Prop) : Prop :=
  ∀ (β' : List Addr) (H' : Hp), Ex' β hm H β' hm' H' → HR T (hsOf w) Av β' hm' H' → Q H'

section
variable (T : Tb) (w : World) (F : Fn)
def tE (e : Ex) : TE := fun σ H Q => ∃ (Av : Addr → Prop) (β : List Addr) (hm : MH) (σm : MS) (v : MV) (hm' : MH), Sg T w Av β hm H σm σ ∧ evE T.G F e σm hm = .ok v hm' ∧ Kp T (hsOf w) Av β hm H v hm' Q
def tT (e : Ex) : TT := fun σ H Q => ∃ (Av : Addr → Prop) (β : List Addr) (hm : MH) (σm : MS) (v : MV) (hm' : MH) (b : Bool), Sg T w Av β hm H σm σ ∧ evE T.G F e σm hm = .ok v hm' ∧ truth hm' v = some b ∧ Kpt T w Av β hm H hm' (Q b)
def tAs (l : List Ex) : TA := fun σ H Q => ∃ (Av : Addr → Prop) (β : List Addr) (hm : MH) (σm : MS) (vs : List MV) (hm' : MH), Sg T w Av β hm H σm σ ∧ evL T.G F l σm hm = .ok vs hm' ∧ Kps T w Av β hm H vs hm' Q
def tOo (e : Option Ex) : TO := fun σ H Q => ∃ (Av : Addr → Prop) (β : List Addr) (hm : MH) (σm : MS) (v : Option Int) (hm' : MH), Sg T w Av β hm H σm σ ∧ evO T.G F e σm hm = .ok v hm' ∧ Kpt T w Av β hm H hm' (Q v)
end

/-! ### weaker readings -/
section
variable {X : Cx}
theorem PE.of {e : Expr} {t t' : TE} (h : PE X e t) (i : ∀ σ H Q, t' σ H Q → t σ H Q) : PE X e t' := ⟨fun pins s σ H Q I q => h.run pins s σ H Q I (i σ H Q q)⟩
theorem PT.of {e : Expr} {t t' : TT} (h : PT X e t) (i : ∀ σ H Q, t' σ H Q → t σ H Q) : PT X e t' := ⟨fun pins s σ H Q I q => h.run pins s σ H Q I (i σ H Q q)⟩
theorem PW.of {e : Expr} {t t' : TT} (h : PW X e t) (i : ∀ σ H Q, t' σ H Q → t σ H Q) : PW X e t' := ⟨fun wh pins s σ H Q I q => h.run wh pins s σ H Q I (i σ H Q q)⟩
theorem PA.of {e : List Expr} {t t' : TA} (h : PA X e t) (i : ∀ σ H Q, t' σ H Q → t σ H Q) : PA X e t' := ⟨fun ps pins s σ H Q I q => h.run ps pins s σ H Q I (i σ H Q q)⟩
theorem PO.of {e : Option Expr} {t t' : TO} (h : PO X e t) (i : ∀ σ H Q, t' σ H Q → t σ H Q) : PO X e t' := ⟨fun pins s σ H Q I q => h.run pins s σ H Q I (i σ H Q q)⟩
theorem PS.of {e : Stmt} {t t' : TS} (h : PS X e t) (i : ∀ D σ H, t' D σ H → t D σ H) : PS X e t' := ⟨fun pins s σ H D I q => h.run pins s σ H D I (i D σ H q)⟩
theorem PSs.of {e : List Stmt} {t t' : TS} (h : PSs X e t) (i : ∀ D σ H, t' D σ H → t D σ H) : PSs X e t' := ⟨fun pins s σ H D I q => h.run pins s σ H D I (i D σ H q)⟩
theorem PI.of {tg e : Expr} {t t' : TI} (h : PI X tg e t) (i : ∀ σ H R, t' σ H R → t σ H R) : PI X tg e t' := ⟨fun pins s σ H R I q => h.run pins s σ H R I (i σ H R q)⟩
theorem PG.of {e : Expr} {t t' : TG} (h : PG X e t) (i : ∀ v σ H Q, t' v σ H Q → t v σ H Q) : PG X e t' := ⟨fun pins s σ H v u Q I r q => h.run pins s σ H v u Q I r (i v σ H Q q)⟩
end

/-! ### chains of evaluation -/
/-- e is evaluated, then R -/
theorem tE_then {T : Tb} {w : World} {F : Fn} {e : Ex} {Av : Addr → Prop} {β : List Addr} {hm h1 : MH} {σm : MS} {σ : L2.St} {H : Hp} {v : MV} {R : VK} (g : Sg T w Av β hm H σm σ) (he : evE T.G F e σm hm = .ok v h1)
    (k : ∀ (β1 : List Addr) (H1 : Hp) (x : V), Ex' β hm H β1 h1 H1 → Sg T w Av β1 h1 H1 σm σ → RV T (lv Av β1 h1) β1 H1 v x → R x H1) : tE T w F e σ H R :=
  ⟨Av, β, hm, σm, v, h1, g, he, fun β1 H1 x e1 hr rv => k β1 H1 x e1 (g.mono e1 hr) rv⟩
theorem tAs_then {T : Tb} {w : World} {F : Fn} {l : List Ex} {Av : Addr → Prop} {β : List Addr} {hm h1 : MH} {σm : MS} {σ : L2.St} {H : Hp} {vs : List MV} {R : List V → Hp → Prop} (g : Sg T w Av β hm H σm σ) (he : evL T.G F l σm hm = .ok vs h1)
    (k : ∀ (β1 : List Addr) (H1 : Hp) (xs : List V), Ex' β hm H β1 h1 H1 → Sg T w Av β1 h1 H1 σm σ → RVs T (lv Av β1 h1) β1 H1 vs xs → R xs H1) : tAs T w F l σ H R :=
  ⟨Av, β, hm, σm, vs, h1, g, he, fun β1 H1 x e1 hr rv => k β1 H1 x e1 (g.mono e1 hr) rv⟩
theorem tOo_then {T : Tb} {w : World} {F : Fn} {e : Option Ex} {Av : Addr → Prop} {β : List Addr} {hm h1 : MH} {σm : MS} {σ : L2.St} {H : Hp} {v : Option Int} {R : Option Int → Hp → Prop} (g : Sg T w Av β hm H σm σ) (he : evO T.G F e σm hm = .ok v h1)
    (k : ∀ (β1 : List Addr) (H1 : Hp), Ex' β hm H β1 h1 H1 → Sg T w Av β1 h1 H1 σm σ → R v H1) : tOo T w F e σ H R :=
  ⟨Av, β, hm, σm, v, h1, g, he, fun β1 H1 e1 hr => k β1 H1 e1 (g.mono e1 hr)⟩
/-- two, then an operation -/
theorem tOp_of {T : Tb} {w : World} {F : Fn} {a b : Ex} {f : MV → MV → MH → Out MV} {Av : Addr → Prop} {β : List Addr} {hm h1 h2 hm' : MH} {σm : MS} {σ : L2.St} {H : Hp} {x y v : MV} {Q : VK} (g : Sg T w Av β hm H σm σ)
    (ha : evE T.G F a σm hm = .ok x h1) (hb : evE T.G F b σm h1 = .ok y h2) (hf : f x y h2 = .ok v hm') (k : Kp T (hsOf w) Av β hm H v hm' Q) : tOp (rO2 T (hsOf w) f) (tE T w F a) (tE T w F b) σ H Q :=
  tE_then g ha fun β1 H1 x1 e1 g1 r1 => tE_then g1 hb fun β2 H2 y1 e2 g2 r2 => ⟨Av, β2, h2, x, y, v, hm', g2.hr, r1.mono e2, r2, hf, k.after (e1.trans e2)⟩

section
variable {X : Cx} {T : Tb} {w : World} {F : Fn} {pos : Pos}
theorem e_var {i : Nat} {y : Str} (hN : X.N[i]? = some y) (hv : Vis X.env.scope y) (hd : (y == ("__debug__" : Str)) = false) (hcd : (y == ("__classdict__" : Str)) = false) : PE X (.Name y pos) (tE T w F (.var i)) := by
  refine PE.of (pe_var hN hv hd hcd) fun σ H Q h => ?_
  obtain ⟨Av, β, hm, σm, v, hm', g, e, k⟩ := h
  simp only [evE] at e
  split at e
  · rename_i u hu
    obtain ⟨rfl, rfl⟩ := out_inj e
    obtain ⟨x, h1, h2⟩ := g.ss.2 i _ hu
    exact ⟨x, h1, k.same g.hr h2⟩
  · cases e
theorem e_const {e : Ex} {x : Expr} {m : MV} {c : V} (h : PE X x (tC c)) (he : ∀ σm hm, evE T.G F e σm hm = .ok m hm) (r : ∀ L β H, RV T L β H m c) : PE X x (tE T w F e) := by
  refine PE.of h fun σ H Q h => ?_
  obtain ⟨Av, β, hm, σm, v, hm', g, ev, k⟩ := h
  rw [he] at ev
  obtain ⟨rfl, rfl⟩ := out_inj ev
  exact k.same g.hr (r _ _ _)
theorem e_bin {o : Bop} {a b : Ex} {p q : Expr} (hK : X.K = T.K) (ha : PE X p (tE T w F a)) (hb : PE X q (tE T w F b)) : PE X (.BinOp p (opOf o) q pos) (tE T w F (.bin o a b)) := by
  refine PE.of (pe_op (bop_ok (hs := hsOf w) hK o) ha hb) fun σ H Q h => ?_
  obtain ⟨Av, β, hm, σm, v, hm', g, e, k⟩ := h
  simp only [evE] at e
  (split at e; (case h_2 => cases e); rename_i x h1 e1)
  (split at e; (case h_2 => cases e); rename_i y h2 e2)
  exact tOp_of g e1 e2 e k
theorem e_neg {a : Ex} {p : Expr} (ha : PE X p (tE T w F a)) : PE X (.UnaryOp .USub p pos) (tE T w F (.neg a)) := by
  refine PE.of (pe_un un_neg ha) fun σ H Q h => ?_
  obtain ⟨Av, β, hm, σm, v, hm', g, e, k⟩ := h
  simp only [evE] at e
  split at e
  · rename_i i h1 e1
    obtain ⟨rfl, rfl⟩ := out_inj e
    refine tE_then g e1 fun β1 H1 x1 x2 g1 r1 => ?_
    cases r1.int'
    exact ⟨i, rfl, (k.after x2).same g1.hr (.int _)⟩
  · cases e
theorem e_cmp {o : Cop} {a b : Ex} {p q : Expr} (hK : X.K = T.K) (hw : X.w = w) (kd : KdOk T w) (hu : X.A.units + 65 < cLine) (ha : PE X p (tE T w F a)) (hb : PE X q (tE T w F b)) (hm : behindInMarks (coOf o) q = false) :
    PE X (.Compare p [coOf o] [q] pos) (tE T w F (.cmp o a b)) := by
  refine PE.of (pe_cmpR (copG_ok hK hw kd hu o) ha hb hm) fun σ H Q h => ?_
  obtain ⟨Av, β, hm, σm, v, hm', g, e, k⟩ := h
  simp only [evE] at e
  (split at e; (case h_2 => cases e); rename_i x h1 e1)
  (split at e; (case h_2 => cases e); rename_i y h2 e2)
  exact tOp_of g e1 e2 e k
/-- a comparison's value is a bool -/
theorem cop_bl {o : Cop} {x y v : MV} {h h' : MH} (e : cop o x y h = .ok v h') : ∃ b, v = .bl b := by
  unfold cop at e
  split at e
  all_goals first
    | (obtain ⟨rfl, _⟩ := out_inj e; exact ⟨_, rfl⟩)
    | (split at e
       · obtain ⟨rfl, _⟩ := out_inj e; exact ⟨_, rfl⟩
       · cases e)
    | cases e
theorem copG_bl {G : Gm} {o : Cop} {x y v : MV} {h h' : MH} (e : copG G o x y h = .ok v h') : ∃ b, v = .bl b := by
  unfold copG at e
  split at e
  all_goals first
    | exact cop_bl e
    | (split at e
       · first
         | (obtain ⟨rfl, _⟩ := out_inj e; exact ⟨_, rfl⟩)
         | (split at e
            · obtain ⟨rfl, _⟩ := out_inj e; exact ⟨_, rfl⟩
            · cases e)
       · cases e)
theorem t_cmp {o : Cop} {a b : Ex} {p q : Expr} (hK : X.K = T.K) (hw : X.w = w) (kd : KdOk T w) (hu : X.A.units + 65 < cLine) (ha : PE X p (tE T w F a)) (hb : PE X q (tE T w F b)) (hm : behindInMarks (coOf o) q = false) :
    PT X (.Compare p [coOf o] [q] pos) (tT T w F (.cmp o a b)) := by
  refine PT.of (pt_cmpR (copG_ok hK hw kd hu o) ha hb hm) fun σ H Q h => ?_
  obtain ⟨Av, β, hm, σm, v, hm', c, g, e, t, k⟩ := h
  simp only [evE] at e
  (split at e; (case h_2 => cases e); rename_i x h1 e1)
  (split at e; (case h_2 => cases e); rename_i y h2 e2)
  obtain ⟨b, rfl⟩ := copG_bl e
  cases t
  exact tOp_of g e1 e2 e fun β' H' z e3 hr rz => ⟨_, rz.bl', k β' H' e3 hr⟩
theorem e_isN {a : Ex} {p : Expr} {j : Nat} {pos' : Pos} (ha : PE X p (tE T w F a)) : PE X (.Compare p [.Is] [.Constant .none j pos'] pos) (tE T w F (.isN a)) := by
  refine PE.of (pe_cmp (pc_isN ha)) fun σ H Q h => ?_
  obtain ⟨Av, β, hm, σm, v, hm', g, e, k⟩ := h
  simp only [evE] at e
  split at e
  · rename_i h1 e1
    obtain ⟨rfl, rfl⟩ := out_inj e
    refine tE_then g e1 fun β1 H1 x1 x2 g1 r1 => ?_
    cases r1.non'
    exact (k.after x2).same g1.hr (.bl _)
  · rename_i u h1 hne e1
    obtain ⟨rfl, rfl⟩ := out_inj e
    refine tE_then g e1 fun β1 H1 x1 x2 g1 r1 => ?_
    have : x1 ≠ .non := fun z => by
      subst z
      cases r1
      exact hne rfl
    rw [decide_eq_false this]
    exact (k.after x2).same g1.hr (.bl _)
  · cases e
end
end Mi

namespace Mi
open PySem PySem.Spec PyProof.Rows L2

theorem truK {T : Tb} {hm : MH} {L : Addr → Prop} {β : List Addr} {H : Hp} {m : MV} {x : V} {k : Bool} {X : Cx} (hK : X.K = T.K) (r : RV T L β H m x) (h : truth hm m = some k) : TruV X.K x H k := r.truth hK h

section
variable {X : Cx} {T : Tb} {w : World} {F : Fn} {pos : Pos}
theorem e_notN {a : Ex} {p : Expr} {j : Nat} {pos' : Pos} (ha : PE X p (tE T w F a)) : PE X (.Compare p [.IsNot] [.Constant .none j pos'] pos) (tE T w F (.notN a)) := by
  refine PE.of (pe_cmp (pc_notN ha)) fun σ H Q h => ?_
  obtain ⟨Av, β, hm, σm, v, hm', g, e, k⟩ := h
  simp only [evE] at e
  split at e
  · rename_i h1 e1
    obtain ⟨rfl, rfl⟩ := out_inj e
    refine tE_then g e1 fun β1 H1 x1 x2 g1 r1 => ?_
    cases r1.non'
    exact (k.after x2).same g1.hr (.bl _)
  · rename_i u h1 hne e1
    obtain ⟨rfl, rfl⟩ := out_inj e
    refine tE_then g e1 fun β1 H1 x1 x2 g1 r1 => ?_
    have : x1 ≠ .non := fun z => by
      subst z
      cases r1
      exact hne rfl
    rw [decide_eq_false this]
    exact (k.after x2).same g1.hr (.bl _)
  · cases e
/-- a bool that is a value, as a test -/
theorem t_of_bl {e : Ex} {p : Expr} (hp : PT X p (tB (tE T w F e))) (hb : ∀ σm hm v hm', evE T.G F e σm hm = .ok v hm' → ∃ b, v = .bl b) : PT X p (tT T w F e) := by
  refine PT.of hp fun σ H Q h => ?_
  obtain ⟨Av, β, hm, σm, v, hm', c, g, e, t, k⟩ := h
  obtain ⟨b, rfl⟩ := hb _ _ _ _ e
  cases t
  exact tE_then g e fun β1 H1 x1 e1 g1 r1 => ⟨_, r1.bl', k β1 H1 e1 g1.hr⟩
theorem isN_bl {a : Ex} {σm : MS} {hm hm' : MH} {v : MV} {G : Gm} (e : evE G F (.isN a) σm hm = .ok v hm') : ∃ b, v = .bl b := by
  simp only [evE] at e
  split at e
  · obtain ⟨rfl, _⟩ := out_inj e; exact ⟨_, rfl⟩
  · obtain ⟨rfl, _⟩ := out_inj e; exact ⟨_, rfl⟩
  · cases e
theorem notN_bl {a : Ex} {σm : MS} {hm hm' : MH} {v : MV} {G : Gm} (e : evE G F (.notN a) σm hm = .ok v hm') : ∃ b, v = .bl b := by
  simp only [evE] at e
  split at e
  · obtain ⟨rfl, _⟩ := out_inj e; exact ⟨_, rfl⟩
  · obtain ⟨rfl, _⟩ := out_inj e; exact ⟨_, rfl⟩
  · cases e
theorem pt_of_isN {t : TE} {p : Expr} {j : Nat} {pos' : Pos} (ha : PE X p t) : PT X (.Compare p [.Is] [.Constant .none j pos'] pos) (tB (tIsN t)) := pt_cmp (pc_isN ha)
theorem t_isN {a : Ex} {p : Expr} {j : Nat} {pos' : Pos} (ha : PE X p (tE T w F a)) : PT X (.Compare p [.Is] [.Constant .none j pos'] pos) (tT T w F (.isN a)) := by
  refine PT.of (pt_of_isN ha) fun σ H Q h => ?_
  obtain ⟨Av, β, hm, σm, v, hm', c, g, e, t, k⟩ := h
  simp only [evE] at e
  split at e
  · rename_i h1 e1
    obtain ⟨rfl, rfl⟩ := out_inj e
    cases t
    refine tE_then g e1 fun β1 H1 x1 x2 g1 r1 => ?_
    cases r1.non'
    exact ⟨_, rfl, k β1 H1 x2 g1.hr⟩
  · rename_i u h1 hne e1
    obtain ⟨rfl, rfl⟩ := out_inj e
    cases t
    refine tE_then g e1 fun β1 H1 x1 x2 g1 r1 => ?_
    have : x1 ≠ .non := fun z => by
      subst z
      cases r1
      exact hne rfl
    rw [decide_eq_false this]
    exact ⟨_, rfl, k β1 H1 x2 g1.hr⟩
  · cases e
theorem t_notN {a : Ex} {p : Expr} {j : Nat} {pos' : Pos} (ha : PE X p (tE T w F a)) : PT X (.Compare p [.IsNot] [.Constant .none j pos'] pos) (tT T w F (.notN a)) := by
  refine PT.of (pt_cmp (pc_notN ha)) fun σ H Q h => ?_
  obtain ⟨Av, β, hm, σm, v, hm', c, g, e, t, k⟩ := h
  simp only [evE] at e
  split at e
  · rename_i h1 e1
    obtain ⟨rfl, rfl⟩ := out_inj e
    cases t
    refine tE_then g e1 fun β1 H1 x1 x2 g1 r1 => ?_
    cases r1.non'
    exact ⟨_, rfl, k β1 H1 x2 g1.hr⟩
  · rename_i u h1 hne e1
    obtain ⟨rfl, rfl⟩ := out_inj e
    cases t
    refine tE_then g e1 fun β1 H1 x1 x2 g1 r1 => ?_
    have : x1 ≠ .non := fun z => by
      subst z
      cases r1
      exact hne rfl
    rw [decide_eq_false this]
    exact ⟨_, rfl, k β1 H1 x2 g1.hr⟩
  · cases e
theorem chn_split {o o' : Cop} {a b c : Ex} {σm : MS} {hm hm' : MH} {v : MV} {G : Gm} (e : evE G F (.chn o o' a b c) σm hm = .ok v hm') : ∃ x h1 y h2, evE G F a σm hm = .ok x h1 ∧ evE G F b σm h1 = .ok y h2 ∧
    ((∃ h3 z h4, cop o x y h2 = .ok (.bl true) h3 ∧ evE G F c σm h3 = .ok z h4 ∧ cop o' y z h4 = .ok v hm') ∨ (cop o x y h2 = .ok (.bl false) hm' ∧ v = .bl false)) := by
  simp only [evE] at e
  (split at e; (case h_2 => cases e); rename_i x h1 e1)
  (split at e; (case h_2 => cases e); rename_i y h2 e2)
  refine ⟨x, h1, y, h2, e1, e2, ?_⟩
  split at e
  · rename_i h3 e3
    (split at e; (case h_2 => cases e); rename_i z h4 e4)
    exact .inl ⟨h3, z, h4, e3, e4, e⟩
  · rename_i h3 e3
    obtain ⟨rfl, rfl⟩ := out_inj e
    exact .inr ⟨e3, rfl⟩
  · cases e
theorem chn_of {o o' : Cop} {a b c : Ex} {Av : Addr → Prop} {β : List Addr} {hm hm' : MH} {σm : MS} {σ : L2.St} {H : Hp} {v : MV} {Q : VK} (g : Sg T w Av β hm H σm σ) (e : evE T.G F (.chn o o' a b c) σm hm = .ok v hm') (k : Kp T (hsOf w) Av β hm H v hm' Q) :
    tChain (rO2 T (hsOf w) (cop o)) (rO2 T (hsOf w) (cop o')) (tE T w F a) (tE T w F b) (tE T w F c) σ H Q := by
  obtain ⟨x, h1, y, h2, e1, e2, e3⟩ := chn_split e
  refine tE_then g e1 fun β1 H1 x1 i1 g1 r1 => tE_then g1 e2 fun β2 H2 y1 i2 g2 r2 => ?_
  rcases e3 with ⟨h3, z, h4, e3, e4, e5⟩ | ⟨e3, rfl⟩
  · refine ⟨Av, β2, h2, x, y, .bl true, h3, g2.hr, r1.mono i2, r2, e3, fun β3 H3 z1 i3 hr3 rz => ⟨true, rz.bl', ?_⟩⟩
    exact tE_then (g2.mono i3 hr3) e4 fun β4 H4 z2 i4 g4 r4 => ⟨Av, β4, h4, y, z, v, hm', g4.hr, (r2.mono i3).mono i4, r4, e5, k.after (((i1.trans i2).trans i3).trans i4)⟩
  · exact ⟨Av, β2, h2, x, y, .bl false, hm', g2.hr, r1.mono i2, r2, e3, fun β3 H3 z1 i3 hr3 rz => ⟨false, rz.bl', (k.after ((i1.trans i2).trans i3)).same hr3 (.bl false)⟩⟩
theorem e_chn {o o' : Cop} {a b c : Ex} {p q r : Expr} (hK : X.K = T.K) (hu : X.A.units + 64 < cLine) (ha : PE X p (tE T w F a)) (hb : PE X q (tE T w F b)) (hc : PE X r (tE T w F c)) (hm : lastMarks [coOf o, coOf o'] [q, r] = false) :
    PE X (.Compare p [coOf o, coOf o'] [q, r] pos) (tE T w F (.chn o o' a b c)) := by
  refine PE.of (pe_chain (cop_ok (hs := hsOf w) hK hu o) (cop_ok (hs := hsOf w) hK hu o') ha hb hc hm) fun σ H Q h => ?_
  obtain ⟨Av, β, hm, σm, v, hm', g, e, k⟩ := h
  exact chn_of g e k
theorem t_chn {o o' : Cop} {a b c : Ex} {p q r : Expr} (hK : X.K = T.K) (hu : X.A.units + 64 < cLine) (ha : PE X p (tE T w F a)) (hb : PE X q (tE T w F b)) (hc : PE X r (tE T w F c)) (hm : lastMarks [coOf o, coOf o'] [q, r] = false) :
    PT X (.Compare p [coOf o, coOf o'] [q, r] pos) (tT T w F (.chn o o' a b c)) := by
  refine PT.of (pt_chain (cop_ok (hs := hsOf w) hK hu o) (cop_ok (hs := hsOf w) hK hu o') ha hb hc hm) fun σ H Q h => ?_
  obtain ⟨Av, β, hm, σm, v, hm', c, g, e, t, k⟩ := h
  have hv : ∃ b, v = .bl b := by
    obtain ⟨x, h1, y, h2, e1, e2, e3⟩ := chn_split e
    rcases e3 with ⟨h3, z, h4, e3, e4, e5⟩ | ⟨e3, rfl⟩
    · exact cop_bl e5
    · exact ⟨_, rfl⟩
  obtain ⟨b, rfl⟩ := hv
  cases t
  exact chn_of g e fun β' H' x e' hr r => ⟨_, r.bl', k β' H' e' hr⟩
/-! ### and, or, not, if -/
theorem e_and {a b : Ex} {p q : Expr} {rest : List Expr} (hK : X.K = T.K) (ha : PE X p (tE T w F a)) (hb : PE X (.BoolOp .And (q :: rest) pos) (tE T w F b)) : PE X (.BoolOp .And (p :: q :: rest) pos) (tE T w F (.and a b)) := by
  refine PE.of (pe_andT ha hb) fun σ H Q h => ?_
  obtain ⟨Av, β, hm, σm, v, hm', g, e, k⟩ := h
  simp only [evE] at e
  (split at e; (case h_2 => cases e); rename_i x h1 e1)
  refine tE_then g e1 fun β1 H1 x1 i1 g1 r1 => ?_
  split at e
  · rename_i ht
    exact ⟨true, truK hK r1 ht, ⟨Av, β1, h1, σm, v, hm', g1, e, k.after i1⟩⟩
  · rename_i ht
    obtain ⟨rfl, rfl⟩ := out_inj e
    exact ⟨false, truK hK r1 ht, (k.after i1).same g1.hr r1⟩
  · cases e
theorem e_or {a b : Ex} {p q : Expr} {rest : List Expr} (hK : X.K = T.K) (ha : PE X p (tE T w F a)) (hb : PE X (.BoolOp .Or (q :: rest) pos) (tE T w F b)) : PE X (.BoolOp .Or (p :: q :: rest) pos) (tE T w F (.or a b)) := by
  refine PE.of (pe_orT ha hb) fun σ H Q h => ?_
  obtain ⟨Av, β, hm, σm, v, hm', g, e, k⟩ := h
  simp only [evE] at e
  (split at e; (case h_2 => cases e); rename_i x h1 e1)
  refine tE_then g e1 fun β1 H1 x1 i1 g1 r1 => ?_
  split at e
  · rename_i ht
    obtain ⟨rfl, rfl⟩ := out_inj e
    exact ⟨true, truK hK r1 ht, (k.after i1).same g1.hr r1⟩
  · rename_i ht
    exact ⟨false, truK hK r1 ht, ⟨Av, β1, h1, σm, v, hm', g1, e, k.after i1⟩⟩
  · cases e
/-- a test is made, then R -/
theorem tT_then {e : Ex} {Av : Addr → Prop} {β : List Addr} {hm h1 : MH} {σm : MS} {σ : L2.St} {H : Hp} {v : MV} {b : Bool} {R : Bool → Hp → Prop} (g : Sg T w Av β hm H σm σ) (he : evE T.G F e σm hm = .ok v h1) (ht : truth h1 v = some b)
    (k : ∀ (β1 : List Addr) (H1 : Hp), Ex' β hm H β1 h1 H1 → Sg T w Av β1 h1 H1 σm σ → R b H1) : tT T w F e σ H R :=
  ⟨Av, β, hm, σm, v, h1, b, g, he, ht, fun β1 H1 e1 hr => k β1 H1 e1 (g.mono e1 hr)⟩
theorem w_and {a b : Ex} {p q : Expr} {rest : List Expr} (ha : PT X p (tT T w F a)) (hb : PW X (.BoolOp .And (q :: rest) pos) (tT T w F b)) : PW X (.BoolOp .And (p :: q :: rest) pos) (tT T w F (.and a b)) := by
  refine PW.of (pw_and ha hb) fun σ H Q h => ?_
  obtain ⟨Av, β, hm, σm, v, hm', c, g, e, t, k⟩ := h
  simp only [evE] at e
  (split at e; (case h_2 => cases e); rename_i x h1 e1)
  split at e
  · rename_i ht
    refine tT_then g e1 ht fun β1 H1 i1 g1 => ?_
    exact ⟨Av, β1, h1, σm, v, hm', c, g1, e, t, fun β2 H2 i2 hr => k β2 H2 (i1.trans i2) hr⟩
  · rename_i ht
    obtain ⟨rfl, rfl⟩ := out_inj e
    rw [ht] at t
    cases t
    exact tT_then g e1 ht fun β1 H1 i1 g1 => k β1 H1 i1 g1.hr
  · cases e
theorem w_or {a b : Ex} {p q : Expr} {rest : List Expr} (ha : PT X p (tT T w F a)) (hb : PW X (.BoolOp .Or (q :: rest) pos) (tT T w F b)) : PW X (.BoolOp .Or (p :: q :: rest) pos) (tT T w F (.or a b)) := by
  refine PW.of (pw_or ha hb) fun σ H Q h => ?_
  obtain ⟨Av, β, hm, σm, v, hm', c, g, e, t, k⟩ := h
  simp only [evE] at e
  (split at e; (case h_2 => cases e); rename_i x h1 e1)
  split at e
  · rename_i ht
    obtain ⟨rfl, rfl⟩ := out_inj e
    rw [ht] at t
    cases t
    exact tT_then g e1 ht fun β1 H1 i1 g1 => k β1 H1 i1 g1.hr
  · rename_i ht
    refine tT_then g e1 ht fun β1 H1 i1 g1 => ?_
    exact ⟨Av, β1, h1, σm, v, hm', c, g1, e, t, fun β2 H2 i2 hr => k β2 H2 (i1.trans i2) hr⟩
  · cases e
theorem e_not {a : Ex} {p : Expr} (hK : X.K = T.K) (ha : PE X p (tE T w F a)) : PE X (.UnaryOp .Not p pos) (tE T w F (.not a)) := by
  refine PE.of (pe_notT ha) fun σ H Q h => ?_
  obtain ⟨Av, β, hm, σm, v, hm', g, e, k⟩ := h
  simp only [evE] at e
  (split at e; (case h_2 => cases e); rename_i x h1 e1)
  split at e
  · rename_i c ht
    obtain ⟨rfl, rfl⟩ := out_inj e
    exact tE_then g e1 fun β1 H1 x1 i1 g1 r1 => ⟨c, truK hK r1 ht, (k.after i1).same g1.hr (.bl _)⟩
  · cases e
theorem t_not {a : Ex} {p : Expr} (ha : PT X p (tT T w F a)) : PT X (.UnaryOp .Not p pos) (tT T w F (.not a)) := by
  refine PT.of (pt_not ha) fun σ H Q h => ?_
  obtain ⟨Av, β, hm, σm, v, hm', d, g, e, t, k⟩ := h
  simp only [evE] at e
  (split at e; (case h_2 => cases e); rename_i x h1 e1)
  split at e
  · rename_i c ht
    obtain ⟨rfl, rfl⟩ := out_inj e
    cases t
    exact tT_then g e1 ht fun β1 H1 i1 g1 => k β1 H1 i1 g1.hr
  · cases e
theorem e_ife {a b c : Ex} {p q r : Expr} (hc : PT X r (tT T w F c)) (ha : PE X p (tE T w F a)) (hb : PE X q (tE T w F b)) : PE X (.IfExp r p q pos) (tE T w F (.ife c a b)) := by
  refine PE.of (pe_ifExp hc ha hb) fun σ H Q h => ?_
  obtain ⟨Av, β, hm, σm, v, hm', g, e, k⟩ := h
  simp only [evE] at e
  (split at e; (case h_2 => cases e); rename_i x h1 e1)
  split at e
  · rename_i ht
    exact tT_then g e1 ht fun β1 H1 i1 g1 => ⟨Av, β1, h1, σm, v, hm', g1, e, k.after i1⟩
  · rename_i ht
    exact tT_then g e1 ht fun β1 H1 i1 g1 => ⟨Av, β1, h1, σm, v, hm', g1, e, k.after i1⟩
  · cases e
/-- the truth of any other value -/
theorem t_val {a : Ex} {p : Expr} (hK : X.K = T.K) (ha : PE X p (tE T w F a)) (he : ∀ whole, isTrue p X.env whole = (do let v ← whole; standAt p.pos; holding [v] (truthy v))) : PT X p (tT T w F a) := by
  refine PT.of (pt_truth ha he) fun σ H Q h => ?_
  obtain ⟨Av, β, hm, σm, v, hm', d, g, e, t, k⟩ := h
  exact tE_then g e fun β1 H1 x1 i1 g1 r1 => ⟨d, truK hK r1 t, k β1 H1 i1 g1.hr⟩
/-! ### displays, arguments -/
theorem a_nil : PA X [] (tAs T w F []) := by
  refine PA.of pa_nil fun σ H Q h => ?_
  obtain ⟨Av, β, hm, σm, vs, hm', g, e, k⟩ := h
  simp only [evL] at e
  obtain ⟨rfl, rfl⟩ := out_inj e
  exact k β H [] Ex'.refl g.hr .nil
theorem a_cons {a : Ex} {l : List Ex} {p : Expr} {es : List Expr} (ha : PE X p (tE T w F a)) (hl : PA X es (tAs T w F l)) (hs : starEach (p :: es) X.env = (false, eval p X.env) :: starEach es X.env) : PA X (p :: es) (tAs T w F (a :: l)) := by
  refine PA.of (pa_cons ha hl hs) fun σ H Q h => ?_
  obtain ⟨Av, β, hm, σm, vs, hm', g, e, k⟩ := h
  simp only [evL] at e
  (split at e; (case h_2 => cases e); rename_i x h1 e1)
  (split at e; (case h_2 => cases e); rename_i xs h2 e2)
  obtain ⟨rfl, rfl⟩ := out_inj e
  exact tE_then g e1 fun β1 H1 x1 i1 g1 r1 => tAs_then g1 e2 fun β2 H2 xs1 i2 g2 r2 => k β2 H2 (x1 :: xs1) (i1.trans i2) g2.hr (.cons (r1.mono i2) r2)
theorem evL_len {G : Gm} : ∀ {l : List Ex} {σm : MS} {hm hm' : MH} {vs : List MV}, evL G F l σm hm = .ok vs hm' → vs.length = l.length
  | [], _, _, _, _, e => by simp only [evL] at e; obtain ⟨rfl, _⟩ := out_inj e; rfl
  | a :: l, _, _, _, _, e => by
    simp only [evL] at e
    (split at e; (case h_2 => cases e); rename_i x h1 e1)
    (split at e; (case h_2 => cases e); rename_i xs h2 e2)
    obtain ⟨rfl, _⟩ := out_inj e
    rw [List.length_cons, List.length_cons, evL_len e2]
theorem e_tup {l : List Ex} {es : List Expr} {x1 : Nat} (hl : PA X es (tAs T w F l)) (hn : l.length ≤ 100000) : PE X (.Tuple es x1 pos) (tE T w F (.tup l)) := by
  refine PE.of (pe_tup hl) fun σ H Q h => ?_
  obtain ⟨Av, β, hm, σm, v, hm', g, e, k⟩ := h
  simp only [evE] at e
  (split at e; (case h_2 => cases e); rename_i vs h1 e1)
  obtain ⟨rfl, rfl⟩ := out_inj e
  exact tAs_then g e1 fun β1 H1 xs i1 g1 r1 => ⟨by rw [← r1.length, evL_len e1]; exact n100 hn, fun p hp => (k.after i1).tup g1.hr r1 hp⟩
theorem e_lst {m : Bool} {l : List Ex} {es : List Expr} (hl : PA X es (tAs T w F l)) (hn : l.length ≤ 100000) : PE X (.List es pos) (tE T w F (.lst m l)) := by
  refine PE.of (pe_lst hl) fun σ H Q h => ?_
  obtain ⟨Av, β, hm, σm, v, hm', g, e, k⟩ := h
  simp only [evE] at e
  (split at e; (case h_2 => cases e); rename_i vs h1 e1)
  refine tAs_then g e1 fun β1 H1 xs i1 g1 r1 => ⟨by rw [← r1.length, evL_len e1]; exact n100 hn, fun p hp => ?_⟩
  cases m with
  | true =>
    obtain ⟨rfl, rfl⟩ := out_inj e
    exact (k.after i1).loc g1.hr hp (.lst (r1.mono (Ex'.alloc g1.hr.len hp)))
  | false =>
    obtain ⟨rfl, rfl⟩ := out_inj e
    exact (k.after i1).lst g1.hr r1 hp
/-! ### subscripts -/
theorem e_idx {a b : Ex} {p q : Expr} (hK : X.K = T.K) (hw : X.w = w) (kd : KdOk T w) (hu : X.A.units + 65 < cLine) (ha : PE X p (tE T w F a)) (hb : PE X q (tE T w F b)) (hs : PlainIx q) : PE X (.Subscript p q pos) (tE T w F (.idx a b)) := by
  refine PE.of (pe_ix (getIx_ok hK hw kd hu) ha hb hs) fun σ H Q h => ?_
  obtain ⟨Av, β, hm, σm, v, hm', g, e, k⟩ := h
  simp only [evE] at e
  (split at e; (case h_2 => cases e); rename_i x h1 e1)
  (split at e; (case h_2 => cases e); rename_i y h2 e2)
  exact tOp_of g e1 e2 e k
theorem o_none : PO X none (tOo T w F none) := by
  refine PO.of po_none fun σ H Q h => ?_
  obtain ⟨Av, β, hm, σm, v, hm', g, e, k⟩ := h
  simp only [evO] at e
  obtain ⟨rfl, rfl⟩ := out_inj e
  exact k β H Ex'.refl g.hr
theorem o_some {a : Ex} {p : Expr} (ha : PE X p (tE T w F a)) : PO X (some p) (tOo T w F (some a)) := by
  refine PO.of (po_some ha) fun σ H Q h => ?_
  obtain ⟨Av, β, hm, σm, v, hm', g, e, k⟩ := h
  simp only [evO] at e
  split at e
  · rename_i i h1 e1
    obtain ⟨rfl, rfl⟩ := out_inj e
    exact tE_then g e1 fun β1 H1 x1 i1 g1 r1 => ⟨i, r1.int', k β1 H1 i1 g1.hr⟩
  · cases e
theorem e_slc {a : Ex} {lo hi : Option Ex} {p : Expr} {lo' hi' : Option Expr} {p2 : Pos} (hK : X.K = T.K) (ha : PE X p (tE T w F a)) (hl : PO X lo' (tOo T w F lo)) (hh : PO X hi' (tOo T w F hi)) : PE X (.Subscript p (.Slice lo' hi' none p2) pos) (tE T w F (.slc a lo hi)) := by
  refine PE.of (pe_slice (slc_ok (hs := hsOf w) hK) ha hl hh) fun σ H Q h => ?_
  obtain ⟨Av, β, hm, σm, v, hm', g, e, k⟩ := h
  simp only [evE] at e
  (split at e; (case h_2 => cases e); rename_i x h1 e1)
  (split at e; (case h_2 => cases e); rename_i u h2 e2)
  (split at e; (case h_2 => cases e); rename_i z h3 e3)
  exact tE_then g e1 fun β1 H1 x1 i1 g1 r1 => tOo_then g1 e2 fun β2 H2 i2 g2 => tOo_then g2 e3 fun β3 H3 i3 g3 => ⟨Av, β3, h3, x, v, hm', g3.hr, (r1.mono i2).mono i3, e, k.after ((i1.trans i2).trans i3)⟩
/-- a list that is made here, from now on a value -/
theorem e_frz {a : Ex} {p : Expr} (ha : PE X p (tE T w F a)) : PE X p (tE T w F (.frz a)) := by
  refine PE.of ha fun σ H Q h => ?_
  obtain ⟨Av, β, hm, σm, v, hm', g, e, k⟩ := h
  simp only [evE] at e
  split at e
  · rename_i i h1 e1
    split at e
    · rename_i l ho
      obtain ⟨rfl, rfl⟩ := out_inj e
      refine tE_then g e1 fun β1 H1 x1 i1 g1 r1 => ?_
      obtain ⟨a', rfl, hi⟩ := r1.loc'
      obtain ⟨xs, sq, q⟩ := g1.hr.list hi ho
      exact k β1 H1 _ (i1.trans Ex'.kill) g1.hr.kill (.lst sq (notMine_kill g1.hr hi) (q.mono Ex'.kill))
    · cases e
  · cases e
end
end Mi

namespace Mi
open PySem PySem.Spec PyProof.Rows L2

def bname : Blt → Str
  | .len => "len" | .int => "int" | .list => "list" | .tuple => "tuple" | .abs => "abs" | .sum => "sum" | .all => "all" | .any => "any"
  | .min => "min" | .max => "max" | .divmod => "divmod" | .sorted => "sorted" | .repr => "repr"
def tname : Ty → String
  | .int => "int" | .bool => "bool" | .str => "str" | .tuple => "tuple" | .list => "list"
/-- no star -/
def flatE : Expr → Bool
  | .Starred .. => false
  | _ => true
theorem star1 {p : Expr} (h : flatE p = true) (es : List Expr) (env : Env) : starEach (p :: es) env = (false, eval p env) :: starEach es env := by
  cases p <;> first | rfl | cases h
theorem star_plain {pos : Pos} {env : Env} : ∀ {es : List Expr}, es.all flatE = true → (backTo pos (starEach es env)).any (·.1) = false
  | [], _ => rfl
  | p :: es, h => by
    rw [List.all_cons, Bool.and_eq_true] at h
    rw [star1 h.1]
    show (false || (backTo pos (starEach es env)).any (·.1)) = false
    rw [star_plain h.2]
    rfl
theorem star_few {pos : Pos} {env : Env} : ∀ {es : List Expr}, es.all flatE = true → (backTo pos (starEach es env)).all (fun x => !x.1) = true
  | [], _ => rfl
  | p :: es, h => by
    rw [List.all_cons, Bool.and_eq_true] at h
    rw [star1 h.1]
    show (!false && (backTo pos (starEach es env)).all (fun x => !x.1)) = true
    rw [star_few h.2]
    rfl
section
variable {X : Cx} {T : Tb} {w : World} {F : Fn} {pos : Pos}
theorem e_blt {b : Blt} {l : List Ex} {p : Pos} {q : Expr} {es : List Expr} (hK : X.K = T.K) (hw : X.w = w) (hc : X.calm = true) (hgd : X.A.guards = some []) (hu : X.A.units + 66 < cLine)
    (hg : Gl X (bname b)) (hm : X.mg (bname b) = none) (ha : PA X (q :: es) (tAs T w F l)) (hf : (q :: es).all flatE = true) : PE X (.Call (.Name (bname b) p) (q :: es) [] pos) (tE T w F (.blt b l)) := by
  have hs := star1 (by rw [List.all_cons, Bool.and_eq_true] at hf; exact hf.1) es X.env
  have hp : (backTo pos (starEach es X.env)).any (·.1) = false := star_plain (by rw [List.all_cons, Bool.and_eq_true] at hf; exact hf.2)
  have hr := blt_ok (T := T) hK hw hc hgd hu b
  have main : PE X (.Call (.Name (bname b) p) (q :: es) [] pos) (tCB (rB T (hsOf w) (Mi.blt b)) (tAs T w F l)) := by
    cases b with
    | len => exact pe_callB hr hg hm PySem.boot_len ha (by decide) (by decide) hs hp
    | int => exact pe_callTy hr hg hm PyProof.Rows.boot_int ha (by decide) (by decide) hs hp
    | list => exact pe_callTy hr hg hm PyProof.Rows.boot_list ha (by decide) (by decide) hs hp
    | tuple => exact pe_callTy hr hg hm PyProof.Rows.boot_tuple ha (by decide) (by decide) hs hp
    | abs => exact pe_callB hr hg hm PyProof.Rows.boot_abs ha (by decide) (by decide) hs hp
    | sum => exact pe_callB hr hg hm PyProof.Rows.boot_sum ha (by decide) (by decide) hs hp
    | all => exact pe_callB hr hg hm PyProof.Rows.boot_all ha (by decide) (by decide) hs hp
    | any => exact pe_callB hr hg hm PyProof.Rows.boot_any ha (by decide) (by decide) hs hp
    | min => exact pe_callB hr hg hm PyProof.Rows.boot_min ha (by decide) (by decide) hs hp
    | max => exact pe_callB hr hg hm PyProof.Rows.boot_max ha (by decide) (by decide) hs hp
    | divmod => exact pe_callB hr hg hm PyProof.Rows.boot_divmod ha (by decide) (by decide) hs hp
    | sorted => exact pe_callB hr hg hm PyProof.Rows.boot_sorted ha (by decide) (by decide) hs hp
    | repr => exact pe_callB hr hg hm PyProof.Rows.boot_repr ha (by decide) (by decide) hs hp
  refine PE.of main fun σ H Q h => ?_
  obtain ⟨Av, β, hm, σm, v, hm', g, e, k⟩ := h
  simp only [evE] at e
  (split at e; (case h_2 => cases e); rename_i vs h1 e1)
  exact tAs_then g e1 fun β1 H1 xs i1 g1 r1 => ⟨Av, β1, h1, vs, v, hm', g1.hr, r1, e, k.after i1⟩
/-! ### isinstance -/
theorem tyX_of {L : Addr → Prop} {β : List Addr} {H : Hp} {m : MV} {x : V} {t : Ty} {hm : MH} {k : Bool} (r : RV T L β H m x) (h : isTy t hm m = some k) : ∃ u, TyX T.K H x u ∧ PySem.W.kitOne T.K u (.type (tname t)) = some k := by
  cases r with
  | non => refine ⟨_, .base .non, ?_⟩; cases h; cases t <;> exact kit_ty (by decide +kernel)
  | bl b => refine ⟨_, .base (.bl b), ?_⟩; cases h; cases t <;> exact kit_ty (by decide +kernel)
  | int i => refine ⟨_, .base (.int i), ?_⟩; cases h; cases t <;> exact kit_ty (by decide +kernel)
  | str z => refine ⟨_, .base (.str z), ?_⟩; cases h; cases t <;> exact kit_ty (by decide +kernel)
  | tup h1 _ _ =>
    cases h
    rcases h1 with h1 | ⟨o, h1⟩
    · exact ⟨_, .base (.tup h1), by cases t <;> exact kit_ty (by decide +kernel)⟩
    · exact ⟨_, .fTuple h1, by cases t <;> exact kit_ty (by decide +kernel)⟩
  | tupK h1 _ =>
    cases h
    obtain ⟨o, its, n, h1, h2, _⟩ := h1
    exact ⟨_, .kTuple h1 h2, by cases t <;> exact kit_ty (by decide +kernel)⟩
  | lst h1 _ _ =>
    cases h
    exact ⟨_, .base (.lst h1), by cases t <;> exact kit_ty (by decide +kernel)⟩
  | _ => cases h
theorem e_isi {a : Ex} {t : Ty} {p : Expr} {p1 p2 : Pos} {tn : Str} (hK : X.K = T.K) (ha : PE X p (tE T w F a)) (hf : flatE p = true) (hg : Gl X "isinstance") (hm : X.mg "isinstance" = none) (hgt : Gl X tn) (hmt : X.mg tn = none)
    (htn : tn = Str.ofString (tname t)) : PE X (.Call (.Name "isinstance" p1) [p, .Name tn p2] [] pos) (tE T w F (.isi a t)) := by
  have ht : PE X (.Name tn p2) (tC (.ty (tname t))) := by
    subst htn
    cases t
    · exact pe_bltn hgt hmt PyProof.Rows.boot_int rfl (by decide) (by decide)
    · exact pe_bltn hgt hmt PyProof.Rows.boot_bool rfl (by decide) (by decide)
    · exact pe_bltn hgt hmt PyProof.Rows.boot_str rfl (by decide) (by decide)
    · exact pe_bltn hgt hmt PyProof.Rows.boot_tuple rfl (by decide) (by decide)
    · exact pe_bltn hgt hmt PyProof.Rows.boot_list rfl (by decide) (by decide)
  refine PE.of (pe_callB call_isi hg hm PyProof.Rows.boot_isinstance (pa_cons ha (pa_cons ht pa_nil) (star1 hf _ _)) (by decide) (by decide) (star1 hf _ _) rfl) fun σ H Q h => ?_
  obtain ⟨Av, β, hm, σm, v, hm', g, e, k⟩ := h
  simp only [evE] at e
  (split at e; (case h_2 => cases e); rename_i m h1 e1)
  split at e
  · rename_i c hc
    obtain ⟨rfl, rfl⟩ := out_inj e
    refine tE_then g e1 fun β1 H1 x1 i1 g1 r1 => ?_
    obtain ⟨u, ty, kt⟩ := tyX_of r1 hc
    exact ⟨x1, .ty (tname t), u, _, c, rfl, .ty _, hK ▸ ty, hK ▸ kt, (k.after i1).same g1.hr (.bl _)⟩
  · cases e
/-! ### methods of lists -/
def mname : Mth → Str
  | .append => "append" | .extend => "extend" | .pop => "pop" | .get => "get"
/-- no super() -/
def baseE : Expr → Bool
  | .Call (.Name _ _) [] [] _ => false
  | _ => true
theorem base_ok {o : Expr} (h : baseE o = true) (m : Str) (env : Env) : attributeBase o m env (eval o env) = eval o env := by
  unfold attributeBase
  split
  · cases h
  · rfl
theorem rcv_list {m : Mth} {i : Nat} {h : MH} (hm : m ≠ .get) (e : rcv m (.loc i) h = true) : ∃ l, h[i]? = some (.lst l) := by
  cases m with
  | get => exact absurd rfl hm
  | append =>
    have e' : (match h[i]? with | some (.lst _) => true | some (.dt _) => false | _ => false) = true := e
    split at e'
    · exact ⟨_, by assumption⟩
    · cases e'
    · cases e'
  | extend =>
    have e' : (match h[i]? with | some (.lst _) => true | some (.dt _) => false | _ => false) = true := e
    split at e'
    · exact ⟨_, by assumption⟩
    · cases e'
    · cases e'
  | pop =>
    have e' : (match h[i]? with | some (.lst _) => true | some (.dt _) => false | _ => false) = true := e
    split at e'
    · exact ⟨_, by assumption⟩
    · cases e'
    · cases e'
theorem rcv_dict {i : Nat} {h : MH} (e : rcv .get (.loc i) h = true) : ∃ l, h[i]? = some (.dt l) := by
  have e' : (match h[i]? with | some (.lst _) => false | some (.dt _) => true | _ => false) = true := e
  split at e'
  · cases e'
  · exact ⟨_, by assumption⟩
  · cases e'
theorem rcv_loc {m : Mth} {v : MV} {h : MH} (e : rcv m v h = true) : ∃ i, v = .loc i := by
  unfold rcv at e
  split at e
  · exact ⟨_, rfl⟩
  · cases e
def rM (T : Tb) (w : World) (m : Mth) : V → List V → Hp → VK → Prop := fun x xs H Q => ∃ (Av : Addr → Prop) (β : List Addr) (hm : MH) (o : MV) (l : List MV) (v : MV) (hm' : MH),
  HR T (hsOf w) Av β hm H ∧ RV T (lv Av β hm) β H o x ∧ RVs T (lv Av β hm) β H l xs ∧ mth m o l hm = .ok v hm' ∧ Kp T (hsOf w) Av β hm H v hm' Q
theorem MtR.of {id : String} {r r' : V → List V → Hp → VK → Prop} (h : MtR X id r) (i : ∀ x xs H Q, r' x xs H Q → r x xs H Q) : MtR X id r' := fun pins s σ H x xs v us Q I rx rs q => h pins s σ H x xs v us Q I rx rs (i _ _ _ _ q)
/-- a list that is written -/
theorem wr_list {Av : Addr → Prop} {β : List Addr} {hm : MH} {H : Hp} {i : Nat} {a : Addr} {l l' : List MV} {ys : List V} {v : MV} {x : V} {Q : VK} (hr : HR T (hsOf w) Av β hm H) (hi : β[i]? = some a) (ho : hm[i]? = some (.lst l))
    (q : RVs T (lv Av β hm) β H l' ys) (k : Kp T (hsOf w) Av β hm H v (hm.set i (.lst l')) Q) (rv : RV T (lv Av β hm) β H v x) : Q x (upd H a (.lst ys)) := by
  have ew := Ex'.write (u := .lst ys) (o' := .lst l') hr hi ho (fun z => nomatch z)
  exact k β _ x ew (hr.write hi ho (fun z => nomatch z) (.lst (q.mono ew))) (rv.mono ew)
theorem mAppend_ok : MtR X "list.append" (rM T w .append) := by
  refine MtR.of mt_append fun x xs H Q h => ?_
  obtain ⟨Av, β, hm, o, l, v, hm', hr, ro, rl, e, k⟩ := h
  have e : mApp o l hm = .ok v hm' := e
  unfold mApp at e
  split at e
  · rename_i i m
    split at e
    · rename_i ys ho
      obtain ⟨a, rfl, hi⟩ := ro.loc'
      obtain ⟨x1, rfl, r1⟩ := rl.one'
      obtain ⟨zs, sq, q⟩ := hr.list hi ho
      split at e
      · rename_i hz
        have hz := of_decide_eq_true hz
        obtain ⟨rfl, rfl⟩ := out_inj e
        exact ⟨a, zs, x1, rfl, rfl, sq, by rw [← q.length, sizeLine_eq]; omega, wr_list hr hi ho (q.append (.one r1)) k .non⟩
      · cases e
    · cases e
  · cases e
theorem mExtend_ok : MtR X "list.extend" (rM T w .extend) := by
  refine MtR.of mt_extend fun x xs H Q h => ?_
  obtain ⟨Av, β, hm, o, l, v, hm', hr, ro, rl, e, k⟩ := h
  have e : mExt o l hm = .ok v hm' := e
  unfold mExt at e
  split at e
  · rename_i i m
    split at e
    · rename_i ys ho
      obtain ⟨a, rfl, hi⟩ := ro.loc'
      obtain ⟨x1, rfl, r1⟩ := rl.one'
      obtain ⟨b, us, rfl, sb, _, qb⟩ := r1.lst'
      obtain ⟨zs, sq, q⟩ := hr.list hi ho
      split at e
      · rename_i hz
        have hz := of_decide_eq_true hz
        obtain ⟨rfl, rfl⟩ := out_inj e
        exact ⟨a, b, zs, us, rfl, rfl, sq, sb, by rw [← q.length, ← qb.length, sizeLine_eq]; omega, wr_list hr hi ho (q.append qb) k .non⟩
      · cases e
    · cases e
  · cases e
theorem mPop_ok : MtR X "list.pop" (rM T w .pop) := by
  refine MtR.of mt_pop fun x xs H Q h => ?_
  obtain ⟨Av, β, hm, o, l, v, hm', hr, ro, rl, e, k⟩ := h
  have e : mPop o l hm = .ok v hm' := e
  unfold mPop at e
  split at e
  · rename_i i
    split at e
    · rename_i ys ho
      obtain ⟨a, rfl, hi⟩ := ro.loc'
      cases rl.nil_l
      obtain ⟨zs, sq, q⟩ := hr.list hi ho
      split at e
      · rename_i m hm1
        obtain ⟨rfl, rfl⟩ := out_inj e
        obtain ⟨y, hy, ry⟩ := q.get hm1
        rw [q.length] at hy
        exact ⟨a, zs, y, rfl, rfl, sq, hy, wr_list hr hi ho q.dropLast k ry⟩
      · cases e
    · cases e
  · cases e
theorem tyList {Av : Addr → Prop} {β : List Addr} {hm : MH} {H : Hp} {m : MV} {x : V} {o : Mth} (ho : o ≠ .get) (hr : HR T (hsOf w) Av β hm H) (r : RV T (lv Av β hm) β H m x) (h : rcv o m hm = true) (K : PySem.W.Frag) : tyV K "list" x H := by
  obtain ⟨i, rfl⟩ := rcv_loc h
  obtain ⟨a, rfl, hi⟩ := r.loc'
  obtain ⟨l, hl⟩ := rcv_list ho h
  obtain ⟨xs, sq, _⟩ := hr.list hi hl
  exact .inl ⟨rfl, xs, SqL.of_lst sq⟩
theorem mth_split {m : Mth} {o : Ex} {l : List Ex} {σm : MS} {hm hm' : MH} {v : MV} {G : Gm} (e : evE G F (.mth m o l) σm hm = .ok v hm') : ∃ x h1 vs h2, evE G F o σm hm = .ok x h1 ∧ rcv m x h1 = true ∧ evL G F l σm h1 = .ok vs h2 ∧ mth m x vs h2 = .ok v hm' := by
  simp only [evE] at e
  (split at e; (case h_2 => cases e); rename_i x h1 e1)
  split at e
  · rename_i hr
    (split at e; (case h_2 => cases e); rename_i vs h2 e2)
    exact ⟨x, h1, vs, h2, e1, hr, e2, e⟩
  · cases e
theorem e_mthL {m : Mth} {o : Ex} {l : List Ex} {p q : Expr} {es : List Expr} {apos cpos : Pos} (hmm : m = .append ∨ m = .extend) (ho : PE X p (tE T w F o)) (ha : PA X (q :: es) (tAs T w F l)) (hb : baseE p = true) (hf : (q :: es).all flatE = true)
    (hn : (q :: es).length < 20) (hl : (apos.endLine == cpos.line) = true) : PE X (.Call (.Attribute p (mname m) apos) (q :: es) [] cpos) (tE T w F (.mth m o l)) := by
  have hs := star1 (by rw [List.all_cons, Bool.and_eq_true] at hf; exact hf.1) es X.env
  have hp : (backTo cpos (starEach es X.env)).any (·.1) = false := star_plain (by rw [List.all_cons, Bool.and_eq_true] at hf; exact hf.2)
  have few : ((backTo cpos (starEach (q :: es) X.env)).all (fun x => !x.1) && (backToKw cpos (keywordEach [] X.env)).all (fun x => x.1.isSome)
      && decide ((q :: es).length + ([] : List Keyword).length + (if ([] : List Keyword).isEmpty then 0 else 1) < 30)) = true := by
    rw [star_few hf]
    simp only [List.length_nil, List.isEmpty_nil, if_true, Bool.true_and]
    rw [Bool.and_eq_true]
    exact ⟨rfl, decide_eq_true (by omega)⟩
  have fin : ∀ σ H Q, tE T w F (.mth m o l) σ H Q → tBM X.K "list" (rM T w m) (tE T w F o) (tAs T w F l) σ H Q := fun σ H Q h => by
    obtain ⟨Av, β, hm, σm, v, hm', g, e, k⟩ := h
    obtain ⟨x, h1, vs, h2, e1, er, e2, e3⟩ := mth_split e
    refine tE_then g e1 fun β1 H1 x1 i1 g1 r1 => ⟨tyList (by rcases hmm with rfl | rfl <;> exact fun z => nomatch z) g1.hr r1 er X.K, ?_⟩
    exact tAs_then g1 e2 fun β2 H2 xs i2 g2 r2 => ⟨Av, β2, h2, x, vs, v, hm', g2.hr, r1.mono i2, r2, e3, k.after (i1.trans i2)⟩
  rcases hmm with rfl | rfl
  · exact PE.of (pe_bm PySem.F.plainAttrs_list PySem.F.slot_list_append PySem.F.type_list_append mAppend_ok ho ha (base_ok hb _ _) few hl hs hp) fin
  · exact PE.of (pe_bm PySem.F.plainAttrs_list PySem.F.slot_list_extend PySem.F.type_list_extend mExtend_ok ho ha (base_ok hb _ _) few hl hs hp) fin
theorem e_pop {o : Ex} {p : Expr} {apos cpos : Pos} (ho : PE X p (tE T w F o)) (hb : baseE p = true) (hl : (apos.endLine == cpos.line) = true) : PE X (.Call (.Attribute p "pop" apos) [] [] cpos) (tE T w F (.mth .pop o [])) := by
  refine PE.of (pe_bm0 PySem.F.plainAttrs_list PySem.F.slot_list_pop PySem.F.type_list_pop (mPop_ok (T := T) (w := w)) ho (base_ok hb _ _) hl) fun σ H Q h => ?_
  obtain ⟨Av, β, hm, σm, v, hm', g, e, k⟩ := h
  obtain ⟨x, h1, vs, h2, e1, er, e2, e3⟩ := mth_split e
  simp only [evL] at e2
  obtain ⟨rfl, rfl⟩ := out_inj e2
  exact tE_then g e1 fun β1 H1 x1 i1 g1 r1 => ⟨tyList (o := .pop) (by decide) g1.hr r1 er X.K, ⟨Av, β1, h1, x, [], v, hm', g1.hr, r1, .nil, e3, k.after i1⟩⟩
end
end Mi

namespace Mi
open PySem PySem.Spec PyProof.Rows L2

section
variable {X : Cx} {T : Tb} {w : World} {F : Fn} {pos : Pos}
theorem mGet_ok (hK : X.K = T.K) (hw : X.w = w) (hu : X.A.units + 66 < cLine) : MtR X "dict.get" (rM T w .get) := by
  subst hw
  intro pins s σ H x xs v us Q I rx rxs h
  obtain ⟨Av, β, hm, o, l, m, hm', hr, ro, rl, e, k⟩ := h
  have e : mGet o l hm = .ok m hm' := e
  unfold mGet at e
  split at e
  · rename_i i km dm
    split at e
    · rename_i kvs ho
      split at e
      · rename_i q hq
        obtain ⟨rfl, rfl⟩ := out_inj e
        obtain ⟨a, rfl, hi⟩ := ro.loc'
        obtain ⟨x1, y1, rfl, r1, r2⟩ := rl.two'
        obtain ⟨ys, ob, re, dk, low, hx, _, _⟩ := hr.dict I hK hi ho
        obtain ⟨ka, rfl, hk⟩ := RV.keyIs I hK r1 hq
        cases rx
        obtain ⟨u1, u2, rfl, s1, s2⟩ := vals2 rxs
        cases s1
        refine call_meetsIn F.slot_dict_get dk.typeIs F.entry_dict_get (F.args_dict_get_3 _ _ _) (meetsH_dict_get_default (nestedKind X.prog X.w) a ka low u2) ⟨by show X.A.units + 1 + 8 < cLine; omega, q, ys, hk, dk, ?_⟩
        rcases REs.at q re with ⟨a1, a2⟩ | ⟨m', x', u', b', a1, a2, a3, a4⟩
        · rw [a1]
          rw [a2] at k
          exact ⟨y1, H, I.tok _, s2, k.same hr r2⟩
        · rw [a1]
          rw [a2] at k
          exact ⟨x', H, I.tok _, a4, k.same hr a3⟩
      · cases e
    · cases e
  · cases e
theorem e_get {o : Ex} {l : List Ex} {p q : Expr} {es : List Expr} {apos cpos : Pos} (hK : X.K = T.K) (hw : X.w = w) (hu : X.A.units + 66 < cLine) (ho : PE X p (tE T w F o)) (ha : PA X (q :: es) (tAs T w F l)) (hb : baseE p = true)
    (hf : (q :: es).all flatE = true) (hn : (q :: es).length < 20) (hl : (apos.endLine == cpos.line) = true) : PE X (.Call (.Attribute p "get" apos) (q :: es) [] cpos) (tE T w F (.mth .get o l)) := by
  have hs := star1 (by rw [List.all_cons, Bool.and_eq_true] at hf; exact hf.1) es X.env
  have hp : (backTo cpos (starEach es X.env)).any (·.1) = false := star_plain (by rw [List.all_cons, Bool.and_eq_true] at hf; exact hf.2)
  have few : ((backTo cpos (starEach (q :: es) X.env)).all (fun x => !x.1) && (backToKw cpos (keywordEach [] X.env)).all (fun x => x.1.isSome)
      && decide ((q :: es).length + ([] : List Keyword).length + (if ([] : List Keyword).isEmpty then 0 else 1) < 30)) = true := by
    rw [star_few hf]
    simp only [List.length_nil, List.isEmpty_nil, if_true, Bool.true_and]
    rw [Bool.and_eq_true]
    exact ⟨rfl, decide_eq_true (by omega)⟩
  refine ⟨fun pins s σ H Q I h => ?_⟩
  obtain ⟨Av, β, hm, σm, v, hm', g, e, k⟩ := h
  obtain ⟨x, h1, vs, h2, e1, er, e2, e3⟩ := mth_split e
  refine wpAny_Call_method (base_ok hb _ _) few hl PySem.F.plainAttrs_dict PySem.F.slot_dict_get PySem.F.type_dict_get (thn (ho.run pins s σ H (fun z H1 => ∃ β1, Ex' β hm H β1 h1 H1 ∧ Sg T w Av β1 h1 H1 σm σ ∧ RV T (lv Av β1 h1) β1 H1 x z) I (tE_then g e1 fun β1 H1 z i1 g1 r1 => ⟨β1, i1, g1, r1⟩)) fun u s1 ⟨z, H1, I1, rz, β1, i1, g1, r1⟩ => ?_)
  obtain ⟨i, rfl⟩ := rcv_loc er
  obtain ⟨a, rfl, hi⟩ := r1.loc'
  obtain ⟨kvs, hkv⟩ := rcv_dict er
  have g1hr := g1.hr
  rw [← hw] at g1hr
  obtain ⟨ys, ob, re, dk, low, hx, hob, ed⟩ := g1hr.dict I1 hK hi hkv
  cases rz
  refine ⟨dk.typeIs, fun b eb => ?_, ?_⟩
  · cases eb
    exact ⟨ob, hob, ed.2.1⟩
  have hA := ha.run cpos pins s1 σ H1 (fun xs H2 => ∃ β2, Ex' β1 h1 H1 β2 h2 H2 ∧ Sg T w Av β2 h2 H2 σm σ ∧ RVs T (lv Av β2 h2) β2 H2 vs xs) I1 (tAs_then g1 e2 fun β2 H2 xs i2 g2 r2 => ⟨β2, i2, g2, r2⟩)
  rw [hs] at hA ⊢
  refine Calls.callWith_builtin (by show (false || (backTo cpos (starEach es X.env)).any (·.1)) = false; rw [hp] <;> rfl) (Calls.evalArgs_plain ?_)
  refine thn hA fun us s2 ⟨xs, H2, I2, rs, β2, i2, g2, r2⟩ => ?_
  exact mGet_ok hK hw hu pins s2 σ H2 (.ref a) xs (.ref a) us Q I2 rfl rs ⟨Av, β2, h2, .loc i, vs, v, hm', g2.hr, r1.mono i2, r2, e3, k.after (i1.trans i2)⟩
theorem e_dic0 : PE X (.Dict [] [] pos) (tE T w F .dic0) := by
  refine ⟨fun pins s σ H Q I h => ?_⟩
  obtain ⟨Av, β, hm, σm, v, hm', g, e, k⟩ := h
  simp only [evE] at e
  obtain ⟨rfl, rfl⟩ := out_inj e
  have hn : H s.heap.objs.size = none := I.hok.fresh (Nat.le_refl _)
  have look : (s.heap.push { cls := .type "dict", data := .dict #[] }).get? s.heap.objs.size = some { cls := .type "dict", data := .dict #[] } := Heap.get?_push_size _ rfl
  have low : (s.heap.objs.size == sysModules) = false := beq_eq_false_iff_ne.mpr (Nat.ne_of_gt I.big)
  refine wpAny_Dict_empty ⟨.ref s.heap.objs.size, upd H s.heap.objs.size (.ext fun h => h.get? s.heap.objs.size = some { cls := .type "dict", data := .dict #[] }), I.laid (t' := s.toks) (fun b u e => Heap.get?_push_of_some _ e) (Nat.le_refl _) ⟨look, ⟨_, look⟩, fun h1 h2 z1 z2 => z2 _ z1⟩, rfl, ?_⟩
  exact k.loc g.hr hn (.dt .nil .nil ⟨rfl, rfl, rfl⟩ rfl rfl low)
end

/-! ### a dict of one entry: the dict itself is there first -/
section
variable {T : Tb} {w : World} {Av : Addr → Prop} {β : List Addr} {hm : MH} {H : Hp} {p : Addr} {u : HO} {σm : MS} {σ : L2.St}
def avo (Av : Addr → Prop) (p : Addr) : Addr → Prop := fun a => Av a ∨ a = p
theorem lv_avo {a : Addr} (h : lv (avo Av p) β hm a) : lv Av β hm a ∨ a = p := by
  rcases h with (h | h) | h
  · exact .inl (.inl h)
  · exact .inr h
  · exact .inl (.inr h)
theorem RV.avoid {T : Tb} (hp : H p = none) {m : MV} {x : V} (r : RV T (lv Av β hm) β H m x) : RV T (lv (avo Av p) β hm) β (upd H p u) m x :=
  r.imp (fun _ _ e => e) fun a o h n => ⟨by rw [upd_ne (ne_of_none h hp)]; exact h, fun q => (lv_avo q).elim n (fun e => by subst e; rw [hp] at h; cases h)⟩
theorem Sg.avoid (g : Sg T w Av β hm H σm σ) (hp : H p = none) : Sg T w (avo Av p) β hm (upd H p u) σm σ := by
  have nb : ∀ a ∈ β, a ≠ p := fun a ha e => by subst e; exact g.hr.thr a ha hp
  refine ⟨⟨g.hr.len, g.hr.nd, fun a ha q => ?_, fun a ha => ?_, fun a ha => ?_, fun i a o h1 h2 h3 => ?_⟩, g.ss.1, fun i v h => ?_⟩
  · rcases q with q | q
    · exact g.hr.av a ha q
    · exact nb a ha q
  · rw [upd_ne (nb a ha)]; exact g.hr.thr a ha
  · rcases ha with ha | rfl
    · have : a ≠ p := fun e => by subst e; exact g.hr.avt a ha hp
      rw [upd_ne this]; exact g.hr.avt a ha
    · rw [upd_same]; exact fun z => nomatch z
  · obtain ⟨v, hv, r⟩ := g.hr.obj i a o h1 h2 h3
    exact ⟨v, by rw [upd_ne (ne_of_none hv hp)]; exact hv, r.imp fun _ _ z => z.avoid hp⟩
  · obtain ⟨x, h1, h2⟩ := g.ss.2 i v h
    exact ⟨x, h1, h2.avoid hp⟩
variable {β2 : List Addr} {hm2 : MH} {H2 : Hp} {u2 : HO} {o : MO}
theorem RV.adopt {T : Tb} (hl : β2.length = hm2.length) {m : MV} {x : V} (r : RV T (lv (avo Av p) β2 hm2) β2 H2 m x) : RV T (lv Av (β2 ++ [p]) (hm2 ++ [o])) (β2 ++ [p]) (upd H2 p u2) m x := by
  refine r.imp (fun i a e => by rw [List.getElem?_append_left (List.getElem?_eq_some_iff.mp e).1]; exact e) fun a v h n => ?_
  have ne : a ≠ p := fun e => n (.inl (.inr e))
  refine ⟨by rw [upd_ne ne]; exact h, fun q => ?_⟩
  rcases q with q | ⟨i, m', e1, e2, e3⟩
  · exact n (.inl (.inl q))
  · by_cases hi : i < β2.length
    · rw [List.getElem?_append_left hi] at e1
      rw [List.getElem?_append_left (by omega)] at e2
      exact n (.inr ⟨i, m', e1, e2, e3⟩)
    · rw [List.getElem?_append_right (by omega)] at e1
      have := List.mem_of_getElem? e1
      rw [List.mem_singleton] at this
      exact ne this
theorem HR.adopt (hpa : ¬ Av p) (h : HR T (hsOf w) (avo Av p) β2 hm2 H2) (r : RO T (lv Av (β2 ++ [p]) (hm2 ++ [o])) (β2 ++ [p]) (upd H2 p u2) (hsOf w) o p u2) : HR T (hsOf w) Av (β2 ++ [p]) (hm2 ++ [o]) (upd H2 p u2) := by
  have nb : ∀ a ∈ β2, a ≠ p := fun a ha e => h.av a ha (.inr e)
  have np : p ∉ β2 := fun q => nb p q rfl
  refine ⟨by simp [h.len], ?_, fun a ha q => ?_, fun a ha => ?_, fun a ha => ?_, fun i a m h1 h2 h3 => ?_⟩
  · rw [List.nodup_append]
    refine ⟨h.nd, by simp, fun a ha b hb q => ?_⟩
    rw [List.mem_singleton] at hb
    subst hb q
    exact np ha
  · rcases List.mem_append.mp ha with z | z
    · exact h.av a z (.inl q)
    · rw [List.mem_singleton] at z
      subst z
      exact hpa q
  · rcases List.mem_append.mp ha with z | z
    · rw [upd_ne (nb a z)]; exact h.thr a z
    · rw [List.mem_singleton] at z
      subst z
      rw [upd_same]; exact fun z => nomatch z
  · by_cases e : a = p
    · subst e; rw [upd_same]; exact fun z => nomatch z
    · rw [upd_ne e]; exact h.avt a (.inl ha)
  · by_cases hi : i < β2.length
    · rw [List.getElem?_append_left hi] at h1
      rw [List.getElem?_append_left (by have := h.len; omega)] at h2
      obtain ⟨v, hv, rr⟩ := h.obj i a m h1 h2 h3
      exact ⟨v, by rw [upd_ne (nb a (List.mem_of_getElem? h1))]; exact hv, rr.imp fun _ _ z => z.adopt h.len⟩
    · rw [List.getElem?_append_right (by omega)] at h1
      rw [List.getElem?_append_right (by have := h.len; omega)] at h2
      have e1 := List.mem_of_getElem? h1
      have e2 := List.mem_of_getElem? h2
      rw [List.mem_singleton] at e1 e2
      subst e1 e2
      exact ⟨u2, upd_same, r⟩
end

section
variable {X : Cx} {T : Tb} {w : World} {F : Fn} {pos : Pos}
theorem dic1_split {a b : Ex} {σm : MS} {hm hm' : MH} {v : MV} {G : Gm} (e : evE G F (.dic1 a b) σm hm = .ok v hm') : ∃ x h1 y h2 q, evE G F a σm hm = .ok x h1 ∧ evE G F b σm h1 = .ok y h2 ∧ keyT x = some q ∧ v = .loc h2.length ∧ hm' = h2 ++ [.dt [(x, y)]] := by
  simp only [evE] at e
  (split at e; (case h_2 => cases e); rename_i x h1 e1)
  (split at e; (case h_2 => cases e); rename_i y h2 e2)
  split at e
  · rename_i q hq
    obtain ⟨rfl, rfl⟩ := out_inj e
    exact ⟨x, h1, y, h2, q, e1, e2, hq, rfl, rfl⟩
  · cases e
theorem e_dic1 {a b : Ex} {p q : Expr} (hK : X.K = T.K) (hw : X.w = w) (hu : X.A.units + 66 < cLine) (ha : PE X p (tE T w F a)) (hb : PE X q (tE T w F b)) : PE X (.Dict [some p] [q] pos) (tE T w F (.dic1 a b)) := by
  subst hw
  refine ⟨fun pins s σ H Q I h => ?_⟩
  obtain ⟨Av, β, hm, σm, v, hm', g, e, k⟩ := h
  obtain ⟨x, h1, y, h2, kq, e1, e2, hq, rfl, rfl⟩ := dic1_split e
  have hn : H s.heap.objs.size = none := I.hok.fresh (Nat.le_refl _)
  have nAv : ¬ Av s.heap.objs.size := fun z => g.hr.avt _ z hn
  have look : (s.heap.push { cls := .type "dict", data := .dict #[] }).get? s.heap.objs.size = some { cls := .type "dict", data := .dict #[] } := Heap.get?_push_size _ rfl
  have low : (s.heap.objs.size == sysModules) = false := beq_eq_false_iff_ne.mpr (Nat.ne_of_gt I.big)
  generalize hd : s.heap.objs.size = d at hn nAv look low
  let u0 : HO := .ext fun h => h.get? d = some { cls := .type "dict", data := .dict #[] }
  have I0 : Inv X pins σ (upd H d u0) { s with heap := s.heap.push { cls := .type "dict", data := .dict #[] } } :=
    I.laid (t' := s.toks) (fun b u e => Heap.get?_push_of_some _ e) (Nat.le_of_eq hd) ⟨look, ⟨_, look⟩, fun h1 h2 z1 z2 => z2 _ z1⟩
  have g0 := g.avoid (u := u0) hn
  let pairs : List (Sem Value × Sem Value) := [(eval p X.env, do let x ← eval q X.env; standAt pos; pure x)]
  have shape : (evalEachOpt [some p] X.env).zip ((evalEach [q] X.env).map fun v => do let x ← v; standAt pos; pure x) = pairs.map fun p => (some p.1, p.2) := rfl
  rw [arm_eval_Dict, shape, dictDisplay_pairs pairs (List.cons_ne_nil _ _) (by show (1 : Nat) < 17; decide)]
  refine wpAny_bind (wpAny_standAt (wpAny_bind (wpAny_subDictH (knd := nestedKind X.prog X.w) (by show X.A.units + 8 < cLine; omega) (by show (1 : Nat) ≤ 15; decide) ?_)))
  rw [hd]
  show wpAny _ _ (do let kv ← eval p X.env; let vv ← holding [kv] (do let x ← eval q X.env; standAt pos; pure x); return (kv, vv) :: (← holding [kv, vv] (evalPairs []))) _ _ _
  refine wpAny_bind (thn (ha.run pins _ σ _ (fun z H1 => ∃ β1, Ex' β hm (upd H d u0) β1 h1 H1 ∧ Sg T X.w (avo Av d) β1 h1 H1 σm σ ∧ RV T (lv (avo Av d) β1 h1) β1 H1 x z) I0 (tE_then g0 e1 fun β1 H1 z i1 g1 r1 => ⟨β1, i1, g1, r1⟩)) fun ku s1 ⟨kz, H1, I1, rk, β1, i1, g1, r1⟩ => ?_)
  refine wpAny_bind (wpAny_holding (wpAny_bind (thn (hb.run pins s1 σ H1 (fun z H2 => ∃ β2, Ex' β1 h1 H1 β2 h2 H2 ∧ Sg T X.w (avo Av d) β2 h2 H2 σm σ ∧ RV T (lv (avo Av d) β2 h2) β2 H2 y z) I1 (tE_then g1 e2 fun β2 H2 z i2 g2 r2 => ⟨β2, i2, g2, r2⟩)) fun vu s2 ⟨vz, H2, I2, rvz, β2, i2, g2, r2⟩ => ?_)))
  refine wpAny_bind (wpAny_standAt (wpAny_pure (wpAny_bind (wpAny_holding (wpAny_pure (wpAny_pure ?_))))))
  obtain ⟨ka, rfl, isk⟩ := RV.keyIs I2 hK (r1.mono i2) hq
  cases rk
  have there : (s2.heap.get? d = some { cls := .type "dict", data := .dict #[] }) ∧ H2 d = some u0 := by
    have hd2 : H2 d = some u0 := by
      have m0 : ¬ mine β hm d := fun z => g.hr.thr d (mineThere g.hr z) hn
      have h1d := i1.frm d u0 upd_same m0
      have m1 : ¬ mine β1 h1 d := fun z => g1.hr.av d (mineThere g1.hr z) (.inr rfl)
      exact i2.frm d u0 h1d m1
    exact ⟨(I2.hok d u0 hd2).1, hd2⟩
  obtain ⟨hd1, hd2⟩ := there
  refine ⟨[(kq, ka, vu)], ⟨rfl, rfl, isk, trivial⟩, ⟨_, #[], 0, hd1, ⟨rfl, rfl, rfl⟩, rfl, rfl, (fun x hx => nomatch hx), List.nodup_nil⟩, fun h' tk dk sb => wpAny_pure ?_⟩
  obtain ⟨o', es', ep', ho', ed', dat', ent', _, nd'⟩ := dk
  have st : storedAllH [] [(kq, ka, vu)] = [(kq, ka, vu)] := rfl
  rw [st] at ent' nd'
  let u2 : HO := .ext fun h => h.get? d = some o'
  have I3 : Inv X pins σ (upd H2 d u2) { s2 with heap := h', toks := tk } := I2.write (x := d) (e := d) (t' := tk) (by rw [hd2]; trivial) (.inl rfl) (fun b o hb z => (sb.2 b hb).trans z) ⟨_, ho'⟩ ⟨ho', ⟨o', ho'⟩, fun h1 h2 z1 z2 => z2 _ z1⟩
  refine ⟨.ref d, upd H2 d u2, I3, rfl, ?_⟩
  have hr := HR.adopt (w := X.w) (u2 := u2) (o := .dt [(x, y)]) nAv g2.hr (.dt (.cons hq ((r1.mono i2).adopt g2.hr.len) (r2.adopt g2.hr.len) rvz .nil) nd' ed' dat' (by rw [ent']; rfl) low)
  refine k (β2 ++ [d]) (upd H2 d u2) (.ref d) ⟨fun i a z => ?_, fun a z => ?_, fun a o z n => ?_, fun a z => ?_⟩ hr (.loc (by rw [← g2.hr.len]; exact getLen))
  · have z2 := i2.pre i a (i1.pre i a z)
    rw [List.getElem?_append_left (List.getElem?_eq_some_iff.mp z2).1]; exact z2
  · obtain ⟨i, m, z1, z2, z3⟩ := z
    by_cases hi : i < β2.length
    · rw [List.getElem?_append_left hi] at z1
      rw [List.getElem?_append_left (by have := g2.hr.len; omega)] at z2
      have ne : a ≠ d := fun e => g2.hr.av a (List.mem_of_getElem? z1) (.inr e)
      rcases (i1.trans i2).liv a ⟨i, m, z1, z2, z3⟩ with q | q
      · exact .inl q
      · rw [upd_ne ne] at q; exact .inr q
    · rw [List.getElem?_append_right (by omega)] at z1
      have e1 := List.mem_of_getElem? z1
      rw [List.mem_singleton] at e1
      subst e1
      exact .inr hn
  · have ne : a ≠ d := ne_of_none z hn
    rw [upd_ne ne]
    exact (i1.trans i2).frm a o (by rw [upd_ne ne]; exact z) n
  · by_cases ne : a = d
    · subst ne; exact absurd hn z
    · rw [upd_ne ne]
      exact (i1.trans i2).thr a (by rw [upd_ne ne]; exact z)
end

/-! ### attributes -/
/-- the names of attributes are told apart -/
def Inj (T : Tb) : Prop := ∀ f g, T.an f = T.an g → f = g
section
variable {T : Tb} {L : Addr → Prop} {β : List Addr} {H : Hp}
theorem zip_look (inj : Inj T) {f : Nat} {m : MV} : ∀ {fl : List Nat} {l : List MV} {xs : List V}, RVs T L β H l xs → (fl.zip l).lookup f = some m → ∃ x, ((fl.map T.an).zip xs).lookup (T.an f) = some x ∧ RV T L β H m x
  | [], _, _, _, e => by simp at e
  | _ :: _, [], _, _, e => by simp at e
  | g :: fl, a :: l, _, .cons (v := x) (vs := xs) r t, e => by
    simp only [List.zip_cons_cons, List.lookup_cons, List.map_cons] at e ⊢
    by_cases q : f = g
    · subst q
      simp only [beq_self_eq_true] at e ⊢
      cases e
      exact ⟨x, rfl, r⟩
    · have q1 : (f == g) = false := beq_false_of_ne q
      have q2 : (T.an f == T.an g) = false := beq_false_of_ne fun z => q (inj _ _ z)
      rw [q1] at e
      rw [q2]
      exact zip_look inj t e
theorem RFs.look (inj : Inj T) {f : Nat} {m : MV} : ∀ {fs : List (Nat × MV)} {gs : List (Str × V)}, RFs T L β H fs gs → fs.lookup f = some m → ∃ x, gs.lookup (T.an f) = some x ∧ RV T L β H m x
  | _, _, .nil, e => by cases e
  | _, _, .cons (f := g) (x := x) r t, e => by
    simp only [List.lookup_cons] at e ⊢
    by_cases q : f = g
    · subst q
      simp only [beq_self_eq_true] at e ⊢
      cases e
      exact ⟨x, rfl, r⟩
    · have q1 : (f == g) = false := beq_false_of_ne q
      have q2 : (T.an f == T.an g) = false := beq_false_of_ne fun z => q (inj _ _ z)
      rw [q1] at e
      rw [q2]
      exact RFs.look inj t e
theorem RFs.put (inj : Inj T) {f : Nat} {m : MV} {x : V} (r : RV T L β H m x) : ∀ {fs : List (Nat × MV)} {gs : List (Str × V)}, RFs T L β H fs gs → RFs T L β H (putA f m fs) (putF (T.an f) x gs)
  | _, _, .nil => .cons r .nil
  | _, _, .cons (f := g) (fs := fs) (gs := gs) r' t => by
    unfold putA putF
    by_cases q : g = f
    · subst q
      simp only [if_true]
      exact .cons r t
    · have q2 : ¬ T.an g = T.an f := fun z => q (inj _ _ z)
      rw [if_neg q, if_neg q2]
      exact .cons r' (RFs.put inj r t)
theorem RFs.length : ∀ {fs : List (Nat × MV)} {gs : List (Str × V)}, RFs T L β H fs gs → fs.length = gs.length
  | _, _, .nil => rfl
  | _, _, .cons _ t => by rw [List.length_cons, List.length_cons, RFs.length t]
theorem RFs.vals : ∀ {fs : List (Nat × MV)} {gs : List (Str × V)}, RFs T L β H fs gs → ∃ xs, gs = ((fs.map (·.1)).map T.an).zip xs ∧ RVs T L β H (fs.map (·.2)) xs
  | _, _, .nil => ⟨[], rfl, .nil⟩
  | _, _, .cons (x := x) r t => by
    obtain ⟨xs, e, q⟩ := RFs.vals t
    exact ⟨x :: xs, by rw [e]; rfl, .cons r q⟩
end
/-- what the classes are; n: so many attributes' names -/
structure CsOk (T : Tb) (n : Nat) : Prop where
  cls : ∀ c cl, T.G.cls[c]? = some cl → Cls T.K (T.ca c)
  noat : ∀ c cl f, T.G.cls[c]? = some cl → f < n → NoAttr T.K (T.ca c) (T.an f)
section
variable {T : Tb} {w : World} {Av : Addr → Prop} {β : List Addr} {hm : MH} {H : Hp}
theorem HR.ins (h : HR T (hsOf w) Av β hm H) {i : Nat} {a : Addr} {c : Nat} {fs : List (Nat × MV)} (hi : β[i]? = some a) (ho : hm[i]? = some (.ins c fs)) : ∃ dx gs, H a = some (.ins (T.ca c) dx gs) ∧ RFs T (lv Av β hm) β H fs gs := by
  obtain ⟨u, hu, r⟩ := h.obj i a _ hi ho (fun z => nomatch z)
  cases r with
  | ins r => exact ⟨_, _, hu, r⟩
end
end Mi

namespace Mi
open PySem PySem.Spec PyProof.Rows L2

section
variable {X : Cx} {T : Tb} {w : World} {F : Fn} {pos : Pos}
theorem getF_ok (inj : Inj T) {n f : Nat} (cs : CsOk T n) (hf : f < n) {Av : Addr → Prop} {β : List Addr} {hm : MH} {H : Hp} {o m : MV} {x : V} (hr : HR T (hsOf w) Av β hm H) (r : RV T (lv Av β hm) β H o x) (e : getF T.G f hm o = some m) :
    ∃ a C dx fs v, x = .ref a ∧ H a = some (.ins C dx fs) ∧ Cls T.K C ∧ NoAttr T.K C (T.an f) ∧ fs.lookup (T.an f) = some v ∧ RV T (lv Av β hm) β H m v := by
  cases o with
  | obj c l =>
    have e' : (match T.G.cls[c]? with | some cl => (cl.flds.zip l).lookup f | none => none) = some m := e
    cases r with
    | obj hc hH nL hl q =>
      rw [hc] at e'
      obtain ⟨y, h1, h2⟩ := zip_look inj q e'
      exact ⟨_, _, _, _, y, rfl, hH, cs.cls _ _ hc, cs.noat _ _ _ hc hf, h1, h2⟩
  | loc i =>
    obtain ⟨a, rfl, hi⟩ := r.loc'
    have e' : (match hm[i]? with | some (.ins c fs) => (match T.G.cls[c]? with | some _ => fs.lookup f | none => none) | _ => none) = some m := e
    split at e'
    · rename_i c fs ho
      split at e'
      · rename_i cl hc
        obtain ⟨dx, gs, hH, q⟩ := hr.ins hi ho
        obtain ⟨y, h1, h2⟩ := q.look inj e'
        exact ⟨a, _, dx, gs, y, rfl, hH, cs.cls _ _ hc, cs.noat _ _ _ hc hf, h1, h2⟩
      · cases e'
    · cases e'
  | _ => cases e
theorem e_fld {o : Ex} {f n : Nat} {p : Expr} {y : Str} (hK : X.K = T.K) (inj : Inj T) (cs : CsOk T n) (hf : f < n) (hy : T.an f = y) (ho : PE X p (tE T w F o)) (hb : baseE p = true) : PE X (.Attribute p y pos) (tE T w F (.fld o f)) := by
  subst hy
  refine PE.of (pe_fld ho (base_ok hb _ _)) fun σ H Q h => ?_
  obtain ⟨Av, β, hm, σm, v, hm', g, e, k⟩ := h
  simp only [evE] at e
  (split at e; (case h_2 => cases e); rename_i x h1 e1)
  split at e
  · rename_i m hm1
    obtain ⟨rfl, rfl⟩ := out_inj e
    refine tE_then g e1 fun β1 H1 x1 i1 g1 r1 => ?_
    obtain ⟨a, C, dx, fs, y, e1, e2, e3, e4, e5, e6⟩ := getF_ok inj cs hf g1.hr r1 hm1
    exact ⟨a, C, dx, fs, y, e1, e2, hK ▸ e3, hK ▸ e4, e5, (k.after i1).same g1.hr e6⟩
  · cases e
end

/-! ### the promise of a def -/
def spF (T : Tb) (w : World) (F : Fn) (np j : Nat) : SpG := fun vs H Q => ∃ (Av : Addr → Prop) (β : List Addr) (hm : MH) (l : List MV) (v : MV) (hm' : MH),
  HR T (hsOf w) Av β hm H ∧ RVs T (lv Av β hm) β H l vs ∧ l.length = np ∧ F j l hm = .ok v hm' ∧ Kp T (hsOf w) Av β hm H v hm' Q
/-! what is frozen behind a pure call -/
section
variable {T : Tb} {w : World}
mutual
theorem RV.froz {Av : Addr → Prop} {β β2 : List Addr} {hm hm2 : MH} {H2 : Hp} (h : HR T (hsOf w) (lv Av β hm) β2 hm2 H2) : ∀ {m m' : MV} {x : V}, RV T (lv (lv Av β hm) β2 hm2) β2 H2 m x → frz hm2 m = some m' → RV T (lv Av β hm) β H2 m' x
  | _, _, _, .non, e => by simp only [frz, Option.some.injEq] at e; subst e; exact .non
  | _, _, _, .bl b, e => by simp only [frz, Option.some.injEq] at e; subst e; exact .bl b
  | _, _, _, .int b, e => by simp only [frz, Option.some.injEq] at e; subst e; exact .int b
  | _, _, _, .str b, e => by simp only [frz, Option.some.injEq] at e; subst e; exact .str b
  | _, _, _, .fn b, e => by simp only [frz, Option.some.injEq] at e; subst e; exact .fn b
  | _, _, _, .kd b, e => by simp only [frz, Option.some.injEq] at e; subst e; exact .kd b
  | _, _, _, .tup h1 n r, e => by
    simp only [frz, Option.map_eq_some_iff] at e
    obtain ⟨l', e1, rfl⟩ := e
    exact .tup h1 (fun q => n (.inl q)) (RVs.froz h r e1)
  | _, _, _, .tupK h1 r, e => by
    simp only [frz, Option.map_eq_some_iff] at e
    obtain ⟨l', e1, rfl⟩ := e
    exact .tupK h1 (RVs.froz h r e1)
  | _, _, _, .lst h1 n r, e => by
    simp only [frz, Option.map_eq_some_iff] at e
    obtain ⟨l', e1, rfl⟩ := e
    exact .lst h1 (fun q => n (.inl q)) (RVs.froz h r e1)
  | _, _, _, .scr h1 n r, e => by
    simp only [frz] at e
    split at e
    · rename_i hf
      cases e
      exact .scr h1 (fun q => n (.inl q)) (r.any (fun a q => .inl q) hf)
    · cases e
  | _, _, _, .scrK h1 r, e => by
    simp only [frz] at e
    split at e
    · rename_i hf
      cases e
      exact .scrK h1 (r.any (fun a q => .inl q) hf)
    · cases e
  | _, _, _, .obj hc h1 n hl r, e => by
    simp only [frz, Option.map_eq_some_iff] at e
    obtain ⟨l', e1, rfl⟩ := e
    exact .obj hc h1 (fun q => n (.inl q)) (by rw [← hl]; exact frzL_len e1) (RVs.froz h r e1)
  | _, _, _, .loc (i := i) (a := a) hi, e => by
    simp only [frz] at e
    split at e
    · rename_i l ho
      split at e
      · rename_i hf
        cases e
        obtain ⟨xs, sq, q⟩ := h.list hi ho
        exact .lst sq (fun z => h.av a (List.mem_of_getElem? hi) z) (q.any (fun a z => .inl z) hf)
      · cases e
    · cases e
theorem RVs.froz {Av : Addr → Prop} {β β2 : List Addr} {hm hm2 : MH} {H2 : Hp} (h : HR T (hsOf w) (lv Av β hm) β2 hm2 H2) : ∀ {m m' : List MV} {x : List V}, RVs T (lv (lv Av β hm) β2 hm2) β2 H2 m x → frzL hm2 m = some m' → RVs T (lv Av β hm) β H2 m' x
  | _, _, _, .nil, e => by simp only [frzL, Option.some.injEq] at e; subst e; exact .nil
  | _, _, _, .cons a b, e => by
    simp only [frzL] at e
    split at e
    · rename_i x y h1 h2
      cases e
      exact .cons (RV.froz h a h1) (RVs.froz h b h2)
    · cases e
theorem frzL_len {hm2 : MH} : ∀ {m m' : List MV}, frzL hm2 m = some m' → m'.length = m.length
  | [], _, e => by simp only [frzL, Option.some.injEq] at e; subst e; rfl
  | a :: l, _, e => by
    simp only [frzL] at e
    split at e
    · rename_i x y h1 h2
      cases e
      rw [List.length_cons, List.length_cons, frzL_len h2]
    · cases e
end
end
section
variable {T : Tb} {w : World} {Av : Addr → Prop} {β β2 : List Addr} {hm hm2 : MH} {H H2 : Hp}
/-- the state of a pure call's body -/
theorem HR.pure (h : HR T (hsOf w) Av β hm H) : HR T (hsOf w) (lv Av β hm) [] [] H :=
  ⟨rfl, List.nodup_nil, (fun a ha => nomatch ha), (fun a ha => nomatch ha), fun a ha z => h.noL z ha, (fun i a o h1 _ _ => by simp at h1)⟩
theorem lv_nil {L : Addr → Prop} {a : Addr} (h : lv L [] [] a) : L a := by
  rcases h with h | ⟨i, o, h1, _⟩
  · exact h
  · simp at h1
/-- .. and behind it -/
theorem Ex'.pure (e : Ex' [] [] H β2 hm2 H2) : Ex' β hm H β hm H2 :=
  ⟨fun _ _ z => z, fun _ z => .inl z, fun a o z _ => e.frm a o z fun ⟨i, m, h1, _⟩ => by simp at h1, e.thr⟩
theorem HR.back (h : HR T (hsOf w) Av β hm H) (e : Ex' [] [] H β2 hm2 H2) : HR T (hsOf w) Av β hm H2 :=
  h.ext e.pure fun a q => by
    obtain ⟨i, o, h1, h2, h3⟩ := q
    obtain ⟨u, hu, _⟩ := h.obj i a o h1 h2 h3
    rw [hu]
    exact e.frm a u hu fun ⟨i, m, h1, _⟩ => by simp at h1
end
/-- a call by values: the promise of the def fits -/
theorem callD_sp {T : Tb} {w : World} {F : Fn} {j : Nat} {d : Df} {l : List MV} {vs : List V} {v : MV} {Av : Addr → Prop} {β : List Addr} {hm hm' : MH} {H : Hp} {Q : VK} (hd : T.G.defs[j]? = some d) (hl : l.length = d.np)
    (hr : HR T (hsOf w) Av β hm H) (r : RVs T (lv Av β hm) β H l vs) (e : callD T.G F j l hm = .ok v hm') (k : Kp T (hsOf w) Av β hm H v hm' Q) : spF T w F d.np j vs H Q := by
  unfold callD at e
  rw [hd] at e
  dsimp only at e
  split at e
  · split at e
    · rename_i hfx
      (split at e; (case h_2 => cases e); rename_i u h2 e2)
      split at e
      · rename_i v' hv
        obtain ⟨rfl, rfl⟩ := out_inj e
        refine ⟨lv Av β hm, [], [], l, u, h2, hr.pure, r.any (fun a z => lv_nil z) hfx, hl, e2, fun β2 H2 x i2 hr2 rx => ?_⟩
        exact k β H2 x i2.pure (hr.back i2) (rx.froz hr2 hv)
      · cases e
    · cases e
  · exact ⟨Av, β, hm, l, v, hm', hr, r, hl, e, k⟩
/-- how a call with keywords is bound: n by place, the names kn, perm: where each parameter's value stands -/
abbrev Kw := Nat × Nat × List Str × List Nat
structure DfOk (P : Program) (w : World) (T : Tb) (base : Heap) (k : Nat) (F : Fn) (kws : List Kw) (j : Nat) (d : Df) : Prop where
  kp : PySem.W.keepIn T.K (.ref (T.fa j)) = true
  fn : ∃ (fd : FuncData) (ps : List Str), ps.length = d.np ∧ FnG P w T.K T.mg base k (T.fa j) fd ps (spF T w F d.np j) ∧ Binds T.K fd ps [] ∧
    ∀ n kn perm, (j, n, kn, perm) ∈ kws → perm.length = d.np ∧ ∀ (s : Shared) (us : List Value), us.length = n + kn.length → BindsTo s fd ⟨us.take n, kn.zip (us.drop n)⟩ (ps.zip (perm.map fun i => (us[i]?).getD .none))
section
variable {X : Cx} {T : Tb} {w : World} {F : Fn} {pos : Pos} {k : Nat} {kws : List Kw}
theorem callD_len {G : Gm} {j : Nat} {d : Df} {l : List MV} {v : MV} {hm hm' : MH} (hl : ∀ l hm v hm', F j l hm = .ok v hm' → l.length = d.np) (e : callD G F j l hm = .ok v hm') : l.length = d.np := by
  unfold callD at e
  split at e
  · split at e
    · split at e
      · (split at e; (case h_2 => cases e); rename_i u h2 e2)
        exact hl _ _ _ _ e2
      · cases e
    · exact hl _ _ _ _ e
  · cases e
/-- a call with values -/
theorem call_us {j : Nat} {d : Df} {pins : List (Addr × Obj)} {s : Shared} {σ : L2.St} {H : Hp} {Q : VK} {us : List Value} {vs : List V} (hK : X.K = T.K) (hmg : X.mg = T.mg) (hw : X.w = w) (D : DfOk X.prog w T X.base k F kws j d) (hr : Roo k X.A)
    (I : Inv X pins σ H s) (r : Vals vs us) (h : spF T w F d.np j vs H Q) : wpAny (model X.prog X.w) X.A (call (.ref (T.fa j)) us) (EP X pins σ Q) X.xe s := by
  subst hw
  obtain ⟨fd, ps, hp, fn, b, _⟩ := D.fn
  rw [← hK, ← hmg] at fn
  rw [← hK] at b
  have hl : us.length = ps.length := by rw [← r.length]; exact fn.len _ _ _ h
  have b1 := b s us I.kIn (by rw [List.append_nil]; exact hl)
  rw [List.append_nil] at b1
  exact callG fn hr I b1 r h
theorem e_call {j : Nat} {d : Df} {l : List Ex} {p : Pos} {q : Expr} {es : List Expr} {y : Str} (hK : X.K = T.K) (hmg : X.mg = T.mg) (hw : X.w = w) (hd : T.G.defs[j]? = some d) (D : DfOk X.prog w T X.base k F kws j d) (hr : Roo k X.A)
    (hl : ∀ l hm v hm', F j l hm = .ok v hm' → l.length = d.np) (hg : Gl X y) (hm : T.mg y = some (.ref (T.fa j))) (hdb : (y == ("__debug__" : Str)) = false) (ha : PA X (q :: es) (tAs T w F l)) (hf : (q :: es).all flatE = true) :
    PE X (.Call (.Name y p) (q :: es) [] pos) (tE T w F (.call j l)) := by
  have hs := star1 (by rw [List.all_cons, Bool.and_eq_true] at hf; exact hf.1) es X.env
  have hp : (backTo pos (starEach es X.env)).any (·.1) = false := star_plain (by rw [List.all_cons, Bool.and_eq_true] at hf; exact hf.2)
  refine ⟨fun pins s σ H Q I h => ?_⟩
  obtain ⟨Av, β, hm0, σm, v, hm', g, e, kk⟩ := h
  simp only [evE] at e
  (split at e; (case h_2 => cases e); rename_i vs h1 e1)
  refine wpAny_Call_Name_kw (ld_glob I hg (by rw [hmg]; exact hm) ?_ hdb)
  refine PySem.W.callWith_K (h₀ := X.base) I.ok.mod.kin (by rw [hK]; exact D.kp) (thn (ha.run pos pins s σ H (fun xs H1 => spF T w F d.np j xs H1 Q) I (tAs_then g e1 fun β1 H1 xs i1 g1 r1 => callD_sp hd (callD_len hl e) g1.hr r1 e (kk.after i1))) fun us s1 ⟨xs, H1, I1, r, q⟩ => ⟨I1.kIn, ?_⟩) hs hp
  exact call_us hK hmg hw D hr I1 r q
theorem e_callV {i : Nat} {l : List Ex} {p : Pos} {q : Expr} {es : List Expr} {y : Str} (hK : X.K = T.K) (hmg : X.mg = T.mg) (hw : X.w = w) (D : ∀ j d, T.G.defs[j]? = some d → DfOk X.prog w T X.base k F kws j d) (hr : Roo k X.A)
    (hl : ∀ j d, T.G.defs[j]? = some d → ∀ l hm v hm', F j l hm = .ok v hm' → l.length = d.np) (hN : X.N[i]? = some y) (hv : Vis X.env.scope y) (hdb : (y == ("__debug__" : Str)) = false) (hcd : (y == ("__classdict__" : Str)) = false) (ha : PA X (q :: es) (tAs T w F l)) (hf : (q :: es).all flatE = true) :
    PE X (.Call (.Name y p) (q :: es) [] pos) (tE T w F (.callV i l)) := by
  have hs := star1 (by rw [List.all_cons, Bool.and_eq_true] at hf; exact hf.1) es X.env
  have hp : (backTo pos (starEach es X.env)).any (·.1) = false := star_plain (by rw [List.all_cons, Bool.and_eq_true] at hf; exact hf.2)
  refine ⟨fun pins s σ H Q I h => ?_⟩
  obtain ⟨Av, β, hm0, σm, v, hm', g, e, kk⟩ := h
  simp only [evE] at e
  split at e
  · rename_i j hj
    (split at e; (case h_2 => cases e); rename_i vs h1 e1)
    obtain ⟨x, hx, rx⟩ := g.ss.2 i _ hj
    cases rx
    have hd : ∃ d, T.G.defs[j]? = some d := by
      unfold callD at e
      split at e
      · exact ⟨_, by assumption⟩
      · cases e
    obtain ⟨d, hd⟩ := hd
    refine wpAny_Call_Name_kw (thn ((pe_var (pos := p) hN hv hdb hcd).run pins s σ H (fun v H1 => v = .ref (T.fa j) ∧ H1 = H) I ⟨.ref (T.fa j), hx, rfl, rfl⟩) fun u s0 ⟨z, H0, I0, r0, q0⟩ => ?_)
    obtain ⟨rfl, rfl⟩ := q0
    cases r0
    refine PySem.W.callWith_K (h₀ := X.base) I.ok.mod.kin (by rw [hK]; exact (D j d hd).kp) (thn (ha.run pos pins s0 σ _ (fun xs H1 => spF T w F d.np j xs H1 Q) I0 (tAs_then g e1 fun β1 H1 xs i1 g1 r1 => callD_sp hd (callD_len (hl j d hd) e) g1.hr r1 e (kk.after i1))) fun us s1 ⟨xs, H1, I1, r, q⟩ => ⟨I1.kIn, ?_⟩) hs hp
    exact call_us hK hmg hw (D j d hd) hr I1 r q
  · cases e
end
end Mi

namespace Mi
open PySem PySem.Spec PyProof.Rows L2

/-! ### keywords -/
theorem kw_names {env : Env} {pos : Pos} : ∀ {kws : List Keyword} {kn : List Str}, kws.map (·.arg) = kn.map some → (backToKw pos (keywordEach kws env)).all (·.1.isSome) = true ∧ (backToKw pos (keywordEach kws env)).filterMap (·.1) = kn ∧ (backToKw pos (keywordEach kws env)).any (·.1.isNone) = false
  | [], [], _ => ⟨rfl, rfl, rfl⟩
  | [], _ :: _, h => by simp at h
  | _ :: _, [], h => by simp at h
  | ⟨a, v, p⟩ :: kws, k :: kn, h => by
    simp only [List.map_cons, List.cons.injEq] at h
    obtain ⟨h1, h2⟩ := h
    subst h1
    obtain ⟨i1, i2, i3⟩ := kw_names (env := env) (pos := pos) h2
    refine ⟨?_, ?_, ?_⟩
    · show (true && (backToKw pos (keywordEach kws env)).all (·.1.isSome)) = true
      rw [i1]; rfl
    · show k :: (backToKw pos (keywordEach kws env)).filterMap (·.1) = k :: kn
      rw [i2]
    · show (false || (backToKw pos (keywordEach kws env)).any (·.1.isNone)) = false
      rw [i3]; rfl
section
variable {X : Cx} {T : Tb} {w : World} {F : Fn} {pos : Pos}
theorem PK.of {e : List Keyword} {t t' : TA} (h : PK X e t) (i : ∀ σ H Q, t' σ H Q → t σ H Q) : PK X e t' := ⟨fun ps pins s σ H Q I q => h.run ps pins s σ H Q I (i σ H Q q)⟩
theorem k_nil : PK X [] (tAs T w F []) := by
  refine PK.of pk_nil fun σ H Q h => ?_
  obtain ⟨Av, β, hm, σm, vs, hm', g, e, k⟩ := h
  simp only [evL] at e
  obtain ⟨rfl, rfl⟩ := out_inj e
  exact k β H [] Ex'.refl g.hr .nil
theorem k_cons {a : Ex} {l : List Ex} {p : Expr} {es : List Keyword} {nm : Option Str} {kp : Pos} (ha : PE X p (tE T w F a)) (hl : PK X es (tAs T w F l)) : PK X (⟨nm, p, kp⟩ :: es) (tAs T w F (a :: l)) := by
  refine PK.of (pk_cons ha hl) fun σ H Q h => ?_
  obtain ⟨Av, β, hm, σm, vs, hm', g, e, k⟩ := h
  simp only [evL] at e
  (split at e; (case h_2 => cases e); rename_i x h1 e1)
  (split at e; (case h_2 => cases e); rename_i xs h2 e2)
  obtain ⟨rfl, rfl⟩ := out_inj e
  exact tE_then g e1 fun β1 H1 x1 i1 g1 r1 => tAs_then g1 e2 fun β2 H2 xs1 i2 g2 r2 => k β2 H2 (x1 :: xs1) (i1.trans i2) g2.hr (.cons (r1.mono i2) r2)
theorem evL_app {G : Gm} : ∀ {l l2 : List Ex} {σm : MS} {hm hm' : MH} {vs : List MV}, evL G F (l ++ l2) σm hm = .ok vs hm' → ∃ v1 h1 v2, evL G F l σm hm = .ok v1 h1 ∧ evL G F l2 σm h1 = .ok v2 hm' ∧ vs = v1 ++ v2
  | [], l2, σm, hm, hm', vs, e => ⟨[], hm, vs, by simp only [evL], e, rfl⟩
  | a :: l, l2, σm, hm, hm', vs, e => by
    simp only [List.cons_append, evL] at e
    (split at e; (case h_2 => cases e); rename_i x h1 e1)
    (split at e; (case h_2 => cases e); rename_i xs h2 e2)
    obtain ⟨rfl, rfl⟩ := out_inj e
    obtain ⟨v1, h3, v2, q1, q2, rfl⟩ := evL_app e2
    exact ⟨x :: v1, h3, v2, by simp only [evL, e1, q1], q2, rfl⟩
end
section
variable {T : Tb} {L : Addr → Prop} {β : List Addr} {H : Hp}
theorem RVs.getD {l : List MV} {xs : List V} (r : RVs T L β H l xs) (i : Nat) : RV T L β H ((l[i]?).getD .non) ((xs[i]?).getD .non) := by
  cases h : l[i]? with
  | none =>
    have h2 : xs[i]? = none := List.getElem?_eq_none_iff.mpr (by rw [← r.length]; exact List.getElem?_eq_none_iff.mp h)
    rw [h2]
    exact .non
  | some m =>
    obtain ⟨x, h1, h2⟩ := r.get h
    rw [h1]
    exact h2
theorem RVs.perm {l : List MV} {xs : List V} (r : RVs T L β H l xs) : ∀ ks : List Nat, RVs T L β H (ks.map fun k => (l[k]?).getD .non) (ks.map fun k => (xs[k]?).getD .non)
  | [] => .nil
  | k :: ks => .cons (r.getD k) (RVs.perm r ks)
theorem vals_perm {xs : List V} {us : List Value} (r : Vals xs us) : ∀ ks : List Nat, Vals (ks.map fun k => (xs[k]?).getD .non) (ks.map fun k => (us[k]?).getD .none)
  | [] => .nil
  | k :: ks => .cons (by
      show RelV ((xs[k]?).getD .non) ((us[k]?).getD .none)
      cases h : xs[k]? with
      | none =>
        rw [r.none_of h]
        rfl
      | some x =>
        obtain ⟨u, h1, h2⟩ := r.get h
        rw [h1]
        exact h2) (vals_perm r ks)
end
section
variable {X : Cx} {T : Tb} {w : World} {F : Fn} {pos : Pos} {k : Nat} {kws : List Kw}
theorem e_callK {j : Nat} {d : Df} {l1 l2 : List Ex} {ks : List Nat} {kn : List Str} {p : Pos} {es : List Expr} {kes : List Keyword} {y : Str} (hK : X.K = T.K) (hmg : X.mg = T.mg) (hw : X.w = w) (hd : T.G.defs[j]? = some d) (D : DfOk X.prog w T X.base k F kws j d) (hr : Roo k X.A)
    (hkw : (j, l1.length, kn, ks) ∈ kws) (hn : kes.map (·.arg) = kn.map some) (hlen : kn.length = l2.length)
    (hg : Gl X y) (hm : T.mg y = some (.ref (T.fa j))) (hdb : (y == ("__debug__" : Str)) = false) (ha : PA X es (tAs T w F l1)) (hak : PK X kes (tAs T w F l2)) (hf : es.all flatE = true) (hle : es.length = l1.length) :
    PE X (.Call (.Name y p) es kes pos) (tE T w F (.callK j ks (l1 ++ l2))) := by
  subst hw
  obtain ⟨kall, knames, kany⟩ := kw_names (env := X.env) (pos := pos) hn
  have plain : ((backTo pos (starEach es X.env)).any (·.1) || (backToKw pos (keywordEach kes X.env)).any (·.1.isNone)) = false := by rw [star_plain hf, kany]; rfl
  refine ⟨fun pins s σ H Q I h => ?_⟩
  obtain ⟨Av, β, hm0, σm, v, hm', g, e, kk⟩ := h
  simp only [evE] at e
  (split at e; (case h_2 => cases e); rename_i vs h1 e1)
  obtain ⟨v1, h3, v2, q1, q2, rfl⟩ := evL_app e1
  obtain ⟨fd, ps, hp, fn, b, bk⟩ := D.fn
  obtain ⟨pl, bk⟩ := bk _ _ _ hkw
  refine wpAny_Call_Name_kw (ld_glob I hg (by rw [hmg]; exact hm) ?_ hdb)
  -- the keywords, then the call
  have rest : ∀ us s1 xs β1 H1, Inv X pins σ H1 s1 → Vals xs us → us.length = l1.length → Ex' β hm0 H β1 h3 H1 → Sg T X.w Av β1 h3 H1 σm σ → RVs T (lv Av β1 h3) β1 H1 v1 xs →
      wpAny (model X.prog X.w) X.A (evalAll ((backToKw pos (keywordEach kes X.env)).map (·.2))) (fun ws s2 => X.K.In s2.heap ∧ wpAny (model X.prog X.w) X.A (call (.ref (T.fa j)) ([] ++ us) (((backToKw pos (keywordEach kes X.env)).filterMap (·.1)).zip ws)) (EP X pins σ Q) X.xe s2) X.xe s1 := by
    intro us s1 xs β1 H1 I1 r lu i1 g1 r1
    refine thn (hak.run pos pins s1 σ H1 (fun zs H2 => ∃ β2, Ex' β1 h3 H1 β2 h1 H2 ∧ Sg T X.w Av β2 h1 H2 σm σ ∧ RVs T (lv Av β2 h1) β2 H2 v2 zs) I1 (tAs_then g1 q2 fun β2 H2 zs i2 g2 r2 => ⟨β2, i2, g2, r2⟩)) fun ws s2 ⟨zs, H2, I2, rz, β2, i2, g2, r2⟩ => ⟨I2.kIn, ?_⟩
    rw [knames, List.nil_append]
    have sp := callD_sp hd (by rw [List.length_map]; exact pl) g2.hr (((r1.mono i2).append r2).perm ks) e (kk.after (i1.trans i2))
    have lw : ws.length = kn.length := by rw [hlen, ← evL_len q2, r2.length, rz.length]
    have bb := bk s2 (us ++ ws) (by rw [List.length_append, lu, lw])
    rw [List.take_left' lu, List.drop_left' lu] at bb
    rw [← hK, ← hmg] at fn
    exact callG fn hr I2 bb (vals_perm (r.append rz) ks) sp
  cases es with
  | nil =>
    have l1n : l1 = [] := List.length_eq_zero_iff.mp (by simpa using hle.symm)
    subst l1n
    simp only [evL] at q1
    obtain ⟨rfl, rfl⟩ := out_inj q1
    exact PySem.W.callWith_KW0 (h₀ := X.base) I.ok.mod.kin (by rw [hK]; exact D.kp) kall (rest [] s [] β H I .nil rfl Ex'.refl g .nil) plain
  | cons q es =>
    have hs := star1 (by rw [List.all_cons, Bool.and_eq_true] at hf; exact hf.1) es X.env
    refine PySem.W.callWith_KW (h₀ := X.base) I.ok.mod.kin (by rw [hK]; exact D.kp) kall (thn (ha.run pos pins s σ H (fun xs H1 => ∃ β1, Ex' β hm0 H β1 h3 H1 ∧ Sg T X.w Av β1 h3 H1 σm σ ∧ RVs T (lv Av β1 h3) β1 H1 v1 xs) I (tAs_then g q1 fun β1 H1 xs i1 g1 r1 => ⟨β1, i1, g1, r1⟩)) fun us s1 ⟨xs, H1, I1, r, β1, i1, g1, r1⟩ => ?_) plain hs
    exact rest us s1 xs β1 H1 I1 r (by rw [← r.length, ← r1.length, evL_len q1]) i1 g1 r1

/-! ### a new instance -/
theorem newO_some {G : Gm} {c : Nat} {l : List MV} {hm hm' : MH} {v : MV} (e : newO G F c l hm = .ok v hm') : ∃ cl fs rest, G.cls[c]? = some cl ∧ fixL l = true ∧ F cl.init (.loc 0 :: l) [.ins c []] = .ok .non (.ins c fs :: rest) ∧ fs.map (·.1) = cl.flds ∧ fixL (fs.map (·.2)) = true ∧ v = .obj c (fs.map (·.2)) ∧ hm = hm' := by
  unfold newO at e
  split at e
  · rename_i cl hc
    split at e
    · rename_i hfx
      split at e
      · rename_i c' fs rest hF
        obtain ⟨h1, rfl, rfl⟩ := ite_ok e
        simp only [Bool.and_eq_true, decide_eq_true_eq] at h1
        obtain ⟨⟨h2, h3⟩, h4⟩ := h1
        subst h2
        exact ⟨cl, fs, rest, hc, hfx, hF, h3, h4, rfl, rfl⟩
      · cases e
    · cases e
  · cases e
theorem newO_sp {c : Nat} {cl : Cl} {d : Df} {l : List MV} {vs : List V} {v : MV} {Av : Addr → Prop} {β : List Addr} {hm hm' : MH} {H : Hp} {Q : VK} (hd : T.G.defs[cl.init]? = some d) (hc : T.G.cls[c]? = some cl)
    (hl : ∀ l hm v hm', F cl.init l hm = .ok v hm' → l.length = d.np) (hr : HR T (hsOf w) Av β hm H) (r : RVs T (lv Av β hm) β H l vs) (e : newO T.G F c l hm = .ok v hm') (k : Kp T (hsOf w) Av β hm H v hm' Q)
    (x dx : Addr) (hx : H x = none) (hdx : H dx = none) (hne : dx ≠ x) : spF T w F d.np cl.init (.ref x :: vs) (upd (upd H dx (.own x)) x (.ins (T.ca c) dx [])) (fun v H2 => v = .non ∧ Q (.ref x) H2) := by
  obtain ⟨cl', fs, rest, hc', hfx, hF, hfl, hfix, rfl, rfl⟩ := newO_some e
  rw [hc] at hc'
  cases hc'
  have old : ∀ a o, H a = some o → upd (upd H dx (.own x)) x (.ins (T.ca c) dx []) a = some o ∧ a ≠ x := fun a o h => by
    have n1 : a ≠ x := ne_of_none h hx
    have n2 : a ≠ dx := ne_of_none h hdx
    exact ⟨by rw [upd_ne n1, upd_ne n2]; exact h, n1⟩
  have nl : ¬ lv Av β hm x := hr.noL hx
  have lvx : ∀ a, lv (lv Av β hm) [x] [.ins c []] a → lv Av β hm a ∨ a = x := fun a h => by
    rcases h with h | ⟨i, o, h1, _⟩
    · exact .inl h
    · exact .inr (List.mem_singleton.mp (List.mem_of_getElem? h1))
  have hr1 : HR T (hsOf w) (lv Av β hm) [x] [.ins c []] (upd (upd H dx (.own x)) x (.ins (T.ca c) dx [])) := by
    refine ⟨rfl, by simp, fun a ha => ?_, fun a ha => ?_, fun a ha => ?_, fun i a o h1 h2 h3 => ?_⟩
    · rw [List.mem_singleton.mp ha]; exact nl
    · rw [List.mem_singleton.mp ha, upd_same]; exact fun z => nomatch z
    · cases ho : H a with
      | none => exact absurd ha (hr.noL ho)
      | some o => rw [(old a o ho).1]; exact fun z => nomatch z
    · have e1 := List.mem_singleton.mp (List.mem_of_getElem? h1)
      have e2 := List.mem_singleton.mp (List.mem_of_getElem? h2)
      subst e1 e2
      exact ⟨_, upd_same, .ins .nil⟩
  refine ⟨lv Av β hm, [x], [.ins c []], .loc 0 :: l, .non, .ins c fs :: rest, hr1, .cons (.loc rfl) ?_, hl _ _ _ _ hF, hF, fun β2 H2 z i2 hr2 rz => ⟨rz.non', ?_⟩⟩
  · exact (r.any (L' := lv Av β hm) (β' := [x]) (fun a z => z) hfx).imp (fun _ _ z => z) fun a o h n => ⟨(old a o h).1, fun q => (lvx a q).elim n (old a o h).2⟩
  · obtain ⟨dx', gs, hH, q⟩ := hr2.ins (i2.pre 0 x rfl) (show (MO.ins c fs :: rest)[0]? = some (.ins c fs) from rfl)
    obtain ⟨xs, rfl, qv⟩ := q.vals
    rw [hfl] at hH
    have ee : Ex' β hm H β hm H2 := ⟨fun _ _ z => z, fun _ z => .inl z, fun a o z _ => i2.frm a o (old a o z).1 fun ⟨i, m, h1, _⟩ => (old a o z).2 (List.mem_singleton.mp (List.mem_of_getElem? h1)), fun a z => by
      cases ho : H a with
      | none => exact absurd ho z
      | some o => exact i2.thr a (by rw [(old a o ho).1]; exact fun z => nomatch z)⟩
    have hrB : HR T (hsOf w) Av β hm H2 := hr.ext ee fun a z => by
      obtain ⟨i, o, h1, h2, h3⟩ := z
      obtain ⟨u, hu, _⟩ := hr.obj i a o h1 h2 h3
      rw [hu]
      exact i2.frm a u (old a u hu).1 fun ⟨i, m, h1, _⟩ => (old a u hu).2 (List.mem_singleton.mp (List.mem_of_getElem? h1))
    exact k β H2 (.ref x) ee hrB (.obj hc hH nl (by rw [← hfl]; simp) (qv.any (fun a z => .inl z) hfix))
/-- a class that can be made -/
structure MkOk (P : Program) (w : World) (T : Tb) (base : Heap) (k : Nat) (F : Fn) (c : Nat) (cl : Cl) : Prop where
  ex : ∃ (f : Addr) (fd : FuncData) (ps : List Str) (d : Df), Mk T.K (T.ca c) f ∧ T.G.defs[cl.init]? = some d ∧ FnG P w T.K T.mg base k f fd ps (spF T w F d.np cl.init) ∧ Binds T.K fd ps [] ∧ ∀ l hm v hm', F cl.init l hm = .ok v hm' → l.length = d.np
theorem e_new {c : Nat} {cl : Cl} {l : List Ex} {p : Pos} {q : Expr} {es : List Expr} {y : Str} (hK : X.K = T.K) (hmg : X.mg = T.mg) (hw : X.w = w) (hc : T.G.cls[c]? = some cl) (M : MkOk X.prog w T X.base k F c cl) (hr : Roo (k + 1) X.A)
    (hg : Gl X y) (hm : T.mg y = some (.ref (T.ca c))) (hdb : (y == ("__debug__" : Str)) = false) (ha : PA X (q :: es) (tAs T w F l)) (hf : (q :: es).all flatE = true) :
    PE X (.Call (.Name y p) (q :: es) [] pos) (tE T w F (.new c l)) := by
  subst hw
  have hs := star1 (by rw [List.all_cons, Bool.and_eq_true] at hf; exact hf.1) es X.env
  have hp : (backTo pos (starEach es X.env)).any (·.1) = false := star_plain (by rw [List.all_cons, Bool.and_eq_true] at hf; exact hf.2)
  obtain ⟨f, fd, ps, d, mk, hd, fn, b, hlen⟩ := M.ex
  rw [← hK] at mk b
  rw [← hK, ← hmg] at fn
  refine ⟨fun pins s σ H Q I h => ?_⟩
  obtain ⟨Av, β, hm0, σm, v, hm', g, e, kk⟩ := h
  simp only [evE] at e
  (split at e; (case h_2 => cases e); rename_i vs h1 e1)
  refine wpAny_Call_Name_kw (ld_glob I hg (by rw [hmg]; exact hm) ?_ hdb)
  refine PySem.W.callWith_K (h₀ := X.base) I.ok.mod.kin mk.kp (thn (ha.run pos pins s σ H (fun xs H1 => ∃ β1, Ex' β hm0 H β1 h1 H1 ∧ Sg T X.w Av β1 h1 H1 σm σ ∧ RVs T (lv Av β1 h1) β1 H1 vs xs) I (tAs_then g e1 fun β1 H1 xs i1 g1 r1 => ⟨β1, i1, g1, r1⟩)) fun us s1 ⟨xs, H1, I1, r, β1, i1, g1, r1⟩ => ⟨I1.kIn, ?_⟩) hs hp
  exact makeG mk fn hr b I1 r fun x dx hx hdx hne => newO_sp hd hc hlen g1.hr r1 e (kk.after i1) x dx hx hdx hne
end
end Mi

namespace PySem
open Sem (wp)
open AutoSeq1 (wpAny_loadPart')
theorem meets_enumT (l : Addr) (items : Array Value) (n : Nat) (dct : Option Addr) (sl : Array (Option Value)) :
    Meets (Builtin.«enumerate.__new__» ⟨[.type "enumerate", .ref l], []⟩) (fun _ R s => s.heap.get? l = some { cls := .type "tuple", dict := dct, data := .seq items n, slots := sl } ∧
      R (.ok (.ret (.ref (s.heap.push { cls := .type "tuple_iterator", data := .fields #[.ref l, .int 0 0] }).objs.size)))
        { s with heap := (s.heap.push { cls := .type "tuple_iterator", data := .fields #[.ref l, .int 0 0] }).push { cls := .type "enumerate", data := .fields #[.none, .bool false, .ref s.heap.objs.size, rawInt 0, .none, .none] } }) :=
  .of_wp fun prog w A R s at_ => by
    obtain ⟨hp, g, d, tk, os⟩ := s
    obtain ⟨at_, goal⟩ := at_
    have below := sub_enumerate
    have isT : Heap.IsTuple (Shared.heap ⟨hp, g, d, tk, os⟩) l items := ⟨_, at_, rfl, n, rfl⟩
    wp_walk using wpAny_loadPart' at_
    refine wpAny_stack_any fun st => wpAny_pure ?_
    split
    · rename_i c _ _ _ _ _
      cases (c == Value.type "enumerate") <;> (wp_walk using wpAny_loadPart' at_, wpAny_pyIter_tuple isT; exact ⟨_, rfl, goal⟩)
    · wp_walk using wpAny_loadPart' at_, wpAny_pyIter_tuple isT
      exact ⟨_, rfl, goal⟩
end PySem

namespace Mi
open PySem PySem.Spec PyProof.Rows L2

/-! ### enumerate over a tuple -/
def Itp (K : PySem.W.Frag) (a : Addr) : It :=
  ⟨fun i H => ∃ (xs : List V) (x : V), SqT K H a xs ∧ xs[i]? = some x, fun i H v H' => ∃ p x, v = .ref p ∧ H p = none ∧ H' = upd H p (.tup [.int (i : Nat), x]) ∧ ∀ xs, SqT K H a xs → xs[i]? = some x, fun i H => ∃ xs : List V, SqT K H a xs ∧ xs.length = i⟩
theorem turn_enumT {P : Program} {w : World} {K : PySem.W.Frag} {elts : List Expr} {kk : Nat} {tpos : Pos} (a e it : Addr) :
    Turn P w K (.Tuple elts kk tpos) (Itp K a) [e, it] e (fun i h => (∃ old, IsEnum h e it ((i : Nat) : Int) old) ∧ h.IsTupleIter it a i ∧ e ≠ it ∧ a ≠ it ∧ a ≠ e) where
  mem := List.mem_cons_self ..
  obj := by
    rintro i h ⟨⟨old, isE⟩, ⟨o, look, _, fields⟩, _⟩ b hb
    rcases List.mem_cons.mp hb with rfl | hb
    · exact ⟨_, isE, fun _ q => nomatch q⟩
    · rw [List.mem_singleton.mp hb]
      exact ⟨o, look, fun _ q => by rw [fields] at q; cases q⟩
  keep := by
    rintro i h h' ⟨⟨old, isE⟩, isI, apart⟩ kept
    exact ⟨⟨old, kept e (by simp) _ isE⟩, isI.at fun o q => kept it (by simp) o q, apart⟩
  item := by
    intro X hP hw hK calm i pins s σ H E I fp st more
    subst hP hw hK
    obtain ⟨⟨old, isE⟩, isI, ne, na, nae⟩ := st
    obtain ⟨xs, x, sq, hx⟩ := more
    obtain ⟨its, rel, isT, _⟩ := I.tuple sq
    obtain ⟨u, hu, ru⟩ := rel.get hx
    have he : e < s.heap.objs.size := Heap.lt_size isE
    have hi : it < s.heap.objs.size := by obtain ⟨_, q, _⟩ := isI; exact Heap.lt_size q
    have len : i < its.toArray.size := by
      have := (List.getElem?_eq_some_iff.mp hu).1
      simpa using this
    have D := Draws.tuple (prog := X.prog) (w := X.w) (A := X.A.in1) (show X.A.in1.handled = none from I.ok.hd calm) it a na its.toArray
    refine wpAny_pyNext_enum_itemD D isE ⟨isI, isT⟩ len ne (by simp only [List.mem_cons, List.not_mem_nil, or_false, not_or]; exact ⟨ne, Ne.symm nae⟩) fun v h' tk hv out st' tup sz kept => ?_
    have ev : v = u := by
      have q : its.toArray[i]? = some u := by simpa using hu
      exact Option.some.inj (hv.symm.trans q)
    subst ev
    refine ⟨_, rfl, wpAny_letOwnedTupleGo_enum (s := { s with heap := h', toks := tk + 1 }) out fun h'' back same => ?_⟩
    have tup' : h''.get? s.heap.objs.size = some { cls := .type "tuple", data := .seq #[.int i tk, v] } := (same.2 _ (Nat.ne_of_gt he)).trans tup
    have new : ObjOk X.prog X.w (upd H s.heap.objs.size (.tup [.int (i : Nat), x])) h'' s.heap.objs.size (.tup [.int (i : Nat), x]) :=
      ⟨(by decide : 2 ≤ sizeLine), [.int i tk, v], .cons ⟨_, rfl⟩ (.cons ru .nil), ⟨_, tup', rfl, _, rfl⟩⟩
    have I1 : Inv X pins σ (upd H s.heap.objs.size (.tup [.int (i : Nat), x])) { s with heap := h'', toks := tk + 1 } := by
      refine I.turnedNew (ch := [e, it]) (fun b o hb q => ?_) fp (Nat.le_refl _) new
      have nb : b ≠ e ∧ b ≠ it := by simpa using hb
      exact (same.2 b nb.1).trans (kept b o nb.1 nb.2 q)
    refine ⟨.ref s.heap.objs.size, _, I1, rfl, ⟨_, x, rfl, I.hok.fresh (Nat.le_refl _), rfl, fun ys hy => by rw [I.tuple_inj hy sq]; exact hx⟩, ⟨⟨v, ?_⟩, st'.1.at fun o q => (same.2 it (Ne.symm ne)).trans q, ne, na, nae⟩, fun b hb => ?_⟩
    · rw [show ((i + 1 : Nat) : Int) = (i : Int) + 1 by omega]
      exact back
    · have small : b < s.heap.objs.size := by
        rcases List.mem_cons.mp hb with rfl | hb
        · exact he
        · rw [List.mem_singleton.mp hb]; exact hi
      rw [upd_ne (Nat.ne_of_lt small)]
      exact (fp b hb).1
  done := by
    intro X hP hw hK calm i pins s σ H E I fp st over
    subst hP hw hK
    obtain ⟨⟨old, isE⟩, isI, ne, na, nae⟩ := st
    obtain ⟨xs, sq, hx⟩ := over
    obtain ⟨its, rel, isT, _⟩ := I.tuple sq
    obtain ⟨f0, f1, f2, f3, f4, f5⟩ := fp it (by simp)
    have len : its.toArray.size = i := by rw [← hx, rel.length]; rfl
    have D := Draws.tuple (prog := X.prog) (w := X.w) (A := X.A.in1) (show X.A.in1.handled = none from I.ok.hd calm) it a na its.toArray
    rw [len] at D
    exact wpAny_pyNext_enum_endD D isE ⟨isI, isT⟩ fun h' kept => ⟨rfl, I.turned (t' := s.toks) (fun b o hb q => kept b o hb q) f0 f1 f3 f4 f5⟩
  self := fun A i s Q E st h => let ⟨⟨_, isE⟩, _⟩ := st; wpAny_pyIter_enum isE h

/-- enumerate(t) -/
theorem call_enumT {prog : Program} {w : World} {A : Around} {E : Value → Shared → Prop} {s : Shared} {l : Addr} {items : Array Value} {Q : Value → Shared → Prop} (isT : s.heap.IsTuple l items)
    (h : ∀ h', IsEnum h' (s.heap.objs.size + 1) s.heap.objs.size 0 .none → h'.IsTupleIter s.heap.objs.size l 0 → (∀ b o, s.heap.get? b = some o → h'.get? b = some o) → Q (.ref (s.heap.objs.size + 1)) { s with heap := h' }) :
    wpAny (model prog w) A (call (.type "enumerate") [.ref l]) Q E s := by
  obtain ⟨⟨c, dct, dt, sl⟩, at_, isC, n, isD⟩ := isT
  obtain rfl : c = .type "tuple" := isC
  obtain rfl : dt = .seq items n := isD
  refine callType_new F.called_enumerate (by decide) (F.typeCall_enumerate_1 _) (F.newCall_enumerate_1 _) (fun obj => F.args_object_init_2 obj _) F.entry_enumerate_new (PySem.meets_enumT l items n dct sl) ⟨at_, ?_⟩
  generalize hh : s.heap.push { cls := .type "tuple_iterator", data := .fields #[.ref l, .int 0 0] } = h1
  have sz : h1.objs.size = s.heap.objs.size + 1 := by rw [← hh]; exact Heap.size_push ..
  have isE : IsEnum (h1.push { cls := .type "enumerate", data := .fields #[.none, .bool false, .ref s.heap.objs.size, rawInt 0, .none, .none] }) (s.heap.objs.size + 1) s.heap.objs.size 0 .none := by
    rw [← sz]
    exact Heap.get?_push_size h1 rfl
  show _ ∧ _
  rw [sz]
  refine ⟨⟨_, isE, rfl⟩, h _ isE ⟨{ cls := .type "tuple_iterator", data := .fields #[.ref l, .int 0 0] }, Heap.get?_push_of_some _ ?_, rfl, rfl⟩ fun b o q => Heap.get?_push_of_some _ ?_⟩
  · rw [← hh]; exact Heap.get?_push_size _ rfl
  · rw [← hh]; exact Heap.get?_push_of_some _ q

/-! ### what a walk gives, by the interpreter's list -/
/-- more is to be kept away from: things that were not there -/
def More (Av Av' : Addr → Prop) (H : Hp) : Prop := (∀ a, Av a → Av' a) ∧ ∀ a, Av' a → Av a ∨ H a = none
section
variable {T : Tb} {w : World} {Av Av' : Addr → Prop} {β β' : List Addr} {hm hm' : MH} {H H' : Hp}
theorem More.refl : More Av Av H := ⟨fun _ h => h, fun _ h => .inl h⟩
theorem Ex'.frA (e : Ex' β hm H β' hm' H') (mo : More Av Av' H) : ∀ a o, H a = some o → ¬ lv Av β hm a → H' a = some o ∧ ¬ lv Av' β' hm' a := fun a o h n => by
  obtain ⟨h1, h2⟩ := e.frL (Av := Av) a o h n
  refine ⟨h1, fun q => ?_⟩
  rcases q with q | q
  · rcases mo.2 a q with z | z
    · exact n (.inl z)
    · rw [h] at z; cases z
  · exact h2 (.inr q)
theorem RV.monoA (e : Ex' β hm H β' hm' H') (mo : More Av Av' H) {m : MV} {x : V} (r : RV T (lv Av β hm) β H m x) : RV T (lv Av' β' hm') β' H' m x := r.imp e.pre (e.frA mo)
theorem RVs.monoA (e : Ex' β hm H β' hm' H') (mo : More Av Av' H) {m : List MV} {x : List V} (r : RVs T (lv Av β hm) β H m x) : RVs T (lv Av' β' hm') β' H' m x := r.imp e.pre (e.frA mo)
theorem SS.monoA {σm : MS} {σ : L2.St} (s : SS T (lv Av β hm) β H σm σ) (e : Ex' β hm H β' hm' H') (mo : More Av Av' H) : SS T (lv Av' β' hm') β' H' σm σ :=
  ⟨s.1, fun i v h => let ⟨x, h1, h2⟩ := s.2 i v h; ⟨x, h1, h2.monoA e mo⟩⟩
end
def JW (T : Tb) (w : World) (Av : Addr → Prop) (J : It) (l : List MV) (β1 : List Addr) (h1 : MH) (H1 : Hp) : Prop :=
  ∀ (Av' : Addr → Prop) (β : List Addr) (hm : MH) (H : Hp), More Av Av' H1 → Ex' β1 h1 H1 β hm H → HR T (hsOf w) Av' β hm H → J.stop l.length H ∧ ∀ i, i < l.length → J.go i H ∧
    ∀ x H', J.yld i H x H' → Ex' β hm H β hm H' ∧ HR T (hsOf w) Av' β hm H' ∧ ∃ m, l[i]? = some m ∧ RV T (lv Av' β hm) β H' m x
def tIi (T : Tb) (w : World) (F : Fn) (e : Ex) : TI := fun σ H R => ∃ (Av : Addr → Prop) (β : List Addr) (hm : MH) (σm : MS) (l : List MV) (h1 : MH), Sg T w Av β hm H σm σ ∧ evI T.G F e σm hm = .ok l h1 ∧
  ∀ (J : It) (β1 : List Addr) (H1 : Hp), Ex' β hm H β1 h1 H1 → HR T (hsOf w) Av β1 h1 H1 → JW T w Av J l β1 h1 H1 → R J H1
section
variable {T : Tb} {w : World} {Av : Addr → Prop} {β : List Addr} {hm : MH} {H : Hp} {a : Addr} {l : List MV}
theorem jw_list (r : RV T (lv Av β hm) β H (.lst l) (.ref a)) : JW T w Av (Itl T.K a) l β hm H := by
  intro Av' β' hm' H' mo e hr
  obtain ⟨_, xs, e2, sq, _, q⟩ := (r.monoA e mo).lst'
  cases e2
  have wk := walk_list (K := T.K) (a := a) (xs := xs)
  have sqL := SqL.of_lst (K := T.K) sq
  rw [q.length]
  refine ⟨wk.stops H' sqL, fun i hi => ⟨wk.goes i H' hi sqL, fun x H2 y => ?_⟩⟩
  obtain ⟨rfl, hx⟩ := wk.yields i H' x H2 hi sqL y
  obtain ⟨m, h1, h2⟩ := q.get' hx
  exact ⟨Ex'.refl, hr, m, h1, h2⟩
theorem jw_tup (r : RV T (lv Av β hm) β H (.tup l) (.ref a)) : JW T w Av (Itt T.K a) l β hm H := by
  intro Av' β' hm' H' mo e hr
  obtain ⟨_, xs, e2, sq, q⟩ := (r.monoA e mo).tup'
  cases e2
  have wk := walk_tup (K := T.K) (a := a) (xs := xs)
  rw [q.length]
  refine ⟨wk.stops H' sq, fun i hi => ⟨wk.goes i H' hi sq, fun x H2 y => ?_⟩⟩
  obtain ⟨rfl, hx⟩ := wk.yields i H' x H2 hi sq y
  obtain ⟨m, h1, h2⟩ := q.get' hx
  exact ⟨Ex'.refl, hr, m, h1, h2⟩
theorem enumM_get : ∀ {l : List MV} {k i : Nat}, (enumM k l)[i]? = (l[i]?).map fun m => .tup [.int ((k + i : Nat) : Int), m]
  | [], k, i => by simp [enumM]
  | a :: l, k, 0 => by simp [enumM]
  | a :: l, k, i + 1 => by
    simp only [enumM, List.getElem?_cons_succ]
    rw [enumM_get]
    rw [show k + 1 + i = k + (i + 1) by omega]
theorem enumM_len : ∀ {l : List MV} {k : Nat}, (enumM k l).length = l.length
  | [], _ => rfl
  | _ :: l, k => by simp only [enumM, List.length_cons]; rw [enumM_len]
theorem rngM_get : ∀ {n i : Nat} {lo : Int}, i < n → (rngM lo n)[i]? = some (.int (lo + i))
  | 0, _, _, h => by omega
  | n + 1, 0, lo, _ => by simp [rngM]
  | n + 1, i + 1, lo, h => by
    simp only [rngM, List.getElem?_cons_succ]
    rw [rngM_get (by omega), show lo + 1 + (i : Int) = lo + ((i + 1 : Nat) : Int) by omega]
theorem rngM_len : ∀ {n : Nat} {lo : Int}, (rngM lo n).length = n
  | 0, _ => rfl
  | n + 1, lo => by simp only [rngM, List.length_cons]; rw [rngM_len]
theorem jw_pair {m : MV} {x v : V} {p : Addr} {k : Int} {H2 : Hp} (hr : HR T (hsOf w) Av β hm H) (r : RV T (lv Av β hm) β H m x) (hp : H p = none) (e : H2 = upd H p (.tup [.int k, x])) (ev : v = .ref p) :
    Ex' β hm H β hm H2 ∧ HR T (hsOf w) Av β hm H2 ∧ RV T (lv Av β hm) β H2 (.tup [.int k, m]) v := by
  subst e ev
  have ee := Ex'.new (β := β) (hm := hm) (o := .tup [.int k, x]) hp
  exact ⟨ee, hr.new hp, .tup (.inl upd_same) (fun q => hr.noL hp q) (.cons (.int k) (.one (r.mono ee)))⟩
theorem jw_enumT (r : RV T (lv Av β hm) β H (.tup l) (.ref a)) : JW T w Av (Itp T.K a) (enumM 0 l) β hm H := by
  intro Av' β' hm' H' mo e hr
  obtain ⟨_, xs, e2, sq, q⟩ := (r.monoA e mo).tup'
  cases e2
  rw [enumM_len]
  refine ⟨⟨xs, sq, q.length.symm⟩, fun i hi => ⟨?_, fun v H2 y => ?_⟩⟩
  · rw [q.length] at hi
    exact ⟨xs, xs[i], sq, by simp [hi]⟩
  · obtain ⟨p, x, rfl, hp, rfl, hx⟩ := y
    obtain ⟨m, h1, h2⟩ := q.get' (hx xs sq)
    obtain ⟨a1, a2, a3⟩ := jw_pair (k := ((i : Nat) : Int)) hr h2 hp rfl rfl
    exact ⟨a1, a2, _, by rw [enumM_get, h1, Nat.zero_add]; rfl, a3⟩
theorem jw_enumL (r : RV T (lv Av β hm) β H (.lst l) (.ref a)) : JW T w Av (Ite T.K a) (enumM 0 l) β hm H := by
  intro Av' β' hm' H' mo e hr
  obtain ⟨_, xs, e2, sq, _, q⟩ := (r.monoA e mo).lst'
  cases e2
  have sqL := SqL.of_lst (K := T.K) sq
  rw [enumM_len]
  refine ⟨⟨xs, sqL, Nat.le_of_eq q.length.symm⟩, fun i hi => ⟨?_, fun v H2 y => ?_⟩⟩
  · rw [q.length] at hi
    exact ⟨xs, xs[i], sqL, by simp [hi]⟩
  · obtain ⟨p, x, rfl, hp, rfl, hx⟩ := y
    obtain ⟨m, h1, h2⟩ := q.get' (hx xs sqL)
    obtain ⟨a1, a2, a3⟩ := jw_pair (k := ((i : Nat) : Int)) hr h2 hp rfl rfl
    exact ⟨a1, a2, _, by rw [enumM_get, h1, Nat.zero_add]; rfl, a3⟩
theorem jw_rng {lo : Int} {n : Nat} : JW T w Av (Itr lo n) (rngM lo n) β hm H := by
  intro Av' β' hm' H' mo e hr
  have wk := walk_range (lo := lo) (n := n)
  rw [rngM_len]
  refine ⟨wk.stops H' trivial, fun i hi => ⟨wk.goes i H' hi trivial, fun x H2 y => ?_⟩⟩
  obtain ⟨rfl, rfl⟩ := wk.yields i H' x H2 hi trivial y
  exact ⟨Ex'.refl, hr, _, rngM_get hi, .int _⟩
end

/-! ### the walked expressions -/
section
variable {X : Cx} {T : Tb} {w : World} {F : Fn} {pos : Pos} {tg : Expr}
theorem i_val {e : Ex} {p : Expr} (hK : X.K = T.K) (he : PE X p (tE T w F e)) (hev : ∀ σm hm l h1, evI T.G F e σm hm = .ok l h1 → ∃ v, evE T.G F e σm hm = .ok v h1 ∧ (v = .tup l ∨ v = .lst l)) : PI X tg p (tIi T w F e) := by
  refine ⟨fun pins s σ H R I h => ?_⟩
  obtain ⟨Av, β, hm, σm, l, h1, g, ev, k⟩ := h
  obtain ⟨v, ev, kind⟩ := hev _ _ _ _ ev
  refine thn (he.run pins s σ H (fun z H1 => ∃ β1, Ex' β hm H β1 h1 H1 ∧ Sg T w Av β1 h1 H1 σm σ ∧ RV T (lv Av β1 h1) β1 H1 v z) I (tE_then g ev fun β1 H1 z i1 g1 r1 => ⟨β1, i1, g1, r1⟩)) fun u s1 ⟨z, H1, I1, rz, β1, i1, g1, r1⟩ => ?_
  have fresh := I1.fpOk (H' := H1) (Nat.le_refl _) (I1.hok.fresh (Nat.le_refl _))
  have only : ∀ b ∈ [s1.heap.objs.size], FpOk X pins H1 b := fun b hb => by rw [List.mem_singleton.mp hb]; exact fresh
  rcases kind with rfl | rfl
  · obtain ⟨a, xs, rfl, sq, q⟩ := id r1.tup'
    cases rz
    rw [← hK] at sq
    obtain ⟨its, _, isT, _⟩ := I1.tuple sq
    exact wpAny_pyIter_tuple (show s1.heap.IsTuple a its.toArray from isT) ⟨_, _, _, _, H1, rfl, I1.kept (t' := s1.toks) (fun b o e => Heap.get?_push_of_some _ e), turn_tuple a _, ⟨_, Heap.get?_push_size _ rfl, rfl, rfl⟩, only, by rw [hK]; exact k _ β1 H1 i1 g1.hr (jw_tup r1)⟩
  · obtain ⟨a, xs, rfl, sq, _, q⟩ := id r1.lst'
    cases rz
    obtain ⟨its, _, isL, _⟩ := I1.list (SqL.of_lst sq)
    exact wpAny_pyIter_list isL.isList ⟨_, _, _, _, H1, rfl, I1.kept (t' := s1.toks) (fun b o e => Heap.get?_push_of_some _ e), turn_list a _, ⟨_, Heap.get?_push_size _ rfl, rfl, rfl⟩, only, by rw [hK]; exact k _ β1 H1 i1 g1.hr (jw_list r1)⟩
theorem i_rng1 {a : Ex} {p : Expr} {p1 : Pos} (hg : Gl X "range") (hm : X.mg "range" = none) (ha : PE X p (tE T w F a)) (hf : flatE p = true) : PI X tg (.Call (.Name "range" p1) [p] [] pos) (tIi T w F (.rng1 a)) := by
  refine PI.of (pi_range1 hg hm (pa_cons ha pa_nil (star1 hf _ _)) (by rw [star1 hf]; rfl)) fun σ H R h => ?_
  obtain ⟨Av, β, hm, σm, l, h1, g, ev, k⟩ := h
  simp only [evI, specB, evR] at ev
  split at ev
  · rename_i j h2 e1
    obtain ⟨hc, rfl, rfl⟩ := ite_ok ev
    simp only [mid, Bool.and_eq_true, decide_eq_true_eq] at hc
    refine tE_then g e1 fun β1 H1 z i1 g1 r1 => ?_
    cases r1.int'
    exact ⟨j, rfl, hc.1, hc.2, k _ β1 H1 i1 g1.hr jw_rng⟩
  · cases ev
theorem i_rng2 {a b : Ex} {p q : Expr} {p1 : Pos} (hg : Gl X "range") (hm : X.mg "range" = none) (ha : PE X p (tE T w F a)) (hb : PE X q (tE T w F b)) (hf : flatE p = true) (hf2 : flatE q = true) : PI X tg (.Call (.Name "range" p1) [p, q] [] pos) (tIi T w F (.rng2 a b)) := by
  refine PI.of (pi_range2 hg hm (pa_cons ha (pa_cons hb pa_nil (star1 hf2 _ _)) (star1 hf _ _)) (by rw [star1 hf, star1 hf2]; rfl) (by rw [star1 hf2]; rfl)) fun σ H R h => ?_
  obtain ⟨Av, β, hm, σm, l, h1, g, ev, k⟩ := h
  simp only [evI, specB, evR] at ev
  split at ev
  · rename_i i h2 e1
    split at ev
    · rename_i j h3 e2
      obtain ⟨hc, rfl, rfl⟩ := ite_ok ev
      simp only [mid, Bool.and_eq_true, decide_eq_true_eq] at hc
      refine tE_then g e1 fun β1 H1 z i1 g1 r1 => tE_then g1 e2 fun β2 H2 z2 i2 g2 r2 => ?_
      cases r1.int'; cases r2.int'
      exact ⟨i, j, rfl, ⟨hc.1.1, hc.1.2, hc.2.1, hc.2.2⟩, k _ β2 H2 (i1.trans i2) g2.hr jw_rng⟩
    · cases ev
  · cases ev
theorem i_enm {a : Ex} {p : Expr} {p1 tpos : Pos} {elts : List Expr} {kk : Nat} (hK : X.K = T.K) (hg : Gl X "enumerate") (hme : X.mg "enumerate" = none) (ha : PE X p (tE T w F a)) (hf : flatE p = true) : PI X (.Tuple elts kk tpos) (.Call (.Name "enumerate" p1) [p] [] pos) (tIi T w F (.enm a)) := by
  refine ⟨fun pins s σ H R I h => ?_⟩
  obtain ⟨Av, β, hm, σm, l, h1, g, ev, k⟩ := h
  simp only [evI, specB, evR] at ev
  have base : ∃ v l', evE T.G F a σm hm = .ok v h1 ∧ (v = .tup l' ∨ v = .lst l') ∧ l = enumM 0 l' := by
    split at ev
    · rename_i l' h2 e1
      obtain ⟨rfl, rfl⟩ := out_inj ev
      exact ⟨_, l', e1, .inl rfl, rfl⟩
    · rename_i l' h2 e1
      obtain ⟨rfl, rfl⟩ := out_inj ev
      exact ⟨_, l', e1, .inr rfl, rfl⟩
    · cases ev
  obtain ⟨v, l', e1, kind, rfl⟩ := base
  refine Call_ (ld_blt I hg hme boot_enumerate (PyProof.Rows.callWith_type1 (thn ((pa_cons ha pa_nil (star1 hf _ _)).run pos pins s σ H (fun zs H1 => ∃ z, zs = [z] ∧ ∃ β1, Ex' β hm H β1 h1 H1 ∧ Sg T w Av β1 h1 H1 σm σ ∧ RV T (lv Av β1 h1) β1 H1 v z) I (tE_then g e1 fun β1 H1 z i1 g1 r1 => ⟨z, rfl, β1, i1, g1, r1⟩)) fun us s1 ⟨zs, H1, I1, rs, z, ez, β1, i1, g1, r1⟩ => ?_) (by rw [star1 hf]) rfl))
  subst ez
  obtain ⟨u, rfl, rz⟩ := vals1 rs
  have two : ∀ b ∈ [s1.heap.objs.size + 1, s1.heap.objs.size], FpOk X pins H1 b := fun b hb => by
    have le : s1.heap.objs.size ≤ b := by
      rcases List.mem_cons.mp hb with rfl | hb
      · exact Nat.le_succ _
      · exact Nat.le_of_eq (List.mem_singleton.mp hb).symm
    exact I1.fpOk le (I1.hok.fresh le)
  rcases kind with rfl | rfl
  · obtain ⟨b, xs, rfl, sq, q⟩ := id r1.tup'
    cases rz
    rw [← hK] at sq
    obtain ⟨its, _, isT, _⟩ := I1.tuple sq
    have lt : b < s1.heap.objs.size := isT.lt
    refine call_enumT (show s1.heap.IsTuple b its.toArray from isT) fun h' isE isI kept => wpAny_pyIter_enum isE ?_
    exact ⟨_, _, _, _, H1, rfl, I1.kept (t' := s1.toks) kept, turn_enumT b _ _, ⟨⟨_, isE⟩, isI, Nat.succ_ne_self _, Nat.ne_of_lt lt, Nat.ne_of_lt (Nat.lt_succ_of_lt lt)⟩, two, by rw [hK]; exact k _ β1 H1 i1 g1.hr (jw_enumT r1)⟩
  · obtain ⟨b, xs, rfl, sq, _, q⟩ := id r1.lst'
    cases rz
    obtain ⟨its, _, isL, _⟩ := I1.list (SqL.of_lst sq)
    refine call_enumerate_list isL.isList fun h' isE isI _ kept => wpAny_pyIter_enum isE ?_
    exact ⟨_, _, _, _, H1, rfl, I1.kept (t' := s1.toks) kept, turn_enum b _ _, ⟨⟨_, isE⟩, isI, Nat.succ_ne_self _⟩, two, by rw [hK]; exact k _ β1 H1 i1 g1.hr (jw_enumL r1)⟩
end
end Mi

namespace Mi
open PySem PySem.Spec PyProof.Rows L2

mutual
def tgN : Tg → List Nat
  | .nm i => [i]
  | .tup l => tgsN l
def tgsN : List Tg → List Nat
  | [] => []
  | t :: l => tgN t ++ tgsN l
end
theorem wipe_comm {σ : L2.St} {i : Nat} {x : Option V} : ∀ {vs : List Nat}, i ∉ vs → wipe (σ.set i x) vs = (wipe σ vs).set i x
  | [], _ => rfl
  | v :: vs, h => by
    simp only [List.mem_cons, not_or] at h
    show (wipe (σ.set i x) vs).set v none = ((wipe σ vs).set v none).set i x
    rw [wipe_comm h.2, List.set_comm _ _ h.1]
theorem wipe_set {σ : L2.St} {i : Nat} {x : Option V} : ∀ {vs : List Nat}, i ∈ vs → wipe (σ.set i x) vs = wipe σ vs
  | [], h => by cases h
  | v :: vs, h => by
    show (wipe (σ.set i x) vs).set v none = (wipe σ vs).set v none
    by_cases e : i ∈ vs
    · rw [wipe_set e]
    · have : i = v := by
        rcases List.mem_cons.mp h with z | z
        · exact z
        · exact absurd z e
      subst this
      rw [wipe_comm e, List.set_set]
theorem wipe_idem {σ : L2.St} {vs : List Nat} : ∀ {ws : List Nat}, (∀ i ∈ ws, i ∈ vs) → wipe (wipe σ ws) vs = wipe σ vs
  | [], _ => rfl
  | w :: ws, h => by
    show wipe ((wipe σ ws).set w none) vs = wipe σ vs
    rw [wipe_set (h w (List.mem_cons_self ..)), wipe_idem fun i hi => h i (List.mem_cons_of_mem _ hi)]
/-- a target's reading -/
def tGt (T : Tb) (w : World) (t : Tg) : TG := fun v σ H Q => ∃ (Av : Addr → Prop) (β : List Addr) (hm : MH) (σm σ2 : MS) (m : MV), Sg T w Av β hm H σm σ ∧ RV T (lv Av β hm) β H m v ∧ stT t m σm hm = some σ2 ∧
  ∀ σ', Sg T w Av β hm H σ2 σ' → (∀ vs, (∀ i ∈ tgN t, i ∈ vs) → wipe σ' vs = wipe σ vs) → Q σ' H
def tGs (T : Tb) (w : World) (ts : List Tg) : TGs := fun vs σ H Q => ∃ (Av : Addr → Prop) (β : List Addr) (hm : MH) (σm σ2 : MS) (l : List MV), Sg T w Av β hm H σm σ ∧ RVs T (lv Av β hm) β H l vs ∧ stTs ts l σm hm = some σ2 ∧
  ∀ σ', Sg T w Av β hm H σ2 σ' → (∀ vs, (∀ i ∈ tgsN ts, i ∈ vs) → wipe σ' vs = wipe σ vs) → Q σ' H
section
variable {X : Cx} {T : Tb} {w : World} {pos : Pos}
theorem PGs.of {e : List Expr} {t t' : TGs} (h : PGs X e t) (i : ∀ v σ H Q, t' v σ H Q → t v σ H Q) : PGs X e t' := ⟨fun pins s σ H v u Q I r q => h.run pins s σ H v u Q I r (i v σ H Q q)⟩
theorem g_nm {i : Nat} {y : Str} (hN : X.N.Nodup) (hi : X.N[i]? = some y) (hx : Loc X.env.scope y) (hf : X.fn y = true ∨ X.env.scope.names.lookup y = some .local) : PG X (.Name y pos) (tGt T w (.nm i)) := by
  refine PG.of (pg_name hN hi hx hf) fun v σ H Q h => ?_
  obtain ⟨Av, β, hm, σm, σ2, m, g, r, e, k⟩ := h
  simp only [stT, Option.some.injEq] at e
  subst e
  exact k _ ⟨g.hr, g.ss.set r⟩ fun vs hv => wipe_set (hv i (by simp [tgN]))
theorem gs_nil : PGs X [] (tGs T w []) := by
  refine PGs.of pgs_nil fun v σ H Q h => ?_
  obtain ⟨Av, β, hm, σm, σ2, m, g, r, e, k⟩ := h
  cases m with
  | nil =>
    simp only [stTs, Option.some.injEq] at e
    subst e
    cases r
    exact ⟨rfl, k _ g fun vs _ => rfl⟩
  | cons a l => simp only [stTs] at e; cases e
theorem gs_cons {t : Tg} {ts : List Tg} {p : Expr} {es : List Expr} (h1 : PG X p (tGt T w t)) (h2 : PGs X es (tGs T w ts)) (hs : assignEach (p :: es) X.env = (false, assign p X.env) :: assignEach es X.env) : PGs X (p :: es) (tGs T w (t :: ts)) := by
  refine PGs.of (pgs_cons h1 h2 (by rw [hs]; rfl)) fun v σ H Q h => ?_
  obtain ⟨Av, β, hm, σm, σ2, m, g, r, e, k⟩ := h
  cases m with
  | nil => simp only [stTs] at e; cases e
  | cons a l =>
    simp only [stTs] at e
    split at e
    · rename_i σ3 e1
      cases r with
      | cons ra rl =>
        refine ⟨_, _, rfl, Av, β, hm, σm, σ3, a, g, ra, e1, fun σ' g' hw => ?_⟩
        refine ⟨Av, β, hm, σ3, σ2, l, g', rl, e, fun σ4 g4 hw4 => k σ4 g4 fun vs hv => ?_⟩
        rw [hw4 vs fun i hi => hv i (by simp [tgsN, hi]), hw vs fun i hi => hv i (by simp [tgsN, hi])]
    · cases e
theorem stTs_len : ∀ {ts : List Tg} {l : List MV} {σ σ2 : MS} {hm : MH}, stTs ts l σ hm = some σ2 → l.length = ts.length
  | [], [], _, _, _, _ => rfl
  | [], _ :: _, _, _, _, e => by simp only [stTs] at e; cases e
  | _ :: _, [], _, _, _, e => by simp only [stTs] at e; cases e
  | t :: ts, a :: l, σ, σ2, hm, e => by
    simp only [stTs] at e
    split at e
    · rw [List.length_cons, List.length_cons, stTs_len e]
    · cases e
theorem g_tup {ts : List Tg} {es : List Expr} {kk : Nat} (hK : X.K = T.K) (hc : X.calm = true) (h : PGs X es (tGs T w ts)) (hn : (assignEach es X.env).length = ts.length) (hst : (assignEach es X.env).findIdx? (·.1) = none) : PG X (.Tuple es kk pos) (tGt T w (.tup ts)) := by
  refine PG.of (pg_tup hc h hn hst) fun v σ H Q h => ?_
  obtain ⟨Av, β, hm, σm, σ2, m, g, r, e, k⟩ := h
  simp only [stT] at e
  split at e
  · rename_i l
    obtain ⟨a, xs, rfl, sq, q⟩ := r.tup'
    exact ⟨a, xs, rfl, hK ▸ sq, by rw [← q.length, stTs_len e], Av, β, hm, σm, σ2, l, g, q, e, fun σ' g' hw => k σ' g' fun vs hv => hw vs fun i hi => hv i (by simpa [tgN] using hi)⟩
  · cases e
end

/-! ### what is kept away from may change -/
section
variable {T : Tb} {w : World} {Av : Addr → Prop} {β : List Addr} {hm : MH} {H : Hp} {p : Addr} {u : HO} {σm : MS} {σ : L2.St}
theorem RV.poke {T : Tb} (hp : Av p) {m : MV} {x : V} (r : RV T (lv Av β hm) β H m x) : RV T (lv Av β hm) β (upd H p u) m x :=
  r.imp (fun _ _ e => e) fun a o h n => ⟨by rw [upd_ne (fun e => by subst e; exact n (.inl hp))]; exact h, n⟩
theorem RVs.poke {T : Tb} (hp : Av p) {m : List MV} {x : List V} (r : RVs T (lv Av β hm) β H m x) : RVs T (lv Av β hm) β (upd H p u) m x :=
  r.imp (fun _ _ e => e) fun a o h n => ⟨by rw [upd_ne (fun e => by subst e; exact n (.inl hp))]; exact h, n⟩
theorem HR.poke (hp : Av p) (h : HR T (hsOf w) Av β hm H) : HR T (hsOf w) Av β hm (upd H p u) := by
  have nb : ∀ a ∈ β, a ≠ p := fun a ha e => h.av a ha (by rw [e]; exact hp)
  refine ⟨h.len, h.nd, h.av, fun a ha => by rw [upd_ne (nb a ha)]; exact h.thr a ha, fun a ha => ?_, fun i a o h1 h2 h3 => ?_⟩
  · by_cases e : a = p
    · subst e; rw [upd_same]; exact fun z => nomatch z
    · rw [upd_ne e]; exact h.avt a ha
  · obtain ⟨v, hv, r⟩ := h.obj i a o h1 h2 h3
    exact ⟨v, by rw [upd_ne (nb a (List.mem_of_getElem? h1))]; exact hv, r.imp fun _ _ z => z.poke hp⟩
/-- less is kept away from -/
theorem HR.less {Av' : Addr → Prop} (i : ∀ a, Av a → Av' a) (h : HR T (hsOf w) Av' β hm H) : HR T (hsOf w) Av β hm H := by
  refine ⟨h.len, h.nd, fun a ha q => h.av a ha (i a q), h.thr, fun a ha => h.avt a (i a ha), fun j a o h1 h2 h3 => ?_⟩
  obtain ⟨v, hv, r⟩ := h.obj j a o h1 h2 h3
  refine ⟨v, hv, r.imp fun _ _ z => z.imp (fun _ _ e => e) fun a o h n => ⟨h, fun q => n (q.imp (i a) id)⟩⟩
theorem RVs.less {Av' : Addr → Prop} (i : ∀ a, Av a → Av' a) {m : List MV} {x : List V} (r : RVs T (lv Av' β hm) β H m x) : RVs T (lv Av β hm) β H m x :=
  r.imp (fun _ _ e => e) fun a o h n => ⟨h, fun q => n (q.imp (i a) id)⟩
/-- a new thing that is kept away from at once -/
theorem HR.avoid (h : HR T (hsOf w) Av β hm H) (hp : H p = none) : HR T (hsOf w) (avo Av p) β hm (upd H p u) :=
  (Sg.avoid (σm := []) (σ := []) ⟨h, rfl, fun i v e => by simp at e⟩ hp).hr
theorem more_avo (hp : H p = none) : More Av (avo Av p) H := ⟨fun a h => .inl h, fun a h => h.imp id fun e => by rw [e]; exact hp⟩
end
theorem upd_self {H : Hp} {a : Addr} {o : HO} (h : H a = some o) : upd H a o = H := by
  funext b
  unfold upd
  split
  · rename_i e; rw [e, h]
  · rfl

/-! ### comprehensions -/
/-- the tests -/
def tTs (T : Tb) (w : World) (F : Fn) (l : List Ex) : TT := fun σ H Q => ∃ (Av : Addr → Prop) (β : List Addr) (hm : MH) (σm : MS) (v : MV) (hm' : MH) (b : Bool), Sg T w Av β hm H σm σ ∧ evTs T.G F l σm hm = .ok v hm' ∧ truth hm' v = some b ∧ Kpt T w Av β hm H hm' (Q b)
section
variable {X : Cx} {T : Tb} {w : World} {F : Fn} {pos : Pos}
theorem PTs.of {e : List Expr} {t t' : TT} (h : PTs X e t) (i : ∀ σ H Q, t' σ H Q → t σ H Q) : PTs X e t' := ⟨fun pins s σ H Q I q => h.run pins s σ H Q I (i σ H Q q)⟩
theorem ts_nil : PTs X [] (tTs T w F []) := by
  refine PTs.of pts_nil fun σ H Q h => ?_
  obtain ⟨Av, β, hm, σm, v, hm', b, g, e, t, k⟩ := h
  simp only [evTs] at e
  obtain ⟨rfl, rfl⟩ := out_inj e
  cases t
  exact k β H Ex'.refl g.hr
theorem ts_one {a : Ex} {p : Expr} (h : PT X p (tT T w F a)) : PTs X [p] (tTs T w F [a]) := by
  refine PTs.of (pts_one h) fun σ H Q h => ?_
  obtain ⟨Av, β, hm, σm, v, hm', b, g, e, t, k⟩ := h
  simp only [evTs] at e
  exact ⟨Av, β, hm, σm, v, hm', b, g, e, t, k⟩
/-- what is made so far at the i-th turn -/
structure CI (T : Tb) (w : World) (F : Fn) (tg : Tg) (ifs : List Ex) (elt : Ex) (own : List Nat) (Av : Addr → Prop) (β1 : List Addr) (h1 : MH) (H1 : Hp) (σm : MS) (l vs : List MV) (h2 : MH) (D : Addr) (i n : Nat) (H : Hp) : Prop where
  ex : ∃ (β : List Addr) (hm : MH) (acc : List MV) (xs : List V), n = l.length - i ∧ i ≤ l.length ∧ Ex' β1 h1 H1 β hm H ∧ HR T (hsOf w) (avo Av D) β hm H ∧ H D = some (.lst xs) ∧ RVs T (lv (avo Av D) β hm) β H acc xs ∧
    loopC tg (fun σ h => evTs T.G F ifs σ h) (fun σ h => evE T.G F elt σ h) (wipeM σm own) (l.drop i) acc hm = .ok vs h2
theorem loopC_cons {tg : Tg} {tt e : MS → MH → Out MV} {σ : MS} {v : MV} {l acc vs : List MV} {h h2 : MH} (ev : loopC tg tt e σ (v :: l) acc h = .ok vs h2) : ∃ σ2 c h3 b, stT tg v σ h = some σ2 ∧ tt σ2 h = .ok c h3 ∧ truth h3 c = some b ∧
    ((b = true ∧ ∃ x h4, e σ2 h3 = .ok x h4 ∧ acc.length < 100000 ∧ loopC tg tt e σ l (acc ++ [x]) h4 = .ok vs h2) ∨ (b = false ∧ loopC tg tt e σ l acc h3 = .ok vs h2)) := by
  simp only [loopC] at ev
  split at ev
  · rename_i σ2 e1
    split at ev
    · rename_i c h3 e2
      split at ev
      · rename_i e3
        split at ev
        · rename_i x h4 e4
          split at ev
          · rename_i hz
            exact ⟨σ2, c, h3, true, e1, e2, e3, .inl ⟨rfl, x, h4, e4, of_decide_eq_true hz, ev⟩⟩
          · cases ev
        · cases ev
      · rename_i e3
        exact ⟨σ2, c, h3, false, e1, e2, e3, .inr ⟨rfl, ev⟩⟩
      · cases ev
    · cases ev
  · cases ev
theorem comp_of {tg : Tg} {it elt : Ex} {ifs : List Ex} {own : List Nat} (hown : ∀ i ∈ tgN tg, i ∈ own) {Av : Addr → Prop} {β : List Addr} {hm h1 h2 : MH} {σm : MS} {σ : L2.St} {H : Hp} {l vs : List MV} {Q : VK} (g : Sg T w Av β hm H σm σ)
    (e1 : evI T.G F it σm hm = .ok l h1) (e2 : loopC tg (fun σ h => evTs T.G F ifs σ h) (fun σ h => evE T.G F elt σ h) (wipeM σm own) l [] h1 = .ok vs h2)
    (k : ∀ (D : Addr) (β2 : List Addr) (H2 : Hp) (xs : List V), Ex' β hm H β2 h2 H2 → HR T (hsOf w) (avo Av D) β2 h2 H2 → H2 D = some (.lst xs) → RVs T (lv (avo Av D) β2 h2) β2 H2 vs xs → H D = none → ¬ Av D → Q (.ref D) H2) :
    tLc (tIi T w F it) (tGt T w tg) (tTs T w F ifs) (tE T w F elt) own σ H Q := by
  refine ⟨Av, β, hm, σm, l, h1, g, e1, fun J β1 H1 i1 hr1 jw D hD => ?_⟩
  have g1 := g.mono i1 hr1
  have nAv : ¬ Av D := fun z => hr1.avt D z hD
  have mo : More Av (avo Av D) H1 := more_avo hD
  have hDH : H D = none := by
    cases z : H D with
    | none => rfl
    | some o => exact absurd hD (i1.thr D (by rw [z]; exact fun q => nomatch q))
  refine ⟨CI T w F tg ifs elt own Av β1 h1 H1 σm l vs h2 D, ⟨_, β1, h1, [], [], rfl, Nat.zero_le _, Ex'.new hD, hr1.avoid hD, upd_same, .nil, e2⟩, fun i n H3 inv => ?_⟩
  obtain ⟨β3, h3, acc, xs, rfl, hi, i3, hr3, hD3, racc, ev⟩ := inv.ex
  obtain ⟨jstop, jgo⟩ := jw (avo Av D) β3 h3 H3 mo i3 hr3
  by_cases lt : i < l.length
  · refine .inr ⟨(jgo i lt).1, CI T w F tg ifs elt own Av β1 h1 H1 σm l vs h2 D (i + 1) (l.length - (i + 1)), fun H' z => ⟨_, by omega, z⟩, fun x H' y => ?_⟩
    obtain ⟨i4, hr4, m, hm1, rm⟩ := (jgo i lt).2 x H' y
    have dr : l.drop i = m :: l.drop (i + 1) := by
      obtain ⟨_, e⟩ := List.getElem?_eq_some_iff.mp hm1
      rw [List.drop_eq_getElem_cons lt, e]
    rw [dr] at ev
    obtain ⟨σ2, c, h5, b, q1, q2, q3, q4⟩ := loopC_cons ev
    have ss : SS T (lv (avo Av D) β3 h3) β3 H' σm σ := (g1.ss.monoA i3 mo).mono i4
    have avD : avo Av D D := .inr rfl
    -- the list that is being made stays as it is
    have keepD : ∀ {β' : List Addr} {h' : MH} {H'' : Hp} {u : HO}, H' D = some u → Ex' β3 h3 H' β' h' H'' → H'' D = some u := fun hu e => e.frm D _ hu fun z => hr4.av D (mineThere hr4 z) avD
    have hD4 : H' D = some (.lst xs) := i4.frm D _ hD3 fun z => hr3.av D (mineThere hr3 z) avD
    refine ⟨avo Av D, β3, h3, wipeM σm own, σ2, m, ⟨hr4, ss.wipe own⟩, rm, q1, fun σ5 g5 hw => ⟨?_, ?_⟩⟩
    · rw [hw own hown]
      exact wipe_idem fun _ z => z
    · refine ⟨avo Av D, β3, h3, σ2, c, h5, b, g5, q2, q3, fun β6 H6 i6 hr6 => ?_⟩
      rcases q4 with ⟨rfl, y1, h7, q5, hz, q6⟩ | ⟨rfl, q6⟩
      · rw [if_pos rfl]
        refine tE_then (g5.mono i6 hr6) q5 fun β7 H7 y2 i7 g7 ry => ?_
        have hD7 := keepD hD4 (i6.trans i7)
        have r7 := (racc.mono (i4.trans (i6.trans i7)))
        refine ⟨xs, hD7, by rw [← r7.length, sizeLine_eq]; omega, ⟨β7, h7, acc ++ [y1], xs ++ [y2], rfl, lt, ?_, g7.hr.poke avD, upd_same, (r7.append (.one ry)).poke avD, q6⟩⟩
        have whole := i3.trans (i4.trans (i6.trans i7))
        refine ⟨whole.pre, whole.liv, fun a o z nn => ?_, fun a z => ?_⟩
        · rw [upd_ne (ne_of_none z hD)]; exact whole.frm a o z nn
        · by_cases e : a = D
          · subst e; exact absurd hD z
          · rw [upd_ne e]; exact whole.thr a z
      · rw [if_neg (by decide)]
        exact ⟨β6, h5, acc, xs, rfl, lt, i3.trans (i4.trans i6), hr6, keepD hD4 i6, racc.mono (i4.trans i6), q6⟩
  · have ei : i = l.length := by omega
    subst ei
    rw [List.drop_length] at ev
    simp only [loopC] at ev
    obtain ⟨rfl, rfl⟩ := out_inj ev
    exact .inl ⟨jstop, k D β3 H3 xs (i1.trans i3) hr3 hD3 racc hDH nAv⟩
theorem comp_split {m : Bool} {tg : Tg} {it elt : Ex} {ifs : List Ex} {own : List Nat} {σm : MS} {hm hm' : MH} {v : MV} {G : Gm} (e : evE G F (.comp m tg it ifs elt own) σm hm = .ok v hm') : ∃ l h1 vs h2, evI G F it σm hm = .ok l h1 ∧
    loopC tg (fun σ h => evTs G F ifs σ h) (fun σ h => evE G F elt σ h) (wipeM σm own) l [] h1 = .ok vs h2 ∧ ((m = true ∧ v = .loc h2.length ∧ hm' = h2 ++ [.lst vs]) ∨ (m = false ∧ v = .lst vs ∧ hm' = h2)) := by
  simp only [evE] at e
  (split at e; (case h_2 => cases e); rename_i l h1 e1)
  (split at e; (case h_2 => cases e); rename_i vs h2 e2)
  refine ⟨l, h1, vs, h2, e1, e2, ?_⟩
  cases m with
  | true => obtain ⟨rfl, rfl⟩ := out_inj e; exact .inl ⟨rfl, rfl, rfl⟩
  | false => obtain ⟨rfl, rfl⟩ := out_inj e; exact .inr ⟨rfl, rfl, rfl⟩
theorem comp_red {m : Bool} {tg : Tg} {it elt : Ex} {ifs : List Ex} {own : List Nat} (hown : ∀ i ∈ tgN tg, i ∈ own) {σ : L2.St} {H : Hp} {Q : VK} (h : tE T w F (.comp m tg it ifs elt own) σ H Q) : tLc (tIi T w F it) (tGt T w tg) (tTs T w F ifs) (tE T w F elt) own σ H Q := by
  obtain ⟨Av, β, hm, σm, v, hm', g, e, k⟩ := h
  obtain ⟨l, h1, vs, h2, e1, e2, fin⟩ := comp_split e
  refine comp_of hown g e1 e2 fun D β2 H2 xs i2 hr2 hD rv hn nAv => ?_
  have nb : D ∉ β2 := fun z => hr2.av D z (.inr rfl)
  rcases fin with ⟨rfl, rfl, rfl⟩ | ⟨rfl, rfl, rfl⟩
  · have us : upd H2 D (.lst xs) = H2 := upd_self hD
    have hr := HR.adopt (w := w) (u2 := .lst xs) (o := .lst vs) nAv hr2 (.lst (rv.imp (fun i a e => by rw [List.getElem?_append_left (List.getElem?_eq_some_iff.mp e).1]; exact e) fun a v h n => by
      have ne : a ≠ D := fun e => n (.inl (.inr e))
      refine ⟨by rw [upd_ne ne]; exact h, fun q => ?_⟩
      rcases q with q | ⟨i, m', e1, e2, e3⟩
      · exact n (.inl (.inl q))
      · by_cases hi : i < β2.length
        · rw [List.getElem?_append_left hi] at e1
          rw [List.getElem?_append_left (by have := hr2.len; omega)] at e2
          exact n (.inr ⟨i, m', e1, e2, e3⟩)
        · rw [List.getElem?_append_right (by omega)] at e1
          have := List.mem_of_getElem? e1
          rw [List.mem_singleton] at this
          exact ne this))
    rw [us] at hr
    refine k (β2 ++ [D]) H2 (.ref D) ⟨fun i a z => ?_, fun a z => ?_, i2.frm, i2.thr⟩ hr (.loc (by rw [← hr2.len]; exact getLen))
    · have z2 := i2.pre i a z
      rw [List.getElem?_append_left (List.getElem?_eq_some_iff.mp z2).1]; exact z2
    · obtain ⟨i, m, z1, z2, z3⟩ := z
      by_cases hi : i < β2.length
      · rw [List.getElem?_append_left hi] at z1
        rw [List.getElem?_append_left (by have := hr2.len; omega)] at z2
        exact i2.liv a ⟨i, m, z1, z2, z3⟩
      · rw [List.getElem?_append_right (by omega)] at z1
        have e1 := List.mem_of_getElem? z1
        rw [List.mem_singleton] at e1
        subst e1
        exact .inr hn
  · refine k β2 H2 (.ref D) i2 (hr2.less fun a z => .inl z) (.lst hD (fun q => ?_) (rv.less fun a z => .inl z))
    rcases q with q | ⟨i, m, z1, _⟩
    · exact nAv q
    · exact nb (List.mem_of_getElem? z1)
end
end Mi

namespace Mi
open PySem PySem.Spec PyProof.Rows L2

/-- what is wanted behind a statement -/
def Ks (T : Tb) (w : World) (Av : Addr → Prop) (β : List Addr) (hm : MH) (H : Hp) (D : Ends) (r : SR) : Prop := match r with
  | .nx σ2 h2 => ∀ β' H' σ', Ex' β hm H β' h2 H' → Sg T w Av β' h2 H' σ2 σ' → D.nx σ' H'
  | .rt v h2 => ∀ β' H' x, Ex' β hm H β' h2 H' → HR T (hsOf w) Av β' h2 H' → RV T (lv Av β' h2) β' H' v x → D.rt x H'
  | .bk σ2 h2 => ∀ β' H' σ', Ex' β hm H β' h2 H' → Sg T w Av β' h2 H' σ2 σ' → D.bk σ' H'
  | .ct σ2 h2 => ∀ β' H' σ', Ex' β hm H β' h2 H' → Sg T w Av β' h2 H' σ2 σ' → D.ct σ' H'
  | .bad => False
section
variable (T : Tb) (w : World) (F : Fn) (W : Nat)
def tSx (s : Sx) : TS := fun D σ H => ∃ (Av : Addr → Prop) (β : List Addr) (hm : MH) (σm : MS), Sg T w Av β hm H σm σ ∧ Ks T w Av β hm H D (evS T.G F W s σm hm)
def tSxs (l : List Sx) : TS := fun D σ H => ∃ (Av : Addr → Prop) (β : List Addr) (hm : MH) (σm : MS), Sg T w Av β hm H σm σ ∧ Ks T w Av β hm H D (evSs T.G F W l σm hm)
end
section
variable {T : Tb} {w : World} {F : Fn} {W : Nat} {Av : Addr → Prop} {β β' : List Addr} {hm hm' : MH} {H H' : Hp} {D : Ends} {r : SR} {σm : MS} {σ : L2.St}
theorem Ks.after (k : Ks T w Av β hm H D r) (e : Ex' β hm H β' hm' H') : Ks T w Av β' hm' H' D r := by
  cases r with
  | nx _ _ => exact fun β2 H2 σ' e2 => k β2 H2 σ' (e.trans e2)
  | rt _ _ => exact fun β2 H2 σ' e2 => k β2 H2 σ' (e.trans e2)
  | bk _ _ => exact fun β2 H2 σ' e2 => k β2 H2 σ' (e.trans e2)
  | ct _ _ => exact fun β2 H2 σ' e2 => k β2 H2 σ' (e.trans e2)
  | bad => exact k
theorem Ks.nx {σ2 : MS} {σ' : L2.St} (k : Ks T w Av β hm H D (.nx σ2 hm)) (g : Sg T w Av β hm H σ2 σ') : D.nx σ' H := k β H σ' Ex'.refl g
end
section
variable {X : Cx} {T : Tb} {w : World} {F : Fn} {W : Nat} {pos : Pos}
theorem ss_nil : PSs X [] (tSxs T w F W []) := by
  refine PSs.of pss_nil fun D σ H h => ?_
  obtain ⟨Av, β, hm, σm, g, k⟩ := h
  exact Ks.nx (by simpa only [evSs] using k) g
theorem ss_cons {s : Sx} {l : List Sx} {p : Stmt} {ps : List Stmt} (h1 : PS X p (tSx T w F W s)) (h2 : PSs X ps (tSxs T w F W l)) : PSs X (p :: ps) (tSxs T w F W (s :: l)) := by
  refine PSs.of (pss_cons h1 h2) fun D σ H h => ?_
  obtain ⟨Av, β, hm, σm, g, k⟩ := h
  simp only [evSs] at k
  refine ⟨Av, β, hm, σm, g, ?_⟩
  cases hr : evS T.G F W s σm hm with
  | nx σ2 h2 =>
    rw [hr] at k
    exact fun β' H' σ' e g' => ⟨Av, β', h2, σ2, g', k.after e⟩
  | rt v h2 => rw [hr] at k; exact k
  | bk σ2 h2 => rw [hr] at k; exact k
  | ct σ2 h2 => rw [hr] at k; exact k
  | bad => rw [hr] at k; exact k
/-- a docstring -/
theorem ss_doc {x : Str} {j : Nat} {p1 p2 : Pos} {l : List Sx} {ps : List Stmt} (h2 : PSs X ps (tSxs T w F W l)) : PSs X (.Expr (.Constant (.str x) j p1) p2 :: ps) (tSxs T w F W l) := by
  refine PSs.of (pss_cons ps_doc h2) fun D σ H h => ?_
  exact h
theorem s_expr {e : Ex} {p : Expr} (he : PE X p (tE T w F e)) (hs : swapsWith p none pos.line X.env = pure false) : PS X (.Expr p pos) (tSx T w F W (.expr e)) := by
  refine PS.of (ps_expr he hs) fun D σ H h => ?_
  obtain ⟨Av, β, hm, σm, g, k⟩ := h
  simp only [evS] at k
  split at k
  · rename_i v h1 e1
    exact tE_then g e1 fun β1 H1 x i1 g1 _ => k β1 H1 σ i1 g1
  · exact k.elim
theorem set_red {i : Nat} {e : Ex} {D : Ends} {σ : L2.St} {H : Hp} {te : TE} (hred : ∀ σ H Q, tE T w F e σ H Q → te σ H Q) (h : tSx T w F W (.set i e) D σ H) : tAsg te (gName i) D σ H := by
  obtain ⟨Av, β, hm, σm, g, k⟩ := h
  simp only [evS] at k
  split at k
  · rename_i v h1 e1
    exact hred _ _ _ (tE_then g e1 fun β1 H1 x i1 g1 r1 => k β1 H1 _ i1 ⟨g1.hr, g1.ss.set r1⟩)
  · exact k.elim
theorem s_set {i : Nat} {y : Str} {e : Ex} {p : Expr} {p' : Pos} (hN : X.N.Nodup) (hi : X.N[i]? = some y) (hx : Loc X.env.scope y) (hf : X.fn y = true ∨ X.env.scope.names.lookup y = some .local) (he : PE X p (tE T w F e)) (hs : swapsWith p (some (.Name y p')) pos.line X.env = pure false) :
    PS X (.Assign [.Name y p'] p pos) (tSx T w F W (.set i e)) :=
  PS.of (ps_set hN hi hx he hs hf) fun D σ H h => set_red (fun _ _ _ q => q) h
theorem s_unp {t : Tg} {e : Ex} {p : Expr} {es : List Expr} {kk : Nat} {tp : Pos} (he : PE X p (tE T w F e)) (hg : PG X (.Tuple es kk tp) (tGt T w t)) (hs : swapsWithSole [.Tuple es kk tp] p pos.line X.env = pure false) (hw : swappedStores [.Tuple es kk tp] p X.env = pure none) :
    PS X (.Assign [.Tuple es kk tp] p pos) (tSx T w F W (.unp t e)) := by
  refine PS.of (ps_asg he hg hs hw (by rfl)) fun D σ H h => ?_
  obtain ⟨Av, β, hm, σm, g, k⟩ := h
  simp only [evS] at k
  split at k
  · rename_i v h1 e1
    refine tE_then g e1 fun β1 H1 x i1 g1 r1 => ?_
    split at k
    · rename_i σ2 e2
      exact ⟨Av, β1, h1, σm, σ2, v, g1, r1, e2, fun σ' g' _ => k β1 H1 σ' i1 g'⟩
    · exact k.elim
  · exact k.elim
theorem s_par {i j : Nat} {x y : Str} {a b : Ex} {p q : Expr} {px py pt : Pos} {kt k2 : Nat} {pt2 : Pos} (hc : X.calm = true) (hN : X.N.Nodup) (hi : X.N[i]? = some x) (hj : X.N[j]? = some y) (hij : i ≠ j) (hx : X.env.scope.names.lookup x = some .local) (hy : X.env.scope.names.lookup y = some .local)
    (ha : PA X [p, q] (tAs T w F [a, b])) (hw : swappedStores [.Tuple [.Name x px, .Name y py] kt pt] (.Tuple [p, q] k2 pt2) X.env = pure (some [x, y])) : PS X (.Assign [.Tuple [.Name x px, .Name y py] kt pt] (.Tuple [p, q] k2 pt2) pos) (tSx T w F W (.par i j a b)) := by
  refine PS.of (ps_par hc hN hi hj hij hx hy ha hw) fun D σ H h => ?_
  obtain ⟨Av, β, hm, σm, g, k⟩ := h
  simp only [evS] at k
  split at k
  · rename_i v h1 e1
    split at k
    · rename_i u h2 e2
      refine tAs_then (vs := [v, u]) (h1 := h2) g (by simp only [evL, e1, e2]) fun β1 H1 xs i1 g1 r1 => ?_
      obtain ⟨x1, y1, rfl, r1, r2⟩ := r1.two'
      exact ⟨x1, y1, rfl, k β1 H1 _ i1 ⟨g1.hr, (g1.ss.set r1).set r2⟩⟩
    · exact k.elim
  · exact k.elim
theorem s_sub {o i e : Ex} {p q x : Expr} {sp : Pos} (hK : X.K = T.K) (hw : X.w = w) (hu : X.A.units + 65 < cLine) (he : PE X x (tE T w F e)) (ho : PE X p (tE T w F o)) (hi : PE X q (tE T w F i))
    (ha : ∀ v, assign (.Subscript p q sp) X.env v = (do
      let ov ← holding [v] (eval p X.env)
      let iv ← holding [v, ov] (eval q X.env)
      standAt sp
      holding [v, ov, iv] (setItem ov iv v)
      release [v, ov, iv] [])) (hs : swapsWithSole [.Subscript p q sp] x pos.line X.env = pure false) :
    PS X (.Assign [.Subscript p q sp] x pos) (tSx T w F W (.sub o i e)) := by
  refine PS.of (ps_asg he (pg_sub ho hi (setIx_ok (T := T) hK hw hu) ha) hs (by rfl) (by rfl)) fun D σ H h => ?_
  obtain ⟨Av, β, hm, σm, g, k⟩ := h
  simp only [evS] at k
  split at k
  case h_2 => exact k.elim
  rename_i v h1 e1
  split at k
  case h_2 => exact k.elim
  rename_i u h2 e2
  split at k
  case h_2 => exact k.elim
  rename_i y h3 e3
  split at k
  case h_2 => exact k.elim
  rename_i h4 e4
  refine tE_then g e1 fun β1 H1 z1 i1 g1 r1 => tE_then g1 e2 fun β2 H2 z2 i2 g2 r2 => tE_then g2 e3 fun β3 H3 z3 i3 g3 r3 => ?_
  exact ⟨Av, β3, h3, u, y, v, h4, g3.hr, r2.mono i3, r3, (r1.mono i2).mono i3, e4, fun H4 i4 hr4 => k β3 H4 σ (((i1.trans i2).trans i3).trans i4) (g3.mono i4 hr4)⟩
theorem asg1 {p : Expr} (h : flatE p = true) (es : List Expr) (env : Env) : assignEach (p :: es) env = (false, assign p env) :: assignEach es env := by
  cases p <;> first | rfl | cases h
theorem asg_len {env : Env} : ∀ {es : List Expr}, es.all flatE = true → (assignEach es env).length = es.length
  | [], _ => rfl
  | p :: es, h => by
    rw [List.all_cons, Bool.and_eq_true] at h
    rw [asg1 h.1, List.length_cons, asg_len h.2, List.length_cons]
theorem asg_find {env : Env} : ∀ {es : List Expr}, es.all flatE = true → (assignEach es env).findIdx? (·.1) = none
  | [], _ => rfl
  | p :: es, h => by
    rw [List.all_cons, Bool.and_eq_true] at h
    rw [asg1 h.1, List.findIdx?_cons, asg_find h.2]
    rfl
theorem s_subn {o i e : Ex} {j : Nat} {y : Str} {p q x : Expr} {sp np tp : Pos} {kk : Nat} (hK : X.K = T.K) (hw : X.w = w) (hc : X.calm = true) (hu : X.A.units + 65 < cLine) (he : PE X x (tE T w F e)) (ho : PE X p (tE T w F o)) (hi : PE X q (tE T w F i))
    (hN : X.N.Nodup) (hj : X.N[j]? = some y) (hx : Loc X.env.scope y) (hf : X.fn y = true ∨ X.env.scope.names.lookup y = some .local)
    (ha : ∀ v, assign (.Subscript p q sp) X.env v = (do
      let ov ← holding [v] (eval p X.env)
      let iv ← holding [v, ov] (eval q X.env)
      standAt sp
      holding [v, ov, iv] (setItem ov iv v)
      release [v, ov, iv] [])) (hs : swapsWithSole [.Tuple [.Subscript p q sp, .Name y np] kk tp] x pos.line X.env = pure false) (hsw : swappedStores [.Tuple [.Subscript p q sp, .Name y np] kk tp] x X.env = pure none) :
    PS X (.Assign [.Tuple [.Subscript p q sp, .Name y np] kk tp] x pos) (tSx T w F W (.subn o i j e)) := by
  refine PS.of (ps_asg he (pg_tup (n := 2) hc (pgs_cons (pg_sub ho hi (setIx_ok (T := T) hK hw hu) ha) (pgs_cons (pg_name hN hj hx hf) pgs_nil (by rw [asg1 rfl]; rfl)) (by rw [asg1 rfl]; rfl)) (asg_len rfl) (asg_find rfl)) hs hsw (by rfl)) fun D σ H h => ?_
  obtain ⟨Av, β, hm, σm, g, k⟩ := h
  simp only [evS] at k
  split at k
  case h_2 => exact k.elim
  rename_i v u h1 e1
  split at k
  case h_2 => exact k.elim
  rename_i x2 h2 e2
  split at k
  case h_2 => exact k.elim
  rename_i y3 h3 e3
  split at k
  case h_2 => exact k.elim
  rename_i h4 e4
  refine tE_then g e1 fun β1 H1 z1 i1 g1 r1 => ?_
  obtain ⟨a, xs, rfl, sq, q⟩ := r1.tup'
  obtain ⟨va, ua, rfl, rv, ru⟩ := q.two'
  refine ⟨a, [va, ua], rfl, hK ▸ sq, rfl, va, [ua], rfl, ?_⟩
  refine tE_then g1 e2 fun β2 H2 z2 i2 g2 r2 => tE_then g2 e3 fun β3 H3 z3 i3 g3 r3 => ?_
  refine ⟨Av, β3, h3, x2, y3, v, h4, g3.hr, r2.mono i3, r3, (rv.mono i2).mono i3, e4, fun H4 i4 hr4 => ⟨ua, [], rfl, rfl, ?_⟩⟩
  have g4 := g3.mono i4 hr4
  exact k β3 H4 _ (((i1.trans i2).trans i3).trans i4) ⟨g4.hr, g4.ss.set (((ru.mono i2).mono i3).mono i4)⟩
theorem s_fld {o e : Ex} {f n : Nat} {p x : Expr} {y : Str} {ap : Pos} (hK : X.K = T.K) (inj : Inj T) (cs : CsOk T n) (hf : f < n) (hy : T.an f = y) (he : PE X x (tE T w F e)) (ho : PE X p (tE T w F o)) (hs : swapsWith x (some (.Attribute p y ap)) pos.line X.env = pure false) :
    PS X (.Assign [.Attribute p y ap] x pos) (tSx T w F W (.fld o f e)) := by
  subst hy
  refine PS.of (ps_fld ho he hs) fun D σ H h => ?_
  obtain ⟨Av, β, hm, σm, g, k⟩ := h
  simp only [evS] at k
  split at k
  case h_2 => exact k.elim
  rename_i v h1 e1
  split at k
  case h_2 => exact k.elim
  rename_i i h2 e2
  split at k
  case h_2 => exact k.elim
  rename_i c fs ho2
  split at k
  case isFalse => exact k.elim
  rename_i hc
  simp only [Bool.and_eq_true, decide_eq_true_eq] at hc
  obtain ⟨cl, hcl⟩ := Option.isSome_iff_exists.mp hc.2
  refine tE_then g e1 fun β1 H1 z1 i1 g1 r1 => tE_then g1 e2 fun β2 H2 z2 i2 g2 r2 => ?_
  obtain ⟨a, rfl, hi⟩ := r2.loc'
  obtain ⟨dx, gs, hH, q⟩ := g2.hr.ins hi ho2
  have rv := r1.mono i2
  have ew := Ex'.write (u := .ins (T.ca c) dx (putF (T.an f) z1 gs)) (o' := .ins c (putA f v fs)) g2.hr hi ho2 (fun z => nomatch z)
  refine ⟨a, T.ca c, dx, gs, rfl, hH, hK ▸ cs.cls _ _ hcl, hK ▸ cs.noat _ _ _ hcl hf, by rw [← q.length]; omega, ?_⟩
  have q2 := (q.put (f := f) inj rv).imp (L' := lv Av β2 (h2.set i (.ins c (putA f v fs)))) (β' := β2) (H' := upd H2 a (.ins (T.ca c) dx (putF (T.an f) z1 gs))) fun _ _ z => z.mono ew
  exact k β2 _ σ ((i1.trans i2).trans ew) (g2.mono ew (g2.hr.write hi ho2 (fun z => nomatch z) (.ins q2)))
theorem s_aug {i : Nat} {y : Str} {o : Bop} {e : Ex} {x : Expr} {op : Operator} {np : Pos} (hop : (o = .add ∧ op = .Add) ∨ (o = .sub ∧ op = .Sub)) (hN : X.N.Nodup) (hi : X.N[i]? = some y) (hx : Loc X.env.scope y) (hf : X.fn y = true ∨ X.env.scope.names.lookup y = some .local)
    (he : PE X x (tE T w F e)) (rule : ∀ ti, PIp X op ti → PS X (.AugAssign (.Name y np) op x pos) (tAug i (tE T w F e) ti)) : PS X (.AugAssign (.Name y np) op x pos) (tSx T w F W (.aug i o e)) := by
  rcases hop with ⟨rfl, rfl⟩ | ⟨rfl, rfl⟩
  · refine PS.of (rule _ ip_add) fun D σ H h => ?_
    obtain ⟨Av, β, hm, σm, g, k⟩ := h
    simp only [evS] at k
    split at k
    case h_2 => exact k.elim
    rename_i u hu
    split at k
    case h_2 => exact k.elim
    rename_i v h1 e1
    obtain ⟨z, hz, rz⟩ := g.ss.2 i _ hu
    cases u with
    | int a =>
      cases v with
      | int b =>
        cases rz.int'
        have k : Ks T w Av β hm H D (.nx (σm.set i (some (.int (a + b)))) h1) := k
        refine ⟨_, hz, tE_then g e1 fun β1 H1 z1 i1 g1 r1 => ⟨a, b, rfl, r1.int', ?_⟩⟩
        exact k β1 H1 _ i1 ⟨g1.hr, g1.ss.set (.int _)⟩
      | _ => exact (show False from k).elim
    | _ => cases v <;> exact (show False from k).elim
  · refine PS.of (rule _ ip_sub) fun D σ H h => ?_
    obtain ⟨Av, β, hm, σm, g, k⟩ := h
    simp only [evS] at k
    split at k
    case h_2 => exact k.elim
    rename_i u hu
    split at k
    case h_2 => exact k.elim
    rename_i v h1 e1
    obtain ⟨z, hz, rz⟩ := g.ss.2 i _ hu
    cases u with
    | int a =>
      cases v with
      | int b =>
        cases rz.int'
        have k : Ks T w Av β hm H D (.nx (σm.set i (some (.int (a - b)))) h1) := k
        refine ⟨_, hz, tE_then g e1 fun β1 H1 z1 i1 g1 r1 => ⟨a, b, rfl, r1.int', ?_⟩⟩
        exact k β1 H1 _ i1 ⟨g1.hr, g1.ss.set (.int _)⟩
      | _ => exact (show False from k).elim
    | _ => cases v <;> exact (show False from k).elim
theorem s_ifs {c : Ex} {a b : List Sx} {p : Expr} {as bs : List Stmt} (hc : PT X p (tT T w F c)) (ha : PSs X as (tSxs T w F W a)) (hb : PSs X bs (tSxs T w F W b)) : PS X (.If p as bs pos) (tSx T w F W (.ifs c a b)) := by
  refine PS.of (ps_if hc ha hb) fun D σ H h => ?_
  obtain ⟨Av, β, hm, σm, g, k⟩ := h
  simp only [evS] at k
  split at k
  case h_2 => exact k.elim
  rename_i v h1 e1
  split at k
  · rename_i ht
    exact tT_then g e1 ht fun β1 H1 i1 g1 => ⟨Av, β1, h1, σm, g1, k.after i1⟩
  · rename_i ht
    exact tT_then g e1 ht fun β1 H1 i1 g1 => ⟨Av, β1, h1, σm, g1, k.after i1⟩
  · exact k.elim
theorem s_ret {e : Ex} {p : Expr} (he : PE X p (tE T w F e)) : PS X (.Return (some p) pos) (tSx T w F W (.ret e)) := by
  refine PS.of (ps_ret he) fun D σ H h => ?_
  obtain ⟨Av, β, hm, σm, g, k⟩ := h
  simp only [evS] at k
  split at k
  case h_2 => exact k.elim
  rename_i v h1 e1
  exact tE_then g e1 fun β1 H1 x i1 g1 r1 => k β1 H1 x i1 g1.hr r1
theorem s_retn : PS X (.Return none pos) (tSx T w F W .retn) := by
  refine PS.of ps_retN fun D σ H h => ?_
  obtain ⟨Av, β, hm, σm, g, k⟩ := h
  simp only [evS] at k
  exact k β H .non Ex'.refl g.hr .non
theorem s_brk : PS X (.Break pos) (tSx T w F W .brk) := by
  refine PS.of ps_break fun D σ H h => ?_
  obtain ⟨Av, β, hm, σm, g, k⟩ := h
  simp only [evS] at k
  exact k β H σ Ex'.refl g
theorem s_cnt : PS X (.Continue pos) (tSx T w F W .cnt) := by
  refine PS.of ps_continue fun D σ H h => ?_
  obtain ⟨Av, β, hm, σm, g, k⟩ := h
  simp only [evS] at k
  exact k β H σ Ex'.refl g
theorem s_pass : PS X (.Pass pos) (tSx T w F W .pass) := by
  refine PS.of ps_pass fun D σ H h => ?_
  obtain ⟨Av, β, hm, σm, g, k⟩ := h
  simp only [evS] at k
  exact k β H σ Ex'.refl g
theorem s_whl {c : Ex} {b : List Sx} {p : Expr} {bs : List Stmt} (hp : PassesOwn (model X.prog X.w) X.A X.env X.xe) (hc : PT X p (tT T w F c)) (hb : PSs X bs (tSxs T w F W b)) : PS X (.While p bs [] pos) (tSx T w F W (.whl c b)) := by
  refine PS.of (ps_while hp hc hb) fun D σ H h => ?_
  obtain ⟨Av, β, hm, σm, g, k⟩ := h
  simp only [evS] at k
  refine ⟨fun n σ H => ∃ β hm σm, Sg T w Av β hm H σm σ ∧ Ks T w Av β hm H D (loopW (fun σ h => evE T.G F c σ h) (fun σ h => evSs T.G F W b σ h) n σm hm), ⟨W, β, hm, σm, g, k⟩, fun n σ H inv => ?_⟩
  obtain ⟨β, hm, σm, g, k⟩ := inv
  cases n with
  | zero => exact (show False from k).elim
  | succ n =>
    simp only [loopW] at k
    split at k
    case h_2 => exact k.elim
    rename_i v h1 e1
    split at k
    · rename_i ht
      refine tT_then g e1 ht fun β1 H1 i1 g1 => ?_
      rw [if_pos rfl]
      refine ⟨fun σ H => ∃ β hm σm, Sg T w Av β hm H σm σ ∧ Ks T w Av β hm H D (loopW (fun σ h => evE T.G F c σ h) (fun σ h => evSs T.G F W b σ h) n σm hm), fun σ' H' z => ⟨n, Nat.lt_succ_self n, z⟩, Av, β1, h1, σm, g1, ?_⟩
      have k1 := k.after i1
      cases hr : evSs T.G F W b σm h1 with
      | nx σ2 h2 => rw [hr] at k1; exact fun β' H' σ' e g' => ⟨β', h2, σ2, g', k1.after e⟩
      | ct σ2 h2 => rw [hr] at k1; exact fun β' H' σ' e g' => ⟨β', h2, σ2, g', k1.after e⟩
      | bk σ2 h2 => rw [hr] at k1; exact k1
      | rt v h2 => rw [hr] at k1; exact k1
      | bad => rw [hr] at k1; exact k1
    · rename_i ht
      refine tT_then g e1 ht fun β1 H1 i1 g1 => ?_
      rw [if_neg (by decide)]
      exact k β1 H1 σ i1 g1
    · exact k.elim
theorem s_for {t : Tg} {it : Ex} {b : List Sx} {tg p : Expr} {bs : List Stmt} (hp : PassesOwn (model X.prog X.w) X.A X.env X.xe) (hc : X.calm = true) (hi : PI X tg p (tIi T w F it)) (hg : PG X tg (tGt T w t)) (hb : PSs X bs (tSxs T w F W b)) (hs : ∀ x, foldedSetIterable p X.env x = pure x) :
    PS X (.For tg p bs [] pos) (tSx T w F W (.for_ t it b)) := by
  refine PS.of (ps_for hp hc hi hg hb hs) fun D σ H h => ?_
  obtain ⟨Av, β, hm, σm, g, k⟩ := h
  simp only [evS] at k
  split at k
  case h_2 => exact k.elim
  rename_i l h1 e1
  refine ⟨Av, β, hm, σm, l, h1, g, e1, fun J β1 H1 i1 hr1 jw => ?_⟩
  refine ⟨fun i n σ H => n = l.length - i ∧ i ≤ l.length ∧ ∃ β hm σm, Ex' β1 h1 H1 β hm H ∧ Sg T w Av β hm H σm σ ∧ Ks T w Av β hm H D (loopF t (fun σ h => evSs T.G F W b σ h) (l.drop i) σm hm), ⟨_, rfl, Nat.zero_le _, β1, h1, σm, Ex'.refl, g.mono i1 hr1, k.after i1⟩, fun i n σ H inv => ?_⟩
  obtain ⟨rfl, le, β3, h3, σm3, i3, g3, k3⟩ := inv
  obtain ⟨jstop, jgo⟩ := jw Av β3 h3 H More.refl i3 g3.hr
  by_cases lt : i < l.length
  · refine .inr ⟨(jgo i lt).1, fun σ H => ∃ β hm σm, Ex' β1 h1 H1 β hm H ∧ Sg T w Av β hm H σm σ ∧ Ks T w Av β hm H D (loopF t (fun σ h => evSs T.G F W b σ h) (l.drop (i + 1)) σm hm), fun σ' H' z => ⟨l.length - (i + 1), by omega, rfl, lt, z⟩, fun x H' y => ?_⟩
    obtain ⟨i4, hr4, m, hm1, rm⟩ := (jgo i lt).2 x H' y
    have dr : l.drop i = m :: l.drop (i + 1) := by
      obtain ⟨_, e⟩ := List.getElem?_eq_some_iff.mp hm1
      rw [List.drop_eq_getElem_cons lt, e]
    rw [dr] at k3
    simp only [loopF] at k3
    split at k3
    · rename_i σ2 e2
      refine ⟨Av, β3, h3, σm3, σ2, m, g3.mono i4 hr4, rm, e2, fun σ' g' _ => ⟨Av, β3, h3, σ2, g', ?_⟩⟩
      have k4 := k3.after i4
      cases hr : evSs T.G F W b σ2 h3 with
      | nx σ5 h5 => rw [hr] at k4; exact fun β' H'' σ'' e g'' => ⟨β', h5, σ5, i3.trans (i4.trans e), g'', k4.after e⟩
      | ct σ5 h5 => rw [hr] at k4; exact fun β' H'' σ'' e g'' => ⟨β', h5, σ5, i3.trans (i4.trans e), g'', k4.after e⟩
      | bk σ5 h5 => rw [hr] at k4; exact k4
      | rt v h5 => rw [hr] at k4; exact k4
      | bad => rw [hr] at k4; exact k4
    · exact k3.elim
  · have ei : i = l.length := by omega
    subst ei
    rw [List.drop_length] at k3
    exact .inl ⟨jstop, Ks.nx k3 g3⟩
end
end Mi

namespace Mi
open PySem PySem.Spec PyProof.Rows L2

structure Sig where
  gn : List Str
  dn : List Str
  cn : List Str
  an : List Str
  kws : List Kw

/-! ### names -/
def okN (y : Str) : Bool := !(y == ("__debug__" : Str)) && (!(y == ("__classdict__" : Str)) && !(y == ("" : Str)))
def visB (ws : Scope) (y : Str) : Bool := match ws.names.lookup y with
  | some .local => true | some .cell => true | some .free => true
  | _ => false
def locB (ws : Scope) (y : Str) : Bool := match ws.names.lookup y with
  | some .local => true | some .cell => true
  | _ => false
def glB (ws : Scope) (y : Str) : Bool := match ws.names.lookup y with
  | some .globalImplicit => true
  | _ => false
def varB (N : List Str) (ws : Scope) (i : Nat) (y : Str) : Bool := decide (N[i]? = some y) && (visB ws y && okN y)
def tgtB (N : List Str) (ws : Scope) (i : Nat) (y : Str) : Bool := decide (N[i]? = some y) && locB ws y
def glbB (l : List Str) (ws : Scope) (j : Nat) (y : Str) : Bool := decide (l[j]? = some y) && (glB ws y && okN y)
def tstB : Expr → Bool
  | .IfExp .. => false
  | _ => true
def plainB : Expr → Bool
  | .Slice .. => false
  | _ => true
def noSet : Expr → Bool
  | .Set .. => false
  | _ => true
def noComp : Expr → Bool
  | .ListComp .. => false | .SetComp .. => false | .DictComp .. => false
  | _ => true
def nmB : Expr → Bool
  | .Name .. => true
  | _ => false
def callB (es : List Expr) : Bool := !es.isEmpty && (es.all flatE && decide (es.length < 20))
def ownOf (N : List Str) (own : List Nat) : List (Str × Nat) := own.map fun i => ((N[i]?).getD "", i)

/-! ### targets -/
mutual
def mG (N : List Str) (ws : Scope) (t : Tg) (x : Expr) : Bool := match t with
  | .nm i => match x with
    | .Name y _ => tgtB N ws i y
    | _ => false
  | .tup l => match x with
    | .Tuple es _ _ => es.all flatE && mGs N ws l es
    | _ => false
def mGs (N : List Str) (ws : Scope) (l : List Tg) (es : List Expr) : Bool := match l with
  | [] => match es with
    | [] => true
    | _ => false
  | t :: l => match es with
    | [] => false
    | x :: es => mG N ws t x && mGs N ws l es
end

section
variable (S : Sig) (N : List Str)
mutual
def mE (ws : Scope) (e : Ex) (x : Expr) : Bool := match e with
  | .var i => match x with
    | .Name y _ => varB N ws i y
    | _ => false
  | .non => match x with
    | .Constant .none _ _ => true
    | _ => false
  | .bl b => match x with
    | .Constant (.bool c) _ _ => decide (b = c)
    | _ => false
  | .int i => match x with
    | .Constant (.int j) _ _ => decide (i = j)
    | _ => false
  | .str s => match x with
    | .Constant (.str z) _ _ => decide (s = z)
    | _ => false
  | .glb j => match x with
    | .Name y _ => glbB S.gn ws j y
    | _ => false
  | .bin o a b => match x with
    | .BinOp p op q _ => decide (op = opOf o) && (mE ws a p && mE ws b q)
    | _ => false
  | .neg a => match x with
    | .UnaryOp .USub p _ => mE ws a p
    | _ => false
  | .cmp o a b => match x with
    | .Compare p [op] [q] _ => decide (op = coOf o) && (!behindInMarks op q && (mE ws a p && mE ws b q))
    | _ => false
  | .isN a => match x with
    | .Compare p [.Is] [.Constant .none _ _] _ => mE ws a p
    | _ => false
  | .notN a => match x with
    | .Compare p [.IsNot] [.Constant .none _ _] _ => mE ws a p
    | _ => false
  | .chn o o' a b c => match x with
    | .Compare p [op, op'] [q, r] _ => decide (op = coOf o) && (decide (op' = coOf o') && (!lastMarks [op, op'] [q, r] && (mE ws a p && (mE ws b q && mE ws c r))))
    | _ => false
  | .and a b => match x with
    | .BoolOp .And (p :: q :: rest) pos => tstB p && (mE ws a p && (match rest with
      | [] => tstB q && mE ws b q
      | _ :: _ => mE ws b (.BoolOp .And (q :: rest) pos)))
    | _ => false
  | .or a b => match x with
    | .BoolOp .Or (p :: q :: rest) pos => tstB p && (mE ws a p && (match rest with
      | [] => tstB q && mE ws b q
      | _ :: _ => mE ws b (.BoolOp .Or (q :: rest) pos)))
    | _ => false
  | .not a => match x with
    | .UnaryOp .Not p _ => tstB p && mE ws a p
    | _ => false
  | .ife c a b => match x with
    | .IfExp r p q _ => tstB r && (mE ws c r && (mE ws a p && mE ws b q))
    | _ => false
  | .tup l => match x with
    | .Tuple es _ _ => decide (l.length ≤ 100000) && (es.all flatE && mL ws l es)
    | _ => false
  | .lst _ l => match x with
    | .List es _ => decide (l.length ≤ 100000) && (es.all flatE && mL ws l es)
    | _ => false
  | .idx a b => match x with
    | .Subscript p q _ => plainB q && (mE ws a p && mE ws b q)
    | _ => false
  | .slc a lo hi => match x with
    | .Subscript p (.Slice lo' hi' none _) _ => mE ws a p && (mO ws lo lo' && mO ws hi hi')
    | _ => false
  | .rev _ => false
  | .call j l => match x with
    | .Call (.Name y _) es [] _ => glbB S.dn ws j y && (callB es && mL ws l es)
    | _ => false
  | .callK j ks l => match x with
    | .Call (.Name y _) es kws _ => glbB S.dn ws j y && (es.all flatE && (decide (kws.map (·.arg) = (kws.filterMap (·.arg)).map some) && (decide ((j, es.length, kws.filterMap (·.arg), ks) ∈ S.kws) && mLK ws l es kws)))
    | _ => false
  | .callV i l => match x with
    | .Call (.Name y _) es [] _ => varB N ws i y && (callB es && mL ws l es)
    | _ => false
  | .blt b l => match x with
    | .Call (.Name y _) es [] _ => decide (y = bname b) && (glB ws y && (callB es && mL ws l es))
    | _ => false
  | .isi a t => match x with
    | .Call (.Name y _) [p, .Name tn _] [] _ => decide (y = ("isinstance" : Str)) && (glB ws y && (decide (tn = Str.ofString (tname t)) && (glB ws tn && (flatE p && mE ws a p))))
    | _ => false
  | .mth m o l => match x with
    | .Call (.Attribute p y apos) es [] cpos => decide (y = mname m) && ((apos.endLine == cpos.line) && (baseE p && (mE ws o p && (match m with
      | .pop => match l with
        | [] => es.isEmpty
        | _ => false
      | _ => callB es && mL ws l es))))
    | _ => false
  | .fld o f => match x with
    | .Attribute p y _ => decide (S.an[f]? = some y) && (baseE p && mE ws o p)
    | _ => false
  | .new c l => match x with
    | .Call (.Name y _) es [] _ => glbB S.cn ws c y && (callB es && mL ws l es)
    | _ => false
  | .comp _ tg it ifs elt own => match x with
    | .ListComp el [⟨tg', it', ifs', a⟩] scope _ => decide (a = 0) && (blkC N ws scope (ownOf N own) && ((tgN tg).all (fun i => decide (i ∈ own)) && (mG N scope tg tg' && (noSet it' && ((match specB it with | true => mI ws it tg' it' | false => mE ws it it') && (mF scope ifs ifs' && mE scope elt el))))))
    | _ => false
  | .dic0 => match x with
    | .Dict [] [] _ => true
    | _ => false
  | .dic1 k v => match x with
    | .Dict [some p] [q] _ => mE ws k p && mE ws v q
    | _ => false
  | .frz a => nmB x && mE ws a x
  | .rng1 _ => false
  | .rng2 _ _ => false
  | .rngd _ _ => false
  | .enm _ => false
def mL (ws : Scope) (l : List Ex) (es : List Expr) : Bool := match l with
  | [] => match es with
    | [] => true
    | _ => false
  | a :: l => match es with
    | [] => false
    | p :: es => mE ws a p && mL ws l es
def mLK (ws : Scope) (l : List Ex) (es : List Expr) (kws : List Keyword) : Bool := match l with
  | [] => match es, kws with
    | [], [] => true
    | _, _ => false
  | a :: l => match es with
    | p :: es => mE ws a p && mLK ws l es kws
    | [] => match kws with
      | ⟨_, p, _⟩ :: kws => mE ws a p && mLK ws l [] kws
      | [] => false
def mO (ws : Scope) (e : Option Ex) (x : Option Expr) : Bool := match e with
  | none => match x with
    | none => true
    | some _ => false
  | some e => match x with
    | none => false
    | some x => mE ws e x
/-- what is walked -/
def mI (ws : Scope) (e : Ex) (tg x : Expr) : Bool := match e with
  | .rng1 a => match x with
    | .Call (.Name y _) [p] [] _ => decide (y = ("range" : Str)) && (glB ws y && (flatE p && mE ws a p))
    | _ => false
  | .rng2 a b => match x with
    | .Call (.Name y _) [p, q] [] _ => decide (y = ("range" : Str)) && (glB ws y && (flatE p && (flatE q && (mE ws a p && mE ws b q))))
    | _ => false
  | .enm a => match x with
    | .Call (.Name y _) [p] [] _ => decide (y = ("enumerate" : Str)) && (glB ws y && (flatE p && (mE ws a p && (match tg with
      | .Tuple _ _ _ => true
      | _ => false))))
    | _ => false
  | _ => false
def mF (ws : Scope) (l : List Ex) (es : List Expr) : Bool := match l with
  | [] => match es with
    | [] => true
    | _ => false
  | a :: l => match l, es with
    | [], [p] => tstB p && mE ws a p
    | _, _ => false
end
end
end Mi

namespace Mi
open PySem PySem.Spec PyProof.Rows L2

def bltNames : List Str := ["len", "int", "list", "tuple", "abs", "sum", "all", "any", "min", "max", "divmod", "sorted", "repr", "isinstance", "bool", "str", "range", "enumerate"]
/-- what the module holds -/
structure StOk (T : Tb) (w : World) (S : Sig) : Prop where
  kd : KdOk T w
  inj : Inj T
  cs : CsOk T S.an.length
  anm : ∀ (f : Nat) (y : Str), S.an[f]? = some y → T.an f = y
  glo : ∀ (j : Nat) (m : MV) (y : Str), T.G.glo[j]? = some m → S.gn[j]? = some y → ∃ v u, T.mg y = some u ∧ RelV v u ∧ ∀ L β H, RV T L β H m v
  free : ∀ y ∈ bltNames, T.mg y = none
  dnm : ∀ (j : Nat) (y : Str), S.dn[j]? = some y → (y == ("" : Str)) = false → T.mg y = some (.ref (T.fa j))
  cnm : ∀ (c : Nat) (y : Str), S.cn[c]? = some y → T.mg y = some (.ref (T.ca c))
/-- the defs that may be called -/
structure CaOk (P : Program) (w : World) (T : Tb) (base : Heap) (k : Nat) (F : Fn) (S : Sig) : Prop where
  def_ : ∀ j d, T.G.defs[j]? = some d → DfOk P w T base k F S.kws j d
  len : ∀ j d, T.G.defs[j]? = some d → ∀ l hm v hm', F j l hm = .ok v hm' → l.length = d.np
  mkc : ∀ c cl, T.G.cls[c]? = some cl → MkOk P w T base k F c cl
/-- a body (or a block) under way -/
structure CO (T : Tb) (w : World) (F : Fn) (k : Nat) (S : Sig) (N : List Str) (X : Cx) (ws : Scope) : Prop where
  hK : X.K = T.K
  hmg : X.mg = T.mg
  hw : X.w = w
  hN : X.N = N
  nd : N.Nodup
  calm : X.calm = true
  roo : Roo (k + 1) X.A
  kind : X.env.scope.kind = .function
  loc : ∀ y, ws.names.lookup y = some .local → X.env.scope.names.lookup y = some .local
  cel : ∀ y, ws.names.lookup y = some .cell → X.env.scope.names.lookup y = some .cell ∧ X.fn y = true
  fre : ∀ y, ws.names.lookup y = some .free → X.env.scope.names.lookup y = some .free ∨ X.env.scope.names.lookup y = some .cell
  gl : ∀ y, ws.names.lookup y = some .globalImplicit → X.env.scope.names.lookup y = some .globalImplicit
  st : StOk T w S
  ca : CaOk X.prog w T X.base k F S
section
variable {T : Tb} {w : World} {F : Fn} {k : Nat} {S : Sig} {N : List Str} {X : Cx} {ws : Scope}
theorem CO.u66 (c : CO T w F k S N X ws) : X.A.units + 66 < cLine := by have := c.roo.room.un; omega
theorem CO.u65 (c : CO T w F k S N X ws) : X.A.units + 65 < cLine := by have := c.roo.room.un; omega
theorem CO.u64 (c : CO T w F k S N X ws) : X.A.units + 64 < cLine := by have := c.roo.room.un; omega
theorem okN_d {y : Str} (h : okN y = true) : (y == ("__debug__" : Str)) = false ∧ (y == ("__classdict__" : Str)) = false ∧ (y == ("" : Str)) = false := by
  unfold okN at h
  rw [Bool.and_eq_true, Bool.and_eq_true, Bool.not_eq_true', Bool.not_eq_true', Bool.not_eq_true'] at h
  exact h
theorem CO.vis (c : CO T w F k S N X ws) {y : Str} (h : visB ws y = true) : Vis X.env.scope y := by
  unfold visB at h
  split at h
  · exact .inl (c.loc y (by assumption))
  · exact .inr (.inl (c.cel y (by assumption)).1)
  · rcases c.fre y (by assumption) with e | e
    · exact .inr (.inr e)
    · exact .inr (.inl e)
  · cases h
theorem CO.glo (c : CO T w F k S N X ws) {y : Str} (h : glB ws y = true) : Gl X y := by
  unfold glB at h
  split at h
  · exact c.gl y (by assumption)
  · cases h
theorem CO.var (c : CO T w F k S N X ws) {i : Nat} {y : Str} (h : varB N ws i y = true) : X.N[i]? = some y ∧ Vis X.env.scope y ∧ (y == ("__debug__" : Str)) = false ∧ (y == ("__classdict__" : Str)) = false := by
  unfold varB at h
  simp only [Bool.and_eq_true, decide_eq_true_eq] at h
  obtain ⟨a, b, _⟩ := okN_d h.2.2
  exact ⟨by rw [c.hN]; exact h.1, c.vis h.2.1, a, b⟩
theorem CO.tgt (c : CO T w F k S N X ws) {i : Nat} {y : Str} (h : tgtB N ws i y = true) : X.N[i]? = some y ∧ Loc X.env.scope y ∧ (X.fn y = true ∨ X.env.scope.names.lookup y = some .local) := by
  unfold tgtB at h
  simp only [Bool.and_eq_true, decide_eq_true_eq] at h
  refine ⟨by rw [c.hN]; exact h.1, ?_⟩
  have h2 := h.2
  unfold locB at h2
  split at h2
  · have e := c.loc y (by assumption)
    exact ⟨.inl e, .inr e⟩
  · have e := c.cel y (by assumption)
    exact ⟨.inr e.1, .inl e.2⟩
  · cases h2
theorem CO.glb (c : CO T w F k S N X ws) {l : List Str} {j : Nat} {y : Str} (h : glbB l ws j y = true) : l[j]? = some y ∧ Gl X y ∧ (y == ("__debug__" : Str)) = false ∧ (y == ("" : Str)) = false := by
  unfold glbB at h
  simp only [Bool.and_eq_true, decide_eq_true_eq] at h
  obtain ⟨a, _, b⟩ := okN_d h.2.2
  exact ⟨h.1, c.glo h.2.1, a, b⟩
theorem CO.free (c : CO T w F k S N X ws) {y : Str} (h : y ∈ bltNames) : X.mg y = none := by rw [c.hmg]; exact c.st.free y h
theorem call_cons {es : List Expr} (h : callB es = true) : ∃ q r, es = q :: r ∧ (q :: r).all flatE = true ∧ (q :: r).length < 20 := by
  unfold callB at h
  simp only [Bool.and_eq_true, decide_eq_true_eq] at h
  cases es with
  | nil => cases h.1
  | cons q r => exact ⟨q, r, rfl, h.2.1, h.2.2⟩
theorem relS_fre {sc : Scope} {names : List (Str × NameKind)} {y : Str} (h : names.lookup y = some .free) :
    (names.map fun (n, k) => if (k == NameKind.free && sc.kind == .function && sc.names.lookup n == some .cell) then (n, NameKind.cell) else (n, k)).lookup y = some .free ∨
    (names.map fun (n, k) => if (k == NameKind.free && sc.kind == .function && sc.names.lookup n == some .cell) then (n, NameKind.cell) else (n, k)).lookup y = some .cell := by
  induction names with
  | nil => cases h
  | cons p r ih =>
    obtain ⟨n, k0⟩ := p
    rw [List.lookup_cons] at h
    cases hx : y == n with
    | true =>
      rw [hx] at h
      cases h
      by_cases hc : (NameKind.free == NameKind.free && sc.kind == .function && sc.names.lookup n == some .cell) = true
      · refine .inr ?_
        rw [List.map_cons]; dsimp only; rw [if_pos hc, List.lookup_cons, hx]
      · refine .inl ?_
        rw [List.map_cons]; dsimp only; rw [if_neg hc, List.lookup_cons, hx]
    | false =>
      rw [hx] at h
      by_cases hc : (k0 == NameKind.free && sc.kind == .function && sc.names.lookup n == some .cell) = true
      · rw [List.map_cons]; dsimp only; rw [if_pos hc, List.lookup_cons, hx]; exact ih h
      · rw [List.map_cons]; dsimp only; rw [if_neg hc, List.lookup_cons, hx]; exact ih h
/-- within a comprehension's block -/
theorem CO.blk (c : CO T w F k S N X ws) {scope : Scope} (hk : scope.kind = .function) (s : Shared) (H : Hp) (C : Addr) (cl : List (Str × Addr)) (fp : List Addr) : CO T w F k S N (X.blk s H scope (compEnvC scope cl C X.env) fp) scope := by
  refine ⟨c.hK, c.hmg, c.hw, c.hN, c.nd, c.calm, c.roo, hk, fun y h => ?_, fun y h => ⟨?_, ?_⟩, fun y h => ?_, fun y h => ?_, c.st, c.ca⟩
  · exact lookup_relS_keep (sc := X.env.scope) (by decide) h
  · exact lookup_relS_keep (sc := X.env.scope) (by decide) h
  · show (scope.names.lookup y == some .cell) = true
    rw [h]; rfl
  · exact relS_fre h
  · exact lookup_relS_keep (sc := X.env.scope) (by decide) h
theorem CO.blkOk (c : CO T w F k S N X ws) {scope : Scope} {own : List (Str × Nat)} (h : blkC N ws scope own = true) : BlkOk X.N X.env.scope scope own := by
  have b := blkOk_by h
  refine ⟨b.kind, b.uniq, by rw [c.hN]; exact b.ix, fun y hy e => ?_, by rw [c.hN]; exact b.own⟩
  rcases b.free y hy e with z | z
  · exact .inl (c.cel _ z).1
  · exact (c.fre _ z).symm
/-! ### targets -/
mutual
theorem mG_ok (c : CO T w F k S N X ws) : ∀ {t : Tg} {x : Expr}, mG N ws t x = true → PG X x (tGt T w t)
  | .nm i, x, h => by
    simp only [mG] at h
    split at h
    · obtain ⟨h1, h2, h3⟩ := c.tgt h
      exact g_nm (by rw [c.hN]; exact c.nd) h1 h2 h3
    · cases h
  | .tup l, x, h => by
    simp only [mG] at h
    split at h
    · rename_i es kk pos
      rw [Bool.and_eq_true] at h
      have gs := mGs_ok c h.2 h.1
      exact g_tup c.hK c.calm gs.1 (by rw [asg_len h.1, gs.2]) (asg_find h.1)
    · cases h
theorem mGs_ok (c : CO T w F k S N X ws) : ∀ {l : List Tg} {es : List Expr}, mGs N ws l es = true → es.all flatE = true → PGs X es (tGs T w l) ∧ es.length = l.length
  | [], es, h, _ => by
    simp only [mGs] at h
    split at h
    · exact ⟨gs_nil, rfl⟩
    · cases h
  | t :: l, es, h, hf => by
    simp only [mGs] at h
    split at h
    · cases h
    · rename_i x es
      rw [Bool.and_eq_true] at h
      rw [List.all_cons, Bool.and_eq_true] at hf
      have gs := mGs_ok c h.2 hf.2
      exact ⟨gs_cons (mG_ok c h.1) gs.1 (asg1 hf.1 _ _), by rw [List.length_cons, gs.2, List.length_cons]⟩
end
/-! ### expressions -/
structure Good (T : Tb) (w : World) (F : Fn) (X : Cx) (e : Ex) (x : Expr) : Prop where
  pe : PE X x (tE T w F e)
  pt : tstB x = true → PT X x (tT T w F e)
  pw : ∀ op l pos, x = .BoolOp op l pos → PW X x (tT T w F e)
theorem Good.val {e : Ex} {x : Expr} (c : CO T w F k S N X ws) (h : PE X x (tE T w F e)) (ht : ∀ whole, isTrue x X.env whole = (do let v ← whole; standAt x.pos; holding [v] (truthy v))) (hb : ∀ op l pos, x ≠ .BoolOp op l pos) : Good T w F X e x :=
  ⟨h, fun _ => t_val c.hK h ht, fun op l pos z => absurd z (hb op l pos)⟩
theorem bname_mem (b : Blt) : bname b ∈ bltNames := by cases b <;> decide +kernel
theorem tname_mem (t : Ty) : Str.ofString (tname t) ∈ bltNames := by cases t <;> decide +kernel
theorem evI_gen {G : Gm} {e : Ex} (hs : specB e = false) {σm : MS} {hm h1 : MH} {l : List MV} (ev : evI G F e σm hm = .ok l h1) : ∃ v, evE G F e σm hm = .ok v h1 ∧ (v = .tup l ∨ v = .lst l) := by
  unfold evI at ev
  rw [hs] at ev
  dsimp only at ev
  unfold seqOf at ev
  split at ev
  · obtain ⟨rfl, rfl⟩ := out_inj ev
    exact ⟨_, by assumption, .inl rfl⟩
  · obtain ⟨rfl, rfl⟩ := out_inj ev
    exact ⟨_, by assumption, .inr rfl⟩
  · cases ev
end
end Mi

namespace Mi
open PySem PySem.Spec PyProof.Rows L2

section
variable {T : Tb} {w : World} {F : Fn} {k : Nat} {S : Sig} {N : List Str}
theorem an_lt {S : Sig} {f : Nat} {y : Str} (h : S.an[f]? = some y) : f < S.an.length := (List.getElem?_eq_some_iff.mp h).1
/-- the parts of a comprehension -/
structure CompOk (T : Tb) (w : World) (F : Fn) (X : Cx) (N : List Str) (tg : Tg) (it elt : Ex) (ifs : List Ex) (own : List Nat) (tg' it' : Expr) (ifs' : List Expr) (el : Expr) (scope : Scope) : Prop where
  ok : BlkOk X.N X.env.scope scope (ownOf N own)
  own : ∀ i ∈ tgN tg, i ∈ own
  hi : PI X tg' it' (tIi T w F it)
  hg : ∀ (s : Shared) (H : Hp) (C : Addr) (cl : List (Str × Addr)) (fp : List Addr), PG (X.blk s H scope (compEnvC scope cl C X.env) fp) tg' (tGt T w tg)
  ht : ∀ (s : Shared) (H : Hp) (C : Addr) (cl : List (Str × Addr)) (fp : List Addr), PTs (X.blk s H scope (compEnvC scope cl C X.env) fp) ifs' (tTs T w F ifs)
  he : ∀ (s : Shared) (H : Hp) (C : Addr) (cl : List (Str × Addr)) (fp : List Addr), PE (X.blk s H scope (compEnvC scope cl C X.env) fp) el (tE T w F elt)
  hs : ∀ x, foldedSetIterable it' X.env x = pure x
theorem ownOf_map {own : List Nat} : (ownOf N own).map (·.2) = own := by
  unfold ownOf
  rw [List.map_map]
  exact List.map_id _
theorem noSet_ok {x : Expr} (h : noSet x = true) (env : Env) : ∀ v, foldedSetIterable x env v = pure v := by
  intro v
  cases x <;> first | (cases h; done) | rfl
theorem CompOk.pe {X : Cx} {m : Bool} {tg : Tg} {it elt : Ex} {ifs : List Ex} {own : List Nat} {tg' it' el : Expr} {ifs' : List Expr} {scope : Scope} {pos : Pos} (hc : X.calm = true) (hN : X.N.Nodup) (c : CompOk T w F X N tg it elt ifs own tg' it' ifs' el scope) :
    PE X (.ListComp el [⟨tg', it', ifs', 0⟩] scope pos) (tE T w F (.comp m tg it ifs elt own)) := by
  have main := pe_lc (pos := pos) hc hN c.hi c.ok c.hg c.ht c.he c.hs
  rw [ownOf_map] at main
  exact PE.of main fun σ H Q h => comp_red c.own h
mutual
theorem mE_ok : ∀ {e : Ex} {x : Expr} {X : Cx} {ws : Scope}, CO T w F k S N X ws → mE S N ws e x = true → Good T w F X e x
  | .var i, x, X, ws, c, h => by
    simp only [mE] at h
    split at h
    · obtain ⟨h1, h2, h3, h4⟩ := c.var h
      exact .val c (e_var h1 h2 h3 h4) (fun _ => rfl) (fun _ _ _ z => nomatch z)
    · cases h
  | .non, x, X, ws, c, h => by
    simp only [mE] at h
    split at h
    · exact .val c (e_const (m := .non) pe_non (fun _ _ => by simp only [evE]) fun _ _ _ => .non) (fun _ => rfl) (fun _ _ _ z => nomatch z)
    · cases h
  | .bl b, x, X, ws, c, h => by
    simp only [mE] at h
    split at h
    · rename_i b' _ _
      have h := of_decide_eq_true h
      subst h
      exact .val c (e_const (m := .bl b) pe_bl (fun _ _ => by simp only [evE]) fun _ _ _ => .bl b) (fun _ => rfl) (fun _ _ _ z => nomatch z)
    · cases h
  | .int b, x, X, ws, c, h => by
    simp only [mE] at h
    split at h
    · rename_i b' _ _
      have h := of_decide_eq_true h
      subst h
      exact .val c (e_const (m := .int b) pe_int (fun _ _ => by simp only [evE]) fun _ _ _ => .int b) (fun _ => rfl) (fun _ _ _ z => nomatch z)
    · cases h
  | .str b, x, X, ws, c, h => by
    simp only [mE] at h
    split at h
    · rename_i b' _ _
      have h := of_decide_eq_true h
      subst h
      exact .val c (e_const (m := .str b) pe_str (fun _ _ => by simp only [evE]) fun _ _ _ => .str b) (fun _ => rfl) (fun _ _ _ z => nomatch z)
    · cases h
  | .glb j, x, X, ws, c, h => by
    simp only [mE] at h
    split at h
    · rename_i y pos
      obtain ⟨h1, h2, h3, _⟩ := c.glb h
      refine .val c ?_ (fun _ => rfl) (fun _ _ _ z => nomatch z)
      refine ⟨fun pins s σ H Q I q => ?_⟩
      obtain ⟨Av, β, hm, σm, v, hm', g, ev, kk⟩ := q
      simp only [evE] at ev
      split at ev
      · rename_i m hj
        obtain ⟨rfl, rfl⟩ := out_inj ev
        obtain ⟨z, u, e1, e2, e3⟩ := c.st.glo j m y hj h1
        exact (pe_glob (pos := pos) h2 (by rw [c.hmg]; exact e1) e2 h3).run pins s σ H Q I (kk.same g.hr (e3 _ _ _))
      · cases ev
    · cases h
  | .bin o a b, x, X, ws, c, h => by
    simp only [mE] at h
    split at h
    · simp only [Bool.and_eq_true, decide_eq_true_eq] at h
      obtain ⟨rfl, ha, hb⟩ := h
      exact .val c (e_bin c.hK (mE_ok c ha).pe (mE_ok c hb).pe) (fun _ => rfl) (fun _ _ _ z => nomatch z)
    · cases h
  | .neg a, x, X, ws, c, h => by
    simp only [mE] at h
    split at h
    · exact .val c (e_neg (mE_ok c h).pe) (fun _ => rfl) (fun _ _ _ z => nomatch z)
    · cases h
  | .cmp o a b, x, X, ws, c, h => by
    simp only [mE] at h
    split at h
    · simp only [Bool.and_eq_true, decide_eq_true_eq, Bool.not_eq_true'] at h
      obtain ⟨rfl, hm, ha, hb⟩ := h
      exact ⟨e_cmp c.hK c.hw c.st.kd c.u65 (mE_ok c ha).pe (mE_ok c hb).pe hm, fun _ => t_cmp c.hK c.hw c.st.kd c.u65 (mE_ok c ha).pe (mE_ok c hb).pe hm, fun _ _ _ z => nomatch z⟩
    · cases h
  | .isN a, x, X, ws, c, h => by
    simp only [mE] at h
    split at h
    · exact ⟨e_isN (mE_ok c h).pe, fun _ => t_isN (mE_ok c h).pe, fun _ _ _ z => nomatch z⟩
    · cases h
  | .notN a, x, X, ws, c, h => by
    simp only [mE] at h
    split at h
    · exact ⟨e_notN (mE_ok c h).pe, fun _ => t_notN (mE_ok c h).pe, fun _ _ _ z => nomatch z⟩
    · cases h
  | .chn o o' a b d, x, X, ws, c, h => by
    simp only [mE] at h
    split at h
    · simp only [Bool.and_eq_true, decide_eq_true_eq, Bool.not_eq_true'] at h
      obtain ⟨rfl, rfl, hm, ha, hb, hd⟩ := h
      exact ⟨e_chn c.hK c.u64 (mE_ok c ha).pe (mE_ok c hb).pe (mE_ok c hd).pe hm, fun _ => t_chn c.hK c.u64 (mE_ok c ha).pe (mE_ok c hb).pe (mE_ok c hd).pe hm, fun _ _ _ z => nomatch z⟩
    · cases h
  | .and a b, x, X, ws, c, h => by
    simp only [mE] at h
    split at h
    · rename_i p q rest pos
      simp only [Bool.and_eq_true] at h
      obtain ⟨h1, ha, h2⟩ := h
      have A := mE_ok c ha
      have B : PE X (.BoolOp .And (q :: rest) pos) (tE T w F b) ∧ PW X (.BoolOp .And (q :: rest) pos) (tT T w F b) := by
        cases rest with
        | nil =>
          simp only [Bool.and_eq_true] at h2
          have B := mE_ok c h2.2
          exact ⟨pe_one B.pe, pw_and1 (B.pt h2.1)⟩
        | cons r rest =>
          have B := mE_ok c h2
          exact ⟨B.pe, B.pw _ _ _ rfl⟩
      have W := w_and (A.pt h1) B.2
      exact ⟨e_and c.hK A.pe B.1, fun _ => W.pt, fun _ _ _ _ => W⟩
    · cases h
  | .or a b, x, X, ws, c, h => by
    simp only [mE] at h
    split at h
    · rename_i p q rest pos
      simp only [Bool.and_eq_true] at h
      obtain ⟨h1, ha, h2⟩ := h
      have A := mE_ok c ha
      have B : PE X (.BoolOp .Or (q :: rest) pos) (tE T w F b) ∧ PW X (.BoolOp .Or (q :: rest) pos) (tT T w F b) := by
        cases rest with
        | nil =>
          simp only [Bool.and_eq_true] at h2
          have B := mE_ok c h2.2
          exact ⟨pe_one B.pe, pw_or1 (B.pt h2.1)⟩
        | cons r rest =>
          have B := mE_ok c h2
          exact ⟨B.pe, B.pw _ _ _ rfl⟩
      have W := w_or (A.pt h1) B.2
      exact ⟨e_or c.hK A.pe B.1, fun _ => W.pt, fun _ _ _ _ => W⟩
    · cases h
  | .not a, x, X, ws, c, h => by
    simp only [mE] at h
    split at h
    · simp only [Bool.and_eq_true] at h
      exact ⟨e_not c.hK (mE_ok c h.2).pe, fun _ => t_not ((mE_ok c h.2).pt h.1), fun _ _ _ z => nomatch z⟩
    · cases h
  | .ife d a b, x, X, ws, c, h => by
    simp only [mE] at h
    split at h
    · simp only [Bool.and_eq_true] at h
      exact ⟨e_ife ((mE_ok c h.2.1).pt h.1) (mE_ok c h.2.2.1).pe (mE_ok c h.2.2.2).pe, fun z => (nomatch z), fun _ _ _ z => nomatch z⟩
    · cases h
  | .tup l, x, X, ws, c, h => by
    simp only [mE] at h
    split at h
    · simp only [Bool.and_eq_true, decide_eq_true_eq] at h
      exact .val c (e_tup (mL_ok c h.2.2 h.2.1) h.1) (fun _ => rfl) (fun _ _ _ z => nomatch z)
    · cases h
  | .lst m l, x, X, ws, c, h => by
    simp only [mE] at h
    split at h
    · simp only [Bool.and_eq_true, decide_eq_true_eq] at h
      exact .val c (e_lst (mL_ok c h.2.2 h.2.1) h.1) (fun _ => rfl) (fun _ _ _ z => nomatch z)
    · cases h
  | .idx a b, x, X, ws, c, h => by
    simp only [mE] at h
    split at h
    · rename_i p q pos
      simp only [Bool.and_eq_true] at h
      have pl : PlainIx q := fun o i => by
        have h1 := h.1
        cases q <;> first | (cases h1; done) | rfl
      exact .val c (e_idx c.hK c.hw c.st.kd c.u65 (mE_ok c h.2.1).pe (mE_ok c h.2.2).pe pl) (fun _ => rfl) (fun _ _ _ z => nomatch z)
    · cases h
  | .slc a lo hi, x, X, ws, c, h => by
    simp only [mE] at h
    split at h
    · simp only [Bool.and_eq_true] at h
      exact .val c (e_slc c.hK (mE_ok c h.1).pe (mO_ok c h.2.1) (mO_ok c h.2.2)) (fun _ => rfl) (fun _ _ _ z => nomatch z)
    · cases h
  | .rev _, x, X, ws, c, h => by simp only [mE] at h; cases h
  | .call j l, x, X, ws, c, h => by
    simp only [mE] at h
    split at h
    · rename_i y np es pos
      simp only [Bool.and_eq_true] at h
      obtain ⟨h1, h2, h3⟩ := h
      obtain ⟨hj, hg, hd, he0⟩ := c.glb h1
      obtain ⟨q, r, rfl, hf, _⟩ := call_cons h2
      have A := mL_ok c h3 hf
      refine .val c ?_ (fun _ => rfl) (fun _ _ _ z => nomatch z)
      cases hdef : T.G.defs[j]? with
      | some d => exact e_call c.hK c.hmg c.hw hdef (c.ca.def_ j d hdef) (c.roo.mono (Nat.le_succ _)) (c.ca.len j d hdef) hg (c.st.dnm j y hj he0) hd A hf
      | none =>
        refine ⟨fun pins s σ H Q I qq => ?_⟩
        obtain ⟨Av, β, hm, σm, v, hm', g, ev, kk⟩ := qq
        simp only [evE] at ev
        (split at ev; (case h_2 => cases ev); rename_i vs h1 e1)
        simp only [callD, hdef] at ev
        cases ev
    · cases h
  | .callK j ks l, x, X, ws, c, h => by
    simp only [mE] at h
    split at h
    · rename_i y np es kws pos
      simp only [Bool.and_eq_true, decide_eq_true_eq] at h
      obtain ⟨h1, hf, hn, hk, h3⟩ := h
      obtain ⟨hj, hg, hd, he0⟩ := c.glb h1
      obtain ⟨l1, l2, rfl, e1, A, K, e2⟩ := mLK_ok c h3 hf
      refine .val c ?_ (fun _ => rfl) (fun _ _ _ z => nomatch z)
      cases hdef : T.G.defs[j]? with
      | some d => exact e_callK c.hK c.hmg c.hw hdef (c.ca.def_ j d hdef) (c.roo.mono (Nat.le_succ _)) (by rw [e1]; exact hk) hn (by rw [e2]; have := congrArg List.length hn; simpa using this.symm) hg (c.st.dnm j y hj he0) hd A K hf e1.symm
      | none =>
        refine ⟨fun pins s σ H Q I qq => ?_⟩
        obtain ⟨Av, β, hm, σm, v, hm', g, ev, kk⟩ := qq
        simp only [evE] at ev
        (split at ev; (case h_2 => cases ev); rename_i vs h1 e1)
        simp only [callD, hdef] at ev
        cases ev
    · cases h
  | .callV i l, x, X, ws, c, h => by
    simp only [mE] at h
    split at h
    · rename_i y np es pos
      simp only [Bool.and_eq_true] at h
      obtain ⟨h1, h2, h3⟩ := h
      obtain ⟨hN, hv, hd, hcd⟩ := c.var h1
      obtain ⟨q, r, rfl, hf, _⟩ := call_cons h2
      exact .val c (e_callV c.hK c.hmg c.hw c.ca.def_ (c.roo.mono (Nat.le_succ _)) c.ca.len hN hv hd hcd (mL_ok c h3 hf) hf) (fun _ => rfl) (fun _ _ _ z => nomatch z)
    · cases h
  | .blt b l, x, X, ws, c, h => by
    simp only [mE] at h
    split at h
    · rename_i y np es pos
      simp only [Bool.and_eq_true, decide_eq_true_eq] at h
      obtain ⟨rfl, hg, h2, h3⟩ := h
      obtain ⟨q, r, rfl, hf, _⟩ := call_cons h2
      exact .val c (e_blt c.hK c.hw c.calm c.roo.gd c.u66 (c.glo hg) (c.free (bname_mem b)) (mL_ok c h3 hf) hf) (fun _ => rfl) (fun _ _ _ z => nomatch z)
    · cases h
  | .isi a t, x, X, ws, c, h => by
    simp only [mE] at h
    split at h
    · simp only [Bool.and_eq_true, decide_eq_true_eq] at h
      obtain ⟨rfl, hg, rfl, hgt, hf, ha⟩ := h
      exact .val c (e_isi c.hK (mE_ok c ha).pe hf (c.glo hg) (c.free (by decide +kernel)) (c.glo hgt) (c.free (tname_mem t)) rfl) (fun _ => rfl) (fun _ _ _ z => nomatch z)
    · cases h
  | .mth m o l, x, X, ws, c, h => by
    simp only [mE] at h
    split at h
    · rename_i p y apos es cpos
      simp only [Bool.and_eq_true, decide_eq_true_eq] at h
      obtain ⟨rfl, hl, hb, ho, h3⟩ := h
      have O := (mE_ok c ho).pe
      refine .val c ?_ (fun _ => rfl) (fun _ _ _ z => nomatch z)
      cases m with
      | append =>
        simp only [Bool.and_eq_true] at h3
        obtain ⟨q, r, rfl, hf, hn⟩ := call_cons h3.1
        exact e_mthL (.inl rfl) O (mL_ok c h3.2 hf) hb hf hn hl
      | extend =>
        simp only [Bool.and_eq_true] at h3
        obtain ⟨q, r, rfl, hf, hn⟩ := call_cons h3.1
        exact e_mthL (.inr rfl) O (mL_ok c h3.2 hf) hb hf hn hl
      | get =>
        simp only [Bool.and_eq_true] at h3
        obtain ⟨q, r, rfl, hf, hn⟩ := call_cons h3.1
        exact e_get c.hK c.hw c.u66 O (mL_ok c h3.2 hf) hb hf hn hl
      | pop =>
        cases l with
        | nil =>
          have he := List.isEmpty_iff.mp h3
          subst he
          exact e_pop O hb hl
        | cons a l => cases h3
    · cases h
  | .fld o f, x, X, ws, c, h => by
    simp only [mE] at h
    split at h
    · simp only [Bool.and_eq_true, decide_eq_true_eq] at h
      obtain ⟨hy, hb, ho⟩ := h
      exact .val c (e_fld c.hK c.st.inj c.st.cs (an_lt hy) (c.st.anm _ _ hy) (mE_ok c ho).pe hb) (fun _ => rfl) (fun _ _ _ z => nomatch z)
    · cases h
  | .new d l, x, X, ws, c, h => by
    simp only [mE] at h
    split at h
    · rename_i y np es pos
      simp only [Bool.and_eq_true] at h
      obtain ⟨h1, h2, h3⟩ := h
      obtain ⟨hj, hg, hd, he0⟩ := c.glb h1
      obtain ⟨q, r, rfl, hf, _⟩ := call_cons h2
      have A := mL_ok c h3 hf
      refine .val c ?_ (fun _ => rfl) (fun _ _ _ z => nomatch z)
      cases hcl : T.G.cls[d]? with
      | some cl => exact e_new c.hK c.hmg c.hw hcl (c.ca.mkc d cl hcl) c.roo hg (c.st.cnm d y hj) hd A hf
      | none =>
        refine ⟨fun pins s σ H Q I qq => ?_⟩
        obtain ⟨Av, β, hm, σm, v, hm', g, ev, kk⟩ := qq
        simp only [evE] at ev
        (split at ev; (case h_2 => cases ev); rename_i vs h1 e1)
        simp only [newO, hcl] at ev
        cases ev
    · cases h
  | .comp m tg it ifs elt own, x, X, ws, c, h => by
    have hh := h
    simp only [mE] at h
    split at h
    · simp only [Bool.and_eq_true, decide_eq_true_eq, List.all_eq_true] at h
      obtain ⟨rfl, hblk, hown, hg, hset, hit, hif, hel⟩ := h
      have bk := c.blkOk hblk
      have CI : CompOk T w F X N tg it elt ifs own _ _ _ _ _ := ⟨bk, hown, by
        split at hit
        · exact mI_ok c hit
        · rename_i hs
          exact i_val c.hK (mE_ok c hit).pe fun _ _ _ _ => evI_gen hs, fun s H C cl fp => mG_ok (c.blk bk.kind s H C cl fp) hg, fun s H C cl fp => mF_ok (c.blk bk.kind s H C cl fp) hif, fun s H C cl fp => (mE_ok (c.blk bk.kind s H C cl fp) hel).pe, noSet_ok hset _⟩
      exact .val c (CI.pe c.calm (by rw [c.hN]; exact c.nd)) (fun _ => rfl) (fun _ _ _ z => nomatch z)
    · cases h
  | .dic0, x, X, ws, c, h => by
    simp only [mE] at h
    split at h
    · exact .val c e_dic0 (fun _ => rfl) (fun _ _ _ z => nomatch z)
    · cases h
  | .dic1 a b, x, X, ws, c, h => by
    simp only [mE] at h
    split at h
    · simp only [Bool.and_eq_true] at h
      exact .val c (e_dic1 c.hK c.hw c.u66 (mE_ok c h.1).pe (mE_ok c h.2).pe) (fun _ => rfl) (fun _ _ _ z => nomatch z)
    · cases h
  | .frz a, x, X, ws, c, h => by
    simp only [mE] at h
    rw [Bool.and_eq_true] at h
    have A := e_frz (mE_ok c h.2).pe
    have h1 := h.1
    cases x with
    | Name y p => exact .val c A (fun _ => rfl) (fun _ _ _ z => nomatch z)
    | _ => cases h1
  | .rng1 _, x, X, ws, c, h => by simp only [mE] at h; cases h
  | .rng2 _ _, x, X, ws, c, h => by simp only [mE] at h; cases h
  | .rngd _ _, x, X, ws, c, h => by simp only [mE] at h; cases h
  | .enm _, x, X, ws, c, h => by simp only [mE] at h; cases h
theorem mL_ok : ∀ {l : List Ex} {es : List Expr} {X : Cx} {ws : Scope}, CO T w F k S N X ws → mL S N ws l es = true → es.all flatE = true → PA X es (tAs T w F l)
  | [], es, X, ws, c, h, _ => by
    simp only [mL] at h
    split at h
    · exact a_nil
    · cases h
  | a :: l, es, X, ws, c, h, hf => by
    simp only [mL] at h
    split at h
    · cases h
    · rw [Bool.and_eq_true] at h
      rw [List.all_cons, Bool.and_eq_true] at hf
      exact a_cons (mE_ok c h.1).pe (mL_ok c h.2 hf.2) (star1 hf.1 _ _)
theorem mLK_ok : ∀ {l : List Ex} {es : List Expr} {kws : List Keyword} {X : Cx} {ws : Scope}, CO T w F k S N X ws → mLK S N ws l es kws = true → es.all flatE = true →
    ∃ l1 l2, l = l1 ++ l2 ∧ l1.length = es.length ∧ PA X es (tAs T w F l1) ∧ PK X kws (tAs T w F l2) ∧ l2.length = kws.length
  | [], es, kws, X, ws, c, h, _ => by
    simp only [mLK] at h
    split at h
    · exact ⟨[], [], rfl, rfl, a_nil, k_nil, rfl⟩
    · cases h
  | a :: l, es, kws, X, ws, c, h, hf => by
    simp only [mLK] at h
    split at h
    · rw [Bool.and_eq_true] at h
      rw [List.all_cons, Bool.and_eq_true] at hf
      obtain ⟨l1, l2, rfl, e1, A, K, e2⟩ := mLK_ok c h.2 hf.2
      exact ⟨a :: l1, l2, rfl, by rw [List.length_cons, e1, List.length_cons], a_cons (mE_ok c h.1).pe A (star1 hf.1 _ _), K, e2⟩
    · split at h
      · rw [Bool.and_eq_true] at h
        obtain ⟨l1, l2, rfl, e1, A, K, e2⟩ := mLK_ok c h.2 rfl
        have l1n : l1 = [] := List.length_eq_zero_iff.mp e1
        subst l1n
        exact ⟨[], a :: l2, rfl, rfl, a_nil, k_cons (mE_ok c h.1).pe K, by rw [List.length_cons, e2, List.length_cons]⟩
      · cases h
theorem mO_ok : ∀ {e : Option Ex} {x : Option Expr} {X : Cx} {ws : Scope}, CO T w F k S N X ws → mO S N ws e x = true → PO X x (tOo T w F e)
  | none, x, X, ws, c, h => by
    simp only [mO] at h
    split at h
    · exact o_none
    · cases h
  | some e, x, X, ws, c, h => by
    simp only [mO] at h
    split at h
    · cases h
    · exact o_some (mE_ok c h).pe
theorem mI_ok : ∀ {e : Ex} {tg x : Expr} {X : Cx} {ws : Scope}, CO T w F k S N X ws → mI S N ws e tg x = true → PI X tg x (tIi T w F e)
  | .rng1 a, tg, x, X, ws, c, h => by
    simp only [mI] at h
    split at h
    · simp only [Bool.and_eq_true, decide_eq_true_eq] at h
      obtain ⟨rfl, hg, hf, ha⟩ := h
      exact i_rng1 (c.glo hg) (c.free (by decide +kernel)) (mE_ok c ha).pe hf
    · cases h
  | .rng2 a b, tg, x, X, ws, c, h => by
    simp only [mI] at h
    split at h
    · simp only [Bool.and_eq_true, decide_eq_true_eq] at h
      obtain ⟨rfl, hg, hf, hf2, ha, hb⟩ := h
      exact i_rng2 (c.glo hg) (c.free (by decide +kernel)) (mE_ok c ha).pe (mE_ok c hb).pe hf hf2
    · cases h
  | .enm a, tg, x, X, ws, c, h => by
    simp only [mI] at h
    split at h
    · simp only [Bool.and_eq_true, decide_eq_true_eq] at h
      obtain ⟨rfl, hg, hf, ha, ht⟩ := h
      cases tg with
      | Tuple es kk tp => exact i_enm c.hK (c.glo hg) (c.free (by decide +kernel)) (mE_ok c ha).pe hf
      | _ => cases ht
    · cases h
  | .var _, tg, x, X, ws, c, h => by simp only [mI] at h; cases h
  | .non, tg, x, X, ws, c, h => by simp only [mI] at h; cases h
  | .bl _, tg, x, X, ws, c, h => by simp only [mI] at h; cases h
  | .int _, tg, x, X, ws, c, h => by simp only [mI] at h; cases h
  | .str _, tg, x, X, ws, c, h => by simp only [mI] at h; cases h
  | .glb _, tg, x, X, ws, c, h => by simp only [mI] at h; cases h
  | .bin _ _ _, tg, x, X, ws, c, h => by simp only [mI] at h; cases h
  | .neg _, tg, x, X, ws, c, h => by simp only [mI] at h; cases h
  | .cmp _ _ _, tg, x, X, ws, c, h => by simp only [mI] at h; cases h
  | .isN _, tg, x, X, ws, c, h => by simp only [mI] at h; cases h
  | .notN _, tg, x, X, ws, c, h => by simp only [mI] at h; cases h
  | .chn _ _ _ _ _, tg, x, X, ws, c, h => by simp only [mI] at h; cases h
  | .and _ _, tg, x, X, ws, c, h => by simp only [mI] at h; cases h
  | .or _ _, tg, x, X, ws, c, h => by simp only [mI] at h; cases h
  | .not _, tg, x, X, ws, c, h => by simp only [mI] at h; cases h
  | .ife _ _ _, tg, x, X, ws, c, h => by simp only [mI] at h; cases h
  | .tup _, tg, x, X, ws, c, h => by simp only [mI] at h; cases h
  | .lst _ _, tg, x, X, ws, c, h => by simp only [mI] at h; cases h
  | .idx _ _, tg, x, X, ws, c, h => by simp only [mI] at h; cases h
  | .slc _ _ _, tg, x, X, ws, c, h => by simp only [mI] at h; cases h
  | .rev _, tg, x, X, ws, c, h => by simp only [mI] at h; cases h
  | .call _ _, tg, x, X, ws, c, h => by simp only [mI] at h; cases h
  | .callK _ _ _, tg, x, X, ws, c, h => by simp only [mI] at h; cases h
  | .callV _ _, tg, x, X, ws, c, h => by simp only [mI] at h; cases h
  | .blt _ _, tg, x, X, ws, c, h => by simp only [mI] at h; cases h
  | .isi _ _, tg, x, X, ws, c, h => by simp only [mI] at h; cases h
  | .mth _ _ _, tg, x, X, ws, c, h => by simp only [mI] at h; cases h
  | .fld _ _, tg, x, X, ws, c, h => by simp only [mI] at h; cases h
  | .new _ _, tg, x, X, ws, c, h => by simp only [mI] at h; cases h
  | .comp _ _ _ _ _ _, tg, x, X, ws, c, h => by simp only [mI] at h; cases h
  | .dic0, tg, x, X, ws, c, h => by simp only [mI] at h; cases h
  | .dic1 _ _, tg, x, X, ws, c, h => by simp only [mI] at h; cases h
  | .rngd _ _, tg, x, X, ws, c, h => by simp only [mI] at h; cases h
  | .frz _, tg, x, X, ws, c, h => by simp only [mI] at h; cases h
theorem mF_ok : ∀ {l : List Ex} {es : List Expr} {X : Cx} {ws : Scope}, CO T w F k S N X ws → mF S N ws l es = true → PTs X es (tTs T w F l)
  | [], es, X, ws, c, h => by
    simp only [mF] at h
    split at h
    · exact ts_nil
    · cases h
  | a :: l, es, X, ws, c, h => by
    simp only [mF] at h
    split at h
    · rw [Bool.and_eq_true] at h
      exact ts_one ((mE_ok c h.2).pt h.1)
    · cases h
end
end
end Mi

namespace Mi
open PySem PySem.Spec PyProof.Rows L2

def isLoc (ws : Scope) (y : Str) : Bool := match ws.names.lookup y with
  | some .local => true
  | _ => false
def swB (ws : Scope) (y : Str) (py : Pos) (x : Expr) : Bool := match x with
  | .ListComp _ _ sc pos => isLoc ws y && (py.line == pos.line && !(sc.names.any fun (n, k) => n == y && (k == .local || k == .cell)))
  | _ => false
def noSD : Expr → Bool
  | .SetComp .. => false | .DictComp .. => false
  | _ => true
def noTup : Expr → Bool
  | .Tuple .. => false
  | _ => true
def isComp : Ex → Bool
  | .comp .. => true
  | _ => false
/-- the stores go from the left -/
def strB (x : Expr) : Bool := match x with
  | .Tuple vs _ _ => vs.all (foldedForSure 8)
  | _ => true
def augB (o : Bop) (op : Operator) : Bool := match o, op with
  | .add, .Add => true | .sub, .Sub => true
  | _, _ => false
section
variable (S : Sig) (N : List Str) (ws : Scope)
mutual
def mS (s : Sx) (p : Stmt) : Bool := match s with
  | .expr e => match p with
    | .Expr x _ => noComp x && mE S N ws e x
    | _ => false
  | .set i e => match p with
    | .Assign [.Name y py] x _ => tgtB N ws i y && (mE S N ws e x && (match swB ws y py x with
      | true => isComp e
      | false => noSD x))
    | _ => false
  | .unp t e => match p with
    | .Assign [.Tuple es kk tp] x _ => noComp x && (strB x && (mE S N ws e x && mG N ws t (.Tuple es kk tp)))
    | _ => false
  | .par i j a b => match p with
    | .Assign [.Tuple [.Name y py, .Name z pz] _ _] (.Tuple [p, q] _ _) _ => tgtB N ws i y && (tgtB N ws j z && (decide (i ≠ j) && (isLoc ws y && (isLoc ws z && ((py.line == pz.line) && (!(y == z) && (flatE p && (flatE q &&
      (!(foldedForSure 8 p && foldedForSure 8 q) && (!(constantsAlone 8 p && constantsAlone 8 q) && (mE S N ws a p && mE S N ws b q)))))))))))
    | _ => false
  | .sub o i e => match p with
    | .Assign [.Subscript p q _] x _ => noComp x && (plainB q && (mE S N ws e x && (mE S N ws o p && mE S N ws i q)))
    | _ => false
  | .subn o i j e => match p with
    | .Assign [.Tuple [.Subscript p q _, .Name y _] _ _] x _ => noComp x && (noTup x && (plainB q && (tgtB N ws j y && (mE S N ws e x && (mE S N ws o p && mE S N ws i q)))))
    | _ => false
  | .fld o f e => match p with
    | .Assign [.Attribute p y _] x _ => noComp x && (decide (S.an[f]? = some y) && (mE S N ws e x && mE S N ws o p))
    | _ => false
  | .aug i o e => match p with
    | .AugAssign (.Name y _) op x _ => tgtB N ws i y && (augB o op && mE S N ws e x)
    | _ => false
  | .ifs c a b => match p with
    | .If x as bs _ => tstB x && (mE S N ws c x && (mSs a as && mSs b bs))
    | _ => false
  | .whl c b => match p with
    | .While x bs [] _ => tstB x && (mE S N ws c x && mSs b bs)
    | _ => false
  | .for_ t it b => match p with
    | .For tg x bs [] _ => mG N ws t tg && (noSet x && ((match specB it with | true => mI S N ws it tg x | false => mE S N ws it x) && mSs b bs))
    | _ => false
  | .ret e => match p with
    | .Return (some x) _ => mE S N ws e x
    | _ => false
  | .retn => match p with
    | .Return none _ => true
    | _ => false
  | .brk => match p with
    | .Break _ => true
    | _ => false
  | .cnt => match p with
    | .Continue _ => true
    | _ => false
  | .pass => match p with
    | .Pass _ => true
    | _ => false
def mSs (l : List Sx) (ps : List Stmt) : Bool := match l with
  | [] => match ps with
    | [] => true
    | _ => false
  | s :: l => match ps with
    | [] => false
    | p :: ps => mS s p && mSs l ps
end
def undoc : List Stmt → List Stmt
  | .Expr (.Constant (.str _) _ _) _ :: ps => ps
  | ps => ps
def mB (l : List Sx) (ps : List Stmt) : Bool := mSs S N ws l (undoc ps)
end
theorem sw_no {x : Expr} (h : noComp x = true) (t : Option Expr) (l : Nat) (env : Env) : swapsWith x t l env = pure false := by
  cases x <;> first | (cases h; done) | rfl
theorem sws_no {x t : Expr} (h : noComp x = true) (l : Nat) (env : Env) : swapsWithSole [t] x l env = pure false := by
  cases x <;> first | (cases h; done) | rfl
theorem swst_no {x : Expr} (h : noTup x = true) (t : Expr) (env : Env) : swappedStores [t] x env = pure none := by
  cases x <;> first | (cases h; done) | (cases t <;> rfl)
section
variable {T : Tb} {w : World} {F : Fn} {k : Nat} {S : Sig} {N : List Str} {X : Cx} {ws : Scope} {W : Nat}
theorem CO.bk (c : CO T w F k S N X ws) : X.env.blockKind = .function := by
  unfold Env.blockKind
  rw [c.kind]
  rfl
theorem sw_eq (c : CO T w F k S N X ws) {i : Nat} {y : Str} {py : Pos} {x : Expr} (h : tgtB N ws i y = true) (hn : noSD x = true) (l : Nat) : swapsWith x (some (.Name y py)) l X.env = pure (swB ws y py x) := by
  cases x with
  | ListComp el gs sc pos =>
    have hb := c.bk
    have hk : isLoc ws y = true ∧ X.env.kindOf y = some .local ∨ isLoc ws y = false ∧ X.env.kindOf y = some .cell := by
      unfold tgtB locB at h
      simp only [Bool.and_eq_true] at h
      have h2 := h.2
      unfold isLoc
      split at h2
      · rename_i e
        rw [e]
        exact .inl ⟨rfl, c.loc y e⟩
      · rename_i e
        rw [e]
        exact .inr ⟨rfl, (c.cel y e).1⟩
      · cases h2
    unfold swapsWith swB
    rcases hk with ⟨e1, e2⟩ | ⟨e1, e2⟩
    · simp only [hb, e2, e1, Expr.pos, Bool.true_and]
      rfl
    · simp only [hb, e2, e1, Expr.pos, Bool.false_and]
      rfl
  | SetComp _ _ _ _ => cases hn
  | DictComp _ _ _ _ _ => cases hn
  | _ => rfl
theorem comp_ok (c : CO T w F k S N X ws) {m : Bool} {tg : Tg} {it elt : Ex} {ifs : List Ex} {own : List Nat} {x : Expr} (h : mE S N ws (.comp m tg it ifs elt own) x = true) : ∃ el tg' it' ifs' scope pos, x = .ListComp el [⟨tg', it', ifs', 0⟩] scope pos ∧ CompOk T w F X N tg it elt ifs own tg' it' ifs' el scope := by
  simp only [mE] at h
  split at h
  · simp only [Bool.and_eq_true, decide_eq_true_eq, List.all_eq_true] at h
    obtain ⟨rfl, hblk, hown, hg, hset, hit, hif, hel⟩ := h
    have bk := c.blkOk hblk
    refine ⟨_, _, _, _, _, _, rfl, bk, hown, ?_, fun s H C cl fp => mG_ok (c.blk bk.kind s H C cl fp) hg, fun s H C cl fp => mF_ok (c.blk bk.kind s H C cl fp) hif, fun s H C cl fp => (mE_ok (c.blk bk.kind s H C cl fp) hel).pe, noSet_ok hset _⟩
    split at hit
    · exact mI_ok c hit
    · rename_i hs
      exact i_val c.hK (mE_ok c hit).pe fun _ _ _ _ => evI_gen hs
  · cases h
theorem asgSub {p q : Expr} {sp : Pos} (h : plainB q = true) (env : Env) (v : Value) : assign (.Subscript p q sp) env v = (do
      let ov ← holding [v] (eval p env)
      let iv ← holding [v, ov] (eval q env)
      standAt sp
      holding [v, ov, iv] (setItem ov iv v)
      release [v, ov, iv] []) := by
  cases q <;> first | (cases h; done) | rfl
theorem swst_str {x : Expr} (h : strB x = true) (es : List Expr) (kk : Nat) (tp : Pos) (env : Env) : swappedStores [.Tuple es kk tp] x env = pure none := by
  cases x with
  | Tuple vs k2 p2 =>
    have h : vs.all (foldedForSure 8) = true := h
    unfold swappedStores
    simp only [h]
    split
    · rfl
    · split
      · rfl
      · split
        · rfl
        · rfl
  | _ => rfl
end
end Mi

namespace Mi
open PySem PySem.Spec PyProof.Rows L2

section
variable {T : Tb} {w : World} {F : Fn} {k : Nat} {S : Sig} {N : List Str} {X : Cx} {ws : Scope} {W : Nat}
theorem noStar2 {p q : Expr} (hp : flatE p = true) (hq : flatE q = true) : ([p, q].any fun | .Starred .. => true | _ => false) = false := by
  cases p <;> first | (cases hp; done) | (cases q <;> first | (cases hq; done) | rfl)
theorem isLoc_k (c : CO T w F k S N X ws) {y : Str} (h : isLoc ws y = true) : X.env.kindOf y = some .local := by
  unfold isLoc at h
  split at h
  · exact c.loc y (by assumption)
  · cases h
theorem swst_par (c : CO T w F k S N X ws) {y z : Str} {py pz tp tp2 : Pos} {kt k2 : Nat} {p q : Expr} (hy : isLoc ws y = true) (hz : isLoc ws z = true) (hl : (py.line == pz.line) = true) (hyz : (y == z) = false) (hp : flatE p = true) (hq : flatE q = true)
    (h1 : (foldedForSure 8 p && foldedForSure 8 q) = false) (h2 : (constantsAlone 8 p && constantsAlone 8 q) = false) : swappedStores [.Tuple [.Name y py, .Name z pz] kt tp] (.Tuple [p, q] k2 tp2) X.env = pure (some [y, z]) := by
  have ky := isLoc_k c hy
  have kz := isLoc_k c hz
  have e1 : ([p, q].all (foldedForSure 8)) = false := by simpa [List.all_cons] using h1
  have e2 : ([p, q].all (constantsAlone 8)) = false := by simpa [List.all_cons] using h2
  have l1 : (pz.line == py.line) = true := by rw [beq_iff_eq] at hl ⊢; exact hl.symm
  have l2 : (py.line == py.line) = true := beq_self_eq_true _
  have hne : (z == y) = false := by
    rw [beq_eq_false_iff_ne] at hyz ⊢
    exact fun e => hyz e.symm
  have dd : [y, z].eraseDups = [y, z] := by simp [List.eraseDups_cons, hne]
  unfold swappedStores
  simp only [c.bk, noStar2 hp hq, e1, e2]
  simp only [List.head?_cons, Option.map_some, Option.getD_some, Expr.pos, List.filterMap_cons, List.filterMap_nil, ky, kz, l1, l2, beq_self_eq_true, Bool.and_self, if_true, dd]
  clear h1 h2 e1 e2
  cases p <;> first | (cases hp; done) | (cases q <;> first | (cases hq; done) | rfl)
theorem par_names (c : CO T w F k S N X ws) {i : Nat} {y : Str} (h : tgtB N ws i y = true) (hl : isLoc ws y = true) : X.N[i]? = some y ∧ X.env.scope.names.lookup y = some .local := ⟨(c.tgt h).1, isLoc_k c hl⟩
mutual
theorem mS_ok (c : CO T w F k S N X ws) (hx : X.xe = fun _ _ => False) : ∀ {s : Sx} {p : Stmt}, mS S N ws s p = true → PS X p (tSx T w F W s)
  | .expr e, p, h => by
    simp only [mS] at h
    split at h
    · rw [Bool.and_eq_true] at h
      exact s_expr (mE_ok c h.2).pe (sw_no h.1 _ _ _)
    · cases h
  | .set i e, p, h => by
    simp only [mS] at h
    split at h
    · rename_i y py x pos
      simp only [Bool.and_eq_true] at h
      obtain ⟨h1, h2, h3⟩ := h
      obtain ⟨hN, hl, hf⟩ := c.tgt h1
      have nd : X.N.Nodup := by rw [c.hN]; exact c.nd
      split at h3
      · rename_i hsw
        cases e with
        | comp m tg it ifs elt own =>
          obtain ⟨el, tg', it', ifs', scope, lpos, rfl, CK⟩ := comp_ok c h2
          have loc : X.env.scope.names.lookup y = some .local := by
            unfold swB at hsw
            rw [Bool.and_eq_true] at hsw
            exact isLoc_k c hsw.1
          have main := ps_setLc (pos := lpos) (spos := pos) (py := py) c.calm nd hN loc (by rw [sw_eq c h1 rfl, hsw]) CK.hi CK.ok CK.hg CK.ht CK.he CK.hs
          rw [ownOf_map] at main
          exact PS.of main fun D σ H q => set_red (fun _ _ _ z => comp_red CK.own z) q
        | _ => cases h3
      · rename_i hsw
        exact s_set nd hN hl hf (mE_ok c h2).pe (by rw [sw_eq c h1 h3, hsw])
    · cases h
  | .unp t e, p, h => by
    simp only [mS] at h
    split at h
    · simp only [Bool.and_eq_true] at h
      obtain ⟨h1, h2, h3, h4⟩ := h
      exact s_unp (mE_ok c h3).pe (mG_ok c h4) (sws_no h1 _ _) (swst_str h2 _ _ _ _)
    · cases h
  | .par i j a b, p, h => by
    simp only [mS] at h
    split at h
    · simp only [Bool.and_eq_true, decide_eq_true_eq, Bool.not_eq_true'] at h
      obtain ⟨h1, h2, hij, hy, hz, hl, hyz, hp, hq, hf, hk, ha, hb⟩ := h
      obtain ⟨n1, l1⟩ := par_names c h1 hy
      obtain ⟨n2, l2⟩ := par_names c h2 hz
      exact s_par c.calm (by rw [c.hN]; exact c.nd) n1 n2 hij l1 l2 (a_cons (mE_ok c ha).pe (a_cons (mE_ok c hb).pe a_nil (star1 hq _ _)) (star1 hp _ _)) (swst_par c hy hz hl hyz hp hq hf hk)
    · cases h
  | .sub o i e, p, h => by
    simp only [mS] at h
    split at h
    · simp only [Bool.and_eq_true] at h
      obtain ⟨h1, h2, h3, h4, h5⟩ := h
      exact s_sub c.hK c.hw c.u65 (mE_ok c h3).pe (mE_ok c h4).pe (mE_ok c h5).pe (asgSub h2 _) (sws_no h1 _ _)
    · cases h
  | .subn o i j e, p, h => by
    simp only [mS] at h
    split at h
    · simp only [Bool.and_eq_true] at h
      obtain ⟨h1, h2, h3, h4, h5, h6, h7⟩ := h
      obtain ⟨hN, hl, hf⟩ := c.tgt h4
      exact s_subn c.hK c.hw c.calm c.u65 (mE_ok c h5).pe (mE_ok c h6).pe (mE_ok c h7).pe (by rw [c.hN]; exact c.nd) hN hl hf (asgSub h3 _) (sws_no h1 _ _) (swst_no h2 _ _)
    · cases h
  | .fld o f e, p, h => by
    simp only [mS] at h
    split at h
    · simp only [Bool.and_eq_true, decide_eq_true_eq] at h
      obtain ⟨h1, h2, h3, h4⟩ := h
      exact s_fld c.hK c.st.inj c.st.cs (an_lt h2) (c.st.anm _ _ h2) (mE_ok c h3).pe (mE_ok c h4).pe (sw_no h1 _ _ _)
    · cases h
  | .aug i o e, p, h => by
    simp only [mS] at h
    split at h
    · rename_i y np op x pos
      simp only [Bool.and_eq_true] at h
      obtain ⟨h1, h2, h3⟩ := h
      obtain ⟨hN, hl, hf⟩ := c.tgt h1
      have E := (mE_ok c h3).pe
      have nd : X.N.Nodup := by rw [c.hN]; exact c.nd
      have ho : (o = .add ∧ op = .Add) ∨ (o = .sub ∧ op = .Sub) := by
        unfold augB at h2
        split at h2
        · exact .inl ⟨rfl, rfl⟩
        · exact .inr ⟨rfl, rfl⟩
        · cases h2
      exact s_aug ho nd hN hl hf E fun ti hp => ps_aug nd hN hl E hp hf
    · cases h
  | .ifs d a b, p, h => by
    simp only [mS] at h
    split at h
    · simp only [Bool.and_eq_true] at h
      obtain ⟨h1, h2, h3, h4⟩ := h
      exact s_ifs ((mE_ok c h2).pt h1) (mSs_ok c hx h3) (mSs_ok c hx h4)
    · cases h
  | .whl d b, p, h => by
    simp only [mS] at h
    split at h
    · simp only [Bool.and_eq_true] at h
      obtain ⟨h1, h2, h3⟩ := h
      exact s_whl (by rw [hx]; exact PassesOwn.never) ((mE_ok c h2).pt h1) (mSs_ok c hx h3)
    · cases h
  | .for_ t it b, p, h => by
    simp only [mS] at h
    split at h
    · rename_i tg x bs pos
      simp only [Bool.and_eq_true] at h
      obtain ⟨h1, h2, h3, h4⟩ := h
      have hi : PI X tg x (tIi T w F it) := by
        split at h3
        · exact mI_ok c h3
        · rename_i hs
          exact i_val c.hK (mE_ok c h3).pe fun _ _ _ _ => evI_gen hs
      exact s_for (by rw [hx]; exact PassesOwn.never) c.calm hi (mG_ok c h1) (mSs_ok c hx h4) (noSet_ok h2 _)
    · cases h
  | .ret e, p, h => by
    simp only [mS] at h
    split at h
    · exact s_ret (mE_ok c h).pe
    · cases h
  | .retn, p, h => by
    simp only [mS] at h
    split at h
    · exact s_retn
    · cases h
  | .brk, p, h => by
    simp only [mS] at h
    split at h
    · exact s_brk
    · cases h
  | .cnt, p, h => by
    simp only [mS] at h
    split at h
    · exact s_cnt
    · cases h
  | .pass, p, h => by
    simp only [mS] at h
    split at h
    · exact s_pass
    · cases h
theorem mSs_ok (c : CO T w F k S N X ws) (hx : X.xe = fun _ _ => False) : ∀ {l : List Sx} {ps : List Stmt}, mSs S N ws l ps = true → PSs X ps (tSxs T w F W l)
  | [], ps, h => by
    simp only [mSs] at h
    split at h
    · exact ss_nil
    · cases h
  | s :: l, ps, h => by
    simp only [mSs] at h
    split at h
    · cases h
    · rw [Bool.and_eq_true] at h
      exact ss_cons (mS_ok c hx h.1) (mSs_ok c hx h.2)
end
theorem mB_ok (c : CO T w F k S N X ws) (hx : X.xe = fun _ _ => False) {l : List Sx} {ps : List Stmt} (h : mB S N ws l ps = true) : PSs X ps (tSxs T w F W l) := by
  unfold mB undoc at h
  split at h
  · exact ss_doc (mSs_ok c hx h)
  · exact mSs_ok c hx h
end
end Mi

namespace Mi
open PySem PySem.Spec PyProof.Rows L2

/-- a def of the text, for the interpreter's -/
structure FdOk (T : Tb) (S : Sig) (j : Nat) (d : Df) : Prop where
  ex : ∃ (x qual : Str) (params : Arguments) (body : List Stmt) (scope : Scope) (N ps : List Str) (fd : FuncData), FunD T.K x qual params body scope [] [] (T.fa j) fd ∧ FnScope N ps scope ∧ ps.length = d.np ∧ N.length = d.nn ∧ mB S N scope d.body body = true ∧ Binds T.K fd ps [] ∧
    ∀ n kn perm, (j, n, kn, perm) ∈ S.kws → perm.length = d.np ∧ ∀ (s : Shared) (us : List Value), us.length = n + kn.length → BindsTo s fd ⟨us.take n, kn.zip (us.drop n)⟩ (ps.zip (perm.map fun i => (us[i]?).getD .none))
structure FxOk (T : Tb) (w : World) (S : Sig) : Prop where
  st : StOk T w S
  fd : ∀ j d, T.G.defs[j]? = some d → FdOk T S j d
  mkc : ∀ c cl, T.G.cls[c]? = some cl → ∃ d, T.G.defs[cl.init]? = some d ∧ Mk T.K (T.ca c) (T.fa cl.init)
section
variable {T : Tb} {w : World} {S : Sig} {W : Nat}
theorem runF_ok {G : Gm} {k j : Nat} {l : List MV} {h h' : MH} {v : MV} (e : runF G W (k + 1) j l h = .ok v h') : ∃ d, G.defs[j]? = some d ∧ l.length = d.np ∧
    (evSs G (runF G W k) W d.body (startM d.nn l) h = .rt v h' ∨ (v = .non ∧ ∃ σ, evSs G (runF G W k) W d.body (startM d.nn l) h = .nx σ h')) := by
  simp only [runF] at e
  split at e
  · rename_i d hd
    split at e
    · rename_i hl
      split at e
      · rename_i v' h2 hr
        obtain ⟨rfl, rfl⟩ := out_inj e
        exact ⟨d, hd, hl, .inl hr⟩
      · rename_i σ h2 hr
        obtain ⟨rfl, rfl⟩ := out_inj e
        exact ⟨d, hd, hl, .inr ⟨rfl, σ, hr⟩⟩
      · cases e
    · cases e
  · cases e
theorem runF_len {G : Gm} {k j : Nat} {d : Df} (hd : G.defs[j]? = some d) : ∀ l hm v hm', runF G W k j l hm = .ok v hm' → l.length = d.np := by
  intro l hm v hm' e
  cases k with
  | zero => simp only [runF] at e; cases e
  | succ k =>
    obtain ⟨d', h1, h2, _⟩ := runF_ok e
    rw [hd] at h1
    cases h1
    exact h2
theorem start_ss {Av : Addr → Prop} {β : List Addr} {hm : MH} {H : Hp} {l : List MV} {vs : List V} {N : List Str} {n : Nat} (hn : N.length = n) (r : RVs T (lv Av β hm) β H l vs) : SS T (lv Av β hm) β H (startM n l) (start N vs) := by
  subst hn
  unfold startM L2.start
  refine ⟨by simp [r.length], fun i v h => ?_⟩
  by_cases hi : i < l.length
  · rw [List.getElem?_append_left (by simpa using hi), List.getElem?_map] at h
    cases hl : l[i]? with
    | none => rw [hl] at h; cases h
    | some m =>
      rw [hl] at h
      cases h
      obtain ⟨x, h1, h2⟩ := r.get hl
      refine ⟨x, ?_, h2⟩
      rw [List.getElem?_append_left (by have := r.length; simp; omega), List.getElem?_map, h1]
      rfl
  · rw [List.getElem?_append_right (by simpa using hi), List.getElem?_replicate] at h
    split at h <;> cases h
theorem level (P : Program) (base : Heap) (fx : FxOk T w S) : ∀ k, CaOk P w T base (2 * k) (runF T.G W k) S
  | 0 => by
    have none_ : ∀ np j vs H Q, ¬ spF T w (runF T.G W 0) np j vs H Q := fun np j vs H Q h => by
      obtain ⟨Av, β, hm, l, v, hm', _, _, _, e, _⟩ := h
      simp only [runF] at e
      cases e
    have fn : ∀ f fd ps np j, FnG P w T.K T.mg base (2 * 0) f fd ps (spF T w (runF T.G W 0) np j) := fun f fd ps np j => ⟨fun vs H Q h => (none_ _ _ _ _ _ h).elim, fun _ _ _ _ _ _ _ _ _ _ _ _ h => (none_ _ _ _ _ _ h).elim⟩
    refine ⟨fun j d hd => ?_, fun j d hd => runF_len hd, fun c cl hc => ?_⟩
    · obtain ⟨x, qual, params, body, scope, N, ps, fd, hF, hS, hp, hN, hm, hb, hk⟩ := (fx.fd j d hd).ex
      exact ⟨hF.kp, fd, ps, hp, fn _ _ _ _ _, hb, hk⟩
    · obtain ⟨d, hd, mk⟩ := fx.mkc c cl hc
      obtain ⟨x, qual, params, body, scope, N, ps, fd, hF, hS, hp, hN, hm, hb, hk⟩ := (fx.fd _ d hd).ex
      exact ⟨_, fd, ps, d, mk, hd, fn _ _ _ _ _, hb, runF_len hd⟩
  | k + 1 => by
    have ih := level P base fx k
    have step : ∀ j d, T.G.defs[j]? = some d → ∃ (fd : FuncData) (ps : List Str), ps.length = d.np ∧ FnG P w T.K T.mg base (2 * (k + 1)) (T.fa j) fd ps (spF T w (runF T.G W (k + 1)) d.np j) ∧ Binds T.K fd ps [] ∧ PySem.W.keepIn T.K (.ref (T.fa j)) = true ∧
        ∀ n kn perm, (j, n, kn, perm) ∈ S.kws → perm.length = d.np ∧ ∀ (s : Shared) (us : List Value), us.length = n + kn.length → BindsTo s fd ⟨us.take n, kn.zip (us.drop n)⟩ (ps.zip (perm.map fun i => (us[i]?).getD .none)) := by
      intro j d hd
      obtain ⟨x, qual, params, body, scope, N, ps, fd, hF, hS, hp, hN, hm, hb, hk⟩ := (fx.fd j d hd).ex
      refine ⟨fd, ps, hp, ?_, hb, hF.kp, hk⟩
      show FnG P w T.K T.mg base (2 * k + 1 + 1) (T.fa j) fd ps (spF T w (runF T.G W (k + 1)) d.np j)
      refine fnG_of hF hS (fun vs H Q h => ?_) fun cdv A outer s H vs Q roo h => ?_
      · obtain ⟨Av, β, hm, l, v, hm', _, r, hl, _⟩ := h
        rw [← r.length, hl, hp]
      · have co : CO T w (runF T.G W k) (2 * k) S N (cxG P w T.K T.mg base N qual scope (T.fa j) cdv A outer s H).nox scope :=
          { hK := rfl, hmg := rfl, hw := rfl, hN := rfl, nd := hS.nd, calm := rfl, roo := roo, kind := hS.kind, loc := fun _ z => z, cel := fun _ z => ⟨z, rfl⟩, fre := fun _ z => .inl z, gl := fun _ z => z, st := fx.st, ca := ih }
        refine ⟨_, (mB_ok (W := W) co rfl hm).nox, ?_⟩
        obtain ⟨Av, β, hm0, l, v, hm', hr, r, hl, e, kp⟩ := h
        obtain ⟨d', h1, _, e2⟩ := runF_ok e
        rw [hd] at h1
        cases h1
        refine ⟨Av, β, hm0, startM d.nn l, ⟨hr, start_ss hN r⟩, ?_⟩
        rcases e2 with e2 | ⟨rfl, σ2, e2⟩
        · rw [e2]
          exact fun β' H' x i1 hr1 rx => kp β' H' x i1 hr1 rx
        · rw [e2]
          exact fun β' H' σ' i1 g1 => kp β' H' .non i1 g1.hr .non
    refine ⟨fun j d hd => ?_, fun j d hd => runF_len hd, fun c cl hc => ?_⟩
    · obtain ⟨fd, ps, hp, fn, hb, kp, hk⟩ := step j d hd
      exact ⟨kp, fd, ps, hp, fn, hb, hk⟩
    · obtain ⟨d, hd, mk⟩ := fx.mkc c cl hc
      obtain ⟨fd, ps, hp, fn, hb, kp, hk⟩ := step _ d hd
      exact ⟨_, fd, ps, d, mk, hd, fn, hb, runF_len hd⟩
/-- the law: from the script -/
theorem law_of {P : Program} {base : Heap} (fx : FxOk T w S) {j : Nat} {d : Df} (hd : T.G.defs[j]? = some d) (k : Nat) (hrun : ∀ ns : List Int, ns.length ≤ 63 → ∃ hm, runF T.G W k j [.scr (ns.map .int)] [] = .ok (.bl true) hm) (hnp : d.np = 1) :
    ∃ (fd : FuncData) (ps : List Str), ps.length = 1 ∧ FnG P w T.K T.mg base (2 * k) (T.fa j) fd ps (spF T w (runF T.G W k) 1 j) ∧ Binds T.K fd ps [] := by
  obtain ⟨fd, ps, hp, fn, hb, _⟩ := ((level (W := W) P base fx k).def_ j d hd).fn
  rw [hnp] at hp fn
  exact ⟨fd, ps, hp, fn, hb⟩
/-- a script at the entry -/
theorem entry {F : Fn} {j : Nat} {H : Hp} {a : Addr} {ns : List Int} (hO : Only H) (hS : SqL T.K H a (ns.map V.int)) {hm' : MH} (e : F j [.scr (ns.map .int)] [] = .ok (.bl true) hm') : spF T w F 1 j [.ref a] H (fun v _ => v = .bl true) := by
  have hr : HR T (hsOf w) (fun _ => False) [] [] H := ⟨rfl, List.nodup_nil, (fun a ha => nomatch ha), (fun a ha => nomatch ha), (fun a ha => ha.elim), (fun i a o h1 _ _ => by simp at h1)⟩
  have nl : ∀ b, ¬ lv (fun _ => False) ([] : List Addr) ([] : MH) b := fun b q => lv_nil q
  refine ⟨fun _ => False, [], [], [.scr (ns.map .int)], .bl true, hm', hr, .one ?_, rfl, e, fun β' H' x _ _ rx => rx.bl'⟩
  rcases hS with h | h
  · exact .scr h (nl a) (RVs.ofInts ns)
  · exact .scrK h (RVs.ofInts ns)
end
end Mi

namespace Mi
open PySem PySem.Spec PyProof.Rows L2

/-! ### attributes' names -/
def anOf (l : List Str) (i : Nat) : Str := (l[i]?).getD ⟨#[1099511627776 + i]⟩
def anB (l : List Str) : Bool := decide l.Nodup && l.all fun s => s.cps.toList.all fun c => decide (c < 1099511627776)
theorem anOf_inj {l : List Str} (h : anB l = true) : ∀ f g, anOf l f = anOf l g → f = g := by
  unfold anB at h
  rw [Bool.and_eq_true, decide_eq_true_eq, List.all_eq_true] at h
  have out : ∀ (i : Nat) (s : Str), s ∈ l → s ≠ ⟨#[1099511627776 + i]⟩ := fun i s hs e => by
    have q := h.2 s hs
    rw [e] at q
    have q2 := List.all_eq_true.mp q (1099511627776 + i) (by simp)
    rw [decide_eq_true_eq] at q2
    omega
  intro f g e
  unfold anOf at e
  cases hf : l[f]? with
  | some s =>
    cases hg : l[g]? with
    | some t =>
      rw [hf, hg] at e
      have e : s = t := e
      subst e
      exact nodup_ix h.1 hf hg
    | none =>
      rw [hf, hg] at e
      exact absurd e (out g s (List.mem_of_getElem? hf))
  | none =>
    cases hg : l[g]? with
    | some t =>
      rw [hf, hg] at e
      exact absurd e.symm (out f t (List.mem_of_getElem? hg))
    | none =>
      rw [hf, hg] at e
      simp only [Option.getD_none, Str.mk.injEq] at e
      have e2 : [1099511627776 + f] = [1099511627776 + g] := congrArg Array.toList e
      simp only [List.cons.injEq, and_true] at e2
      omega

/-! ### tables -/
def kvL : List DictEntry → List (Str × MV) → Bool
  | [], [] => true
  | e :: es, (k, m) :: t => (match e.key, e.val, m with
    | .str x _, .int i _, .int j => decide (x = k) && decide (i = j)
    | _, _, _ => false) && kvL es t
  | _, _ => false
def kvB (K : PySem.W.Frag) (a : Addr) (t : List (Str × MV)) : Bool := match K.lookup a with
  | some ⟨_, _, .dict es _, _⟩ => kvL es.toList t
  | _ => false
theorem kvL_ok (z : Str) : ∀ {es : List DictEntry} {t : List (Str × MV)}, kvL es t = true →
    (t.lookup z = none → es.find? (·.key.isStr z) = none ∧ es.any (·.refKey) = false) ∧ ∀ m, t.lookup z = some m → ∃ (e : DictEntry) (i : Int) (u : Tok), es.find? (·.key.isStr z) = some e ∧ m = .int i ∧ e.val = .int i u
  | [], [], _ => ⟨fun _ => ⟨rfl, rfl⟩, fun m h => by cases h⟩
  | [], _ :: _, h => by cases h
  | _ :: _, [], h => by cases h
  | e :: es, (k, m) :: t, h => by
    simp only [kvL, Bool.and_eq_true] at h
    obtain ⟨h1, h2⟩ := h
    obtain ⟨i1, i2⟩ := kvL_ok z h2
    split at h1
    · rename_i x tk i tk2 j hk hv
      simp only [Bool.and_eq_true, decide_eq_true_eq] at h1
      obtain ⟨rfl, rfl⟩ := h1
      by_cases q : z = x
      · subst q
        refine ⟨fun n => ?_, fun m hm => ?_⟩
        · simp [List.lookup_cons] at n
        · simp only [List.lookup_cons, beq_self_eq_true, Option.some.injEq] at hm
          exact ⟨e, i, tk2, by simp [List.find?_cons, hk, Value.isStr], hm.symm, hv⟩
      · have q1 : (z == x) = false := beq_false_of_ne q
        have q2 : e.key.isStr z = false := by rw [hk]; exact beq_false_of_ne fun e => q e.symm
        refine ⟨fun n => ?_, fun m hm => ?_⟩
        · rw [List.lookup_cons, q1] at n
          obtain ⟨a1, a2⟩ := i1 n
          refine ⟨by rw [List.find?_cons, q2]; exact a1, ?_⟩
          rw [List.any_cons, a2]
          simp [DictEntry.refKey, hk]
        · rw [List.lookup_cons, q1] at hm
          obtain ⟨e', i', u', a1, a2, a3⟩ := i2 m hm
          exact ⟨e', i', u', by rw [List.find?_cons, q2]; exact a1, a2, a3⟩
    · cases h1
theorem kvB_ok {K : PySem.W.Frag} {a : Addr} {t : List (Str × MV)} (h : kvB K a t = true) (z : Str) : (t.lookup z = none → PySem.W.nsIn K a z = some none) ∧ ∀ m, t.lookup z = some m → ∃ (i : Int) (u : Tok), m = .int i ∧ PySem.W.nsIn K a z = some (some (.int i u)) := by
  unfold kvB at h
  split at h
  · rename_i oc od es n sl hl
    obtain ⟨h1, h2⟩ := kvL_ok z h
    unfold PySem.W.nsIn
    rw [hl]
    dsimp only
    refine ⟨fun n => ?_, fun m hm => ?_⟩
    · obtain ⟨a1, a2⟩ := h1 n
      rw [a1]
      dsimp only
      rw [a2]
      rfl
    · obtain ⟨e, i, u, a1, a2, a3⟩ := h2 m hm
      exact ⟨i, u, a2, by rw [a1, ← a3]⟩
  · cases h

/-! ### what a law's text is -/
structure Lw where
  G : Gm
  S : Sig
  at_ : List (Str × Option Str)
  kn : List Str
  fn : List He.DefD
  nps : List (List Str × List Str)
def Lw.tb (l : Lw) (K : PySem.W.Frag) (mg : Str → Option Value) : Tb :=
  ⟨K, mg, l.G, fun j => He.fAd K (l.at_.getD j ("", none)), fun c => He.ga K (l.S.cn.getD c ""), fun k => He.ga K (l.kn.getD k ""), anOf l.S.an⟩
/-- a constant of the module -/
def gB (l : Lw) (K : PySem.W.Frag) (y : Str) (m : MV) : Bool := match m with
  | .int i => (He.Fa.int y i).ok K
  | .str s => (He.Fa.str y s).ok K
  | .tup t => match intsM t with
    | some ns => (He.Fa.glo y).ok K && He.tupB K y (ns.map .int)
    | none => false
  | .fn j => decide (l.at_[j]? = some (y, none)) && (He.Fa.glo y).ok K
  | .kd k => decide (l.kn[k]? = some y) && (He.Fa.glo y).ok K
  | _ => false
def Lw.gls (l : Lw) (K : PySem.W.Frag) : List MV → List Str → Bool
  | [], _ => true
  | _ :: _, [] => true
  | m :: ms, y :: ys => gB l K y m && Lw.gls l K ms ys
def Lw.kvs (l : Lw) (K : PySem.W.Frag) : List (List (Str × MV)) → List Str → Bool
  | [], _ => true
  | _ :: _, [] => false
  | t :: ts, y :: ys => kvB K (He.ga K y) t && Lw.kvs l K ts ys
def Lw.ex (l : Lw) (K : PySem.W.Frag) : Bool := l.gls K l.G.glo l.S.gn && l.kvs K l.G.kds l.kn
/-- the facts that are asked of the head -/
def Lw.fa (l : Lw) : List He.Fa := l.S.dn.filterMap (fun y => if y == ("" : Str) then none else some (He.Fa.glo y)) ++ (l.S.cn.map He.Fa.glo ++ (bltNames.map He.Fa.free ++ (l.S.cn.map He.Fa.cls ++ (l.S.cn.map He.Fa.mkr ++ l.S.cn.flatMap fun c => l.S.an.map fun f => He.Fa.noat c f))))
def Lw.ts (l : Lw) : List He.Tab := (l.kn.zip l.G.kds).map fun p => (fun K => He.ga K p.1, p.2.map (·.1))
/-- what is looked at without the head -/
def d1B (l : Lw) (d : Df) (at_ : Str × Option Str) (dn : Str) (dd : He.DefD) (np : List Str × List Str) : Bool :=
  decide (dd.at_ = at_) && (decide (dn = "" ∨ (dn, none) = at_) && (dd.dfl.isEmpty && (dd.kwd.isEmpty && (C8.scC np.1 np.2 dd.scope && (decide (np.2.length = d.np) && (decide (np.1.length = d.nn) && mB l.S np.1 dd.scope d.body dd.body))))))
def dsB (l : Lw) : List Df → List (Str × Option Str) → List Str → List He.DefD → List (List Str × List Str) → Bool
  | [], [], [], [], [] => true
  | d :: ds, a :: as, n :: ns, f :: fs, p :: ps => d1B l d a n f p && dsB l ds as ns fs ps
  | _, _, _, _, _ => false
def cB (l : Lw) : List Cl → List Str → Bool
  | [], [] => true
  | c :: cs, y :: ys => decide (l.at_[c.init]? = some (y, some ("__init__" : Str))) && ((l.G.defs[c.init]?).isSome && cB l cs ys)
  | _, _ => false
def Lw.ok (l : Lw) : Bool := anB l.S.an && (dsB l l.G.defs l.at_ l.S.dn l.fn l.nps && cB l l.G.cls l.S.cn)
/-- bindings -/
def BnP (dd : He.DefD) (ps : List Str) : Prop := ∀ (kV doc pm : Value) (an : Option Addr) (cdv ct : Value) (us : List Value), us.length = ps.length → bindArgs (PySem.W.fnOf dd.name dd.qual dd.params dd.body dd.scope .none kV doc pm an cdv ct) ⟨us, []⟩ = pure (ps.zip us)
def BnAll : List He.DefD → List (List Str × List Str) → Prop
  | d :: ds, p :: ps => BnP d p.2 ∧ BnAll ds ps
  | _, _ => True
def KwP (l : Lw) (k : Kw) : Prop := ∀ d dd np, l.G.defs[k.1]? = some d → l.fn[k.1]? = some dd → l.nps[k.1]? = some np → k.2.2.2.length = d.np ∧ ∀ (kV doc pm : Value) (an : Option Addr) (cdv ct : Value) (us : List Value), us.length = k.2.1 + k.2.2.1.length →
  bindArgs (PySem.W.fnOf dd.name dd.qual dd.params dd.body dd.scope .none kV doc pm an cdv ct) ⟨us.take k.2.1, k.2.2.1.zip (us.drop k.2.1)⟩ = pure (np.2.zip (k.2.2.2.map fun i => (us[i]?).getD .none))

section
variable {l : Lw}
theorem dsB_at : ∀ {ds : List Df} {as : List (Str × Option Str)} {ns : List Str} {fs : List He.DefD} {ps : List (List Str × List Str)}, dsB l ds as ns fs ps = true → BnAll fs ps → ∀ {j : Nat} {d : Df}, ds[j]? = some d → ∃ a n f p, as[j]? = some a ∧ ns[j]? = some n ∧ fs[j]? = some f ∧ ps[j]? = some p ∧ d1B l d a n f p = true ∧ BnP f p.2
  | d :: ds, a :: as, n :: ns, f :: fs, p :: ps, h, b, 0, _, e => by
    simp only [dsB, Bool.and_eq_true] at h
    simp only [List.getElem?_cons_zero, Option.some.injEq] at e
    subst e
    exact ⟨a, n, f, p, rfl, rfl, rfl, rfl, h.1, b.1⟩
  | d :: ds, a :: as, n :: ns, f :: fs, p :: ps, h, b, j + 1, d', e => by
    simp only [dsB, Bool.and_eq_true] at h
    simp only [List.getElem?_cons_succ] at e ⊢
    exact dsB_at h.2 b.2 e
  | [], [], [], [], [], _, _, _, _, e => by simp at e
theorem dsB_dn : ∀ {ds : List Df} {as : List (Str × Option Str)} {ns : List Str} {fs : List He.DefD} {ps : List (List Str × List Str)}, dsB l ds as ns fs ps = true → ∀ {j : Nat} {y : Str}, ns[j]? = some y → (y == ("" : Str)) = false → as[j]? = some (y, none)
  | d :: ds, a :: as, n :: ns, f :: fs, p :: ps, h, 0, y, e, hy => by
    simp only [dsB, d1B, Bool.and_eq_true, decide_eq_true_eq] at h
    simp only [List.getElem?_cons_zero, Option.some.injEq] at e ⊢
    subst e
    rcases h.1.2.1 with z | z
    · rw [z] at hy; cases hy
    · exact z.symm
  | d :: ds, a :: as, n :: ns, f :: fs, p :: ps, h, j + 1, y, e, hy => by
    simp only [dsB, Bool.and_eq_true] at h
    simp only [List.getElem?_cons_succ] at e ⊢
    exact dsB_dn h.2 e hy
  | [], [], [], [], [], _, _, _, e, _ => by simp at e
theorem cB_at : ∀ {cs : List Cl} {ys : List Str}, cB l cs ys = true → ∀ {c : Nat} {cl : Cl}, cs[c]? = some cl → ∃ y, ys[c]? = some y ∧ l.at_[cl.init]? = some (y, some ("__init__" : Str)) ∧ (l.G.defs[cl.init]?).isSome = true
  | [], [], _, _, _, e => by simp at e
  | c :: cs, y :: ys, h, 0, _, e => by
    simp only [cB, Bool.and_eq_true, decide_eq_true_eq] at h
    simp only [List.getElem?_cons_zero, Option.some.injEq] at e
    subst e
    exact ⟨y, rfl, h.1, h.2.1⟩
  | c :: cs, y :: ys, h, j + 1, _, e => by
    simp only [cB, Bool.and_eq_true, decide_eq_true_eq] at h
    simp only [List.getElem?_cons_succ] at e ⊢
    exact cB_at h.2.2 e
theorem gls_at {K : PySem.W.Frag} : ∀ {ms : List MV} {ys : List Str}, l.gls K ms ys = true → ∀ {j : Nat} {m : MV} {y : Str}, ms[j]? = some m → ys[j]? = some y → gB l K y m = true
  | [], _, _, _, _, _, e, _ => by simp at e
  | _ :: _, [], _, _, _, _, _, e => by simp at e
  | m :: ms, y :: ys, h, 0, _, _, e, e2 => by
    simp only [Lw.gls, Bool.and_eq_true] at h
    simp only [List.getElem?_cons_zero, Option.some.injEq] at e e2
    subst e e2
    exact h.1
  | m :: ms, y :: ys, h, j + 1, _, _, e, e2 => by
    simp only [Lw.gls, Bool.and_eq_true] at h
    simp only [List.getElem?_cons_succ] at e e2
    exact gls_at h.2 e e2
theorem kvs_at {K : PySem.W.Frag} : ∀ {ts : List (List (Str × MV))} {ys : List Str}, l.kvs K ts ys = true → ∀ {j : Nat} {t : List (Str × MV)}, ts[j]? = some t → ∃ y, ys[j]? = some y ∧ kvB K (He.ga K y) t = true
  | [], _, _, _, _, e => by simp at e
  | _ :: _, [], h, _, _, _ => by cases h
  | t :: ts, y :: ys, h, 0, _, e => by
    simp only [Lw.kvs, Bool.and_eq_true] at h
    simp only [List.getElem?_cons_zero, Option.some.injEq] at e
    subst e
    exact ⟨y, rfl, h.1⟩
  | t :: ts, y :: ys, h, j + 1, _, e => by
    simp only [Lw.kvs, Bool.and_eq_true] at h
    simp only [List.getElem?_cons_succ] at e ⊢
    exact kvs_at h.2 e
theorem getD_of {α : Type} {l : List α} {i : Nat} {a d : α} (h : l[i]? = some a) : l.getD i d = a := by
  rw [List.getD_eq_getElem?_getD, h]
  rfl
theorem gB_ok {K : PySem.W.Frag} {h : Heap} {mg : Str → Option Value} (X : K.In h) (G : h.Ns mainGlobals mg) {y : Str} {m : MV} (e : gB l K y m = true) : ∃ v u, mg y = some u ∧ RelV v u ∧ ∀ L β H, RV (l.tb K mg) L β H m v := by
  cases m with
  | int i =>
    obtain ⟨t, q⟩ := He.int_ok X G (show (He.Fa.int y i).ok K = true from e)
    exact ⟨.int i, _, q, ⟨t, rfl⟩, fun _ _ _ => .int i⟩
  | str s =>
    obtain ⟨t, q⟩ := He.str_ok X G (show (He.Fa.str y s).ok K = true from e)
    exact ⟨.str s, _, q, ⟨t, rfl⟩, fun _ _ _ => .str s⟩
  | tup t =>
    have e' : (match intsM t with | some ns => (He.Fa.glo y).ok K && He.tupB K y (ns.map .int) | none => false) = true := e
    split at e'
    · rename_i ns hns
      rw [Bool.and_eq_true] at e'
      have q := He.glo_ok X G e'.1
      have kt : KT K (He.ga K y) ((ns.map He.Dv.int).map (He.Dv.v K)) := by
        rcases He.tupB_ok e'.2 (fun _ => none) with (z | ⟨o, z⟩) | z
        · cases z
        · cases z
        · exact z
      have ev : (ns.map He.Dv.int).map (He.Dv.v K) = ns.map V.int := by rw [List.map_map]; rfl
      rw [ev] at kt
      have et : t = ns.map MV.int := by
        clear e e' q kt ev
        induction t generalizing ns with
        | nil => cases hns; rfl
        | cons a t ih =>
          cases a with
          | int i =>
            have hns : (intsM t).map (i :: ·) = some ns := hns
            cases z : intsM t with
            | none => rw [z] at hns; cases hns
            | some ks => rw [z] at hns; cases hns; rw [ih ks z]; rfl
          | _ => cases hns
      refine ⟨.ref (He.ga K y), _, q, rfl, fun _ _ _ => .tupK kt ?_⟩
      rw [et]
      exact RVs.ofInts ns
    · cases e'
  | fn j =>
    have e' : (decide (l.at_[j]? = some (y, none)) && (He.Fa.glo y).ok K) = true := e
    simp only [Bool.and_eq_true, decide_eq_true_eq] at e'
    have q := He.glo_ok X G e'.2
    refine ⟨.ref (He.ga K y), _, q, rfl, fun L β H => ?_⟩
    have r : RV (l.tb K mg) L β H (.fn j) (.ref ((l.tb K mg).fa j)) := .fn j
    have ef : (l.tb K mg).fa j = He.ga K y := by
      show He.fAd K (l.at_.getD j ("", none)) = _
      rw [getD_of e'.1]
      rfl
    rw [ef] at r
    exact r
  | kd k =>
    have e' : (decide (l.kn[k]? = some y) && (He.Fa.glo y).ok K) = true := e
    simp only [Bool.and_eq_true, decide_eq_true_eq] at e'
    have q := He.glo_ok X G e'.2
    refine ⟨.ref (He.ga K y), _, q, rfl, fun L β H => ?_⟩
    have r : RV (l.tb K mg) L β H (.kd k) (.ref ((l.tb K mg).ka k)) := .kd k
    have ef : (l.tb K mg).ka k = He.ga K y := by
      show He.ga K (l.kn.getD k "") = _
      rw [getD_of e'.1]
    rw [ef] at r
    exact r
  | _ => cases e
theorem fx_of {K : PySem.W.Frag} {w : World} {h : Heap} {mg : Str → Option Value} (X : K.In h) (G : h.Ns mainGlobals mg) (c : He.SaysX l.fa l.fn l.ts [] l.ex w h K) (ok : l.ok = true) (bn : BnAll l.fn l.nps) (kw : ∀ k ∈ l.S.kws, KwP l k) : FxOk (l.tb K mg) w l.S := by
  unfold Lw.ok at ok
  rw [Bool.and_eq_true, Bool.and_eq_true] at ok
  obtain ⟨oka, okd, okc⟩ := ok
  have ex := c.more
  unfold Lw.ex at ex
  rw [Bool.and_eq_true] at ex
  have fact : ∀ {f : He.Fa}, f ∈ l.fa → f.ok K = true := fun hf => He.SaysD.facts c.t.d hf
  have kdn : ∀ (j : Nat) (t : List (Str × MV)), l.G.kds[j]? = some t → ∃ y, l.kn[j]? = some y ∧ (l.tb K mg).ka j = He.ga K y ∧ kvB K (He.ga K y) t = true := fun j t ht => by
    obtain ⟨y, hy, q⟩ := kvs_at ex.2 ht
    refine ⟨y, hy, ?_, q⟩
    show He.ga K (l.kn.getD j "") = _
    rw [getD_of hy]
  refine ⟨⟨⟨fun j t ht => ?_, fun j t z ht hz => ?_, fun j t z m ht hz => ?_⟩, anOf_inj oka, ⟨fun d cl hd => ?_, fun d cl f hd hf => ?_⟩, fun f y hf => ?_, fun j m y hm hy => ?_, fun y hy => ?_, fun j y hj hy => ?_, fun d y hd => ?_⟩, fun j d hd => ?_, fun d cl hd => ?_⟩
  · obtain ⟨y, hy, e, _⟩ := kdn j t ht
    rw [e]
    have ht2 : l.ts[j]? = some (fun K => He.ga K y, t.map (·.1)) := by
      unfold Lw.ts
      have hz : (l.kn.zip l.G.kds)[j]? = some (y, t) := by rw [List.getElem?_zip_eq_some]; exact ⟨hy, ht⟩
      rw [List.getElem?_map, hz]
      rfl
    exact He.SaysT.tab c.t j ht2
  · obtain ⟨y, hy, e, q⟩ := kdn j t ht
    rw [e]
    exact (kvB_ok q z).1 hz
  · obtain ⟨y, hy, e, q⟩ := kdn j t ht
    rw [e]
    exact (kvB_ok q z).2 m hz
  · obtain ⟨y, hy, _⟩ := cB_at okc hd
    show Cls K (He.ga K (l.S.cn.getD d ""))
    rw [getD_of hy]
    refine He.cls_ok (fact ?_)
    unfold Lw.fa
    simp only [List.mem_append, List.mem_map]
    exact .inr (.inr (.inr (.inl ⟨y, List.mem_of_getElem? hy, rfl⟩)))
  · obtain ⟨y, hy, _⟩ := cB_at okc hd
    obtain ⟨s, hs⟩ : ∃ s, l.S.an[f]? = some s := ⟨_, List.getElem?_eq_getElem hf⟩
    show NoAttr K (He.ga K (l.S.cn.getD d "")) (anOf l.S.an f)
    unfold anOf
    rw [getD_of hy, hs]
    refine He.noat_ok (f := s) (fact ?_)
    unfold Lw.fa
    simp only [List.mem_append, List.mem_map, List.mem_flatMap]
    exact .inr (.inr (.inr (.inr (.inr ⟨y, List.mem_of_getElem? hy, s, List.mem_of_getElem? hs, rfl⟩))))
  · show anOf l.S.an f = y
    unfold anOf
    rw [hf]
    rfl
  · exact gB_ok X G (gls_at ex.1 hm hy)
  · refine He.free_ok X G (fact ?_)
    unfold Lw.fa
    simp only [List.mem_append, List.mem_map]
    exact .inr (.inr (.inl ⟨y, hy, rfl⟩))
  · have ha := dsB_dn okd hj hy
    show mg y = some (.ref (He.fAd K (l.at_.getD j ("", none))))
    rw [getD_of ha]
    refine He.glo_ok X G (fact ?_)
    unfold Lw.fa
    simp only [List.mem_append, List.mem_filterMap]
    exact .inl ⟨y, List.mem_of_getElem? hj, by rw [hy]; rfl⟩
  · show mg y = some (.ref (He.ga K (l.S.cn.getD d "")))
    rw [getD_of hd]
    refine He.glo_ok X G (fact ?_)
    unfold Lw.fa
    simp only [List.mem_append, List.mem_map]
    exact .inr (.inl ⟨y, List.mem_of_getElem? hd, rfl⟩)
  · obtain ⟨a, n, f, p, ha, hn, hf, hp, q, hb⟩ := dsB_at okd bn hd
    unfold d1B at q
    simp only [Bool.and_eq_true, decide_eq_true_eq, List.isEmpty_iff] at q
    obtain ⟨q1, _, q3, q4, q5, q6, q7, q8⟩ := q
    obtain ⟨fd, F⟩ := He.SaysD.defs c.t.d (List.mem_of_getElem? hf)
    have ed : f.dvs K = [] := by unfold He.DefD.dvs; rw [q3]; rfl
    have ek : f.kws K = [] := by unfold He.DefD.kws; rw [q4]; rfl
    rw [ed, ek, q1] at F
    refine ⟨f.name, f.qual, f.params, f.body, f.scope, p.1, p.2, fd, ?_, C8.fnScope_by q5, q6, q7, q8, F.bindsN hb, fun n' kn perm hk => ?_⟩
    · show FunD K _ _ _ _ _ _ _ (He.fAd K (l.at_.getD j ("", none))) fd
      rw [getD_of ha]
      exact F
    · obtain ⟨z1, z2⟩ := kw _ hk d f p hd hf hp
      refine ⟨z1, fun s us hl => ?_⟩
      obtain ⟨oc, od, dV, kV, doc, pm, an, cdv, ct, osl, rfl, lk, hcd, hD, hK⟩ := F.ex
      rcases hD with ⟨_, rfl⟩ | ⟨e, _⟩
      · exact .of_eq (z2 kV doc pm an cdv ct us hl)
      · exact absurd rfl e
  · obtain ⟨y, hy, ha, hs⟩ := cB_at okc hd
    obtain ⟨d', hd'⟩ := Option.isSome_iff_exists.mp hs
    refine ⟨d', hd', ?_⟩
    show Mk K (He.ga K (l.S.cn.getD d "")) (He.fAd K (l.at_.getD cl.init ("", none)))
    rw [getD_of hy, getD_of ha]
    refine He.mkr_ok (x := y) (fact ?_)
    unfold Lw.fa
    simp only [List.mem_append, List.mem_map]
    exact .inr (.inr (.inr (.inr (.inl ⟨y, List.mem_of_getElem? hy, rfl⟩))))
end

/-- the law, from what the interpreter tells -/
theorem law_end {l : Lw} (ok : l.ok = true) (bn : BnAll l.fn l.nps) (kw : ∀ k ∈ l.S.kws, KwP l k) {j W k : Nat} {d : Df} (hat : l.at_[j]? = some (("law" : Str), none)) (hdn : l.S.dn[j]? = some ("law" : Str)) (hd : l.G.defs[j]? = some d) (hnp : d.np = 1)
    (hrun : ∀ ns : List Int, ns.length ≤ 63 → ∃ hm, runF l.G W k j [.scr (ns.map .int)] [] = .ok (.bl true) hm)
    {P : Program} {w : World} {h : Heap} {mg : Str → Option Value} {fa : Addr} (Y : ∃ K : PySem.W.Frag, K.In h ∧ He.SaysX l.fa l.fn l.ts [] l.ex w h K) (G : h.Ns mainGlobals mg) (named : mg ("law" : Str) = some (.ref fa)) :
    ∃ (K : PySem.W.Frag) (sp : SpG), K.In h ∧
      (∀ (H : Hp) (a : Addr) (ns : List Int), ns.length ≤ 63 → Only H → SqL K H a (ns.map V.int) → sp [.ref a] H (fun v _ => v = .bl true)) ∧
      ∀ base : Heap, K.In base → base.Ns mainGlobals mg → ∃ (fd : FuncData) (ps : List Str), ps.length = 1 ∧ FnG P w K mg base (2 * k) fa fd ps sp ∧ Binds K fd ps [] := by
  obtain ⟨K, X, c⟩ := Y
  have fx := fx_of X G c ok bn kw
  have efa : fa = (l.tb K mg).fa j := by
    have g : mg ("law" : Str) = some (.ref ((l.tb K mg).fa j)) := fx.st.dnm j "law" hdn (by decide +kernel)
    have e := named.symm.trans g
    injection e with e
    injection e
  refine ⟨K, spF (l.tb K mg) w (runF l.G W k) 1 j, X, fun H a ns hl hO hS => ?_, fun base _ _ => ?_⟩
  · obtain ⟨hm, e⟩ := hrun ns hl
    exact entry (T := l.tb K mg) hO hS e
  · rw [efa]
    exact law_of (W := W) fx hd k hrun hnp
end Mi

namespace Lw
open PySem PySem.Spec PyProof.Rows L2 Mi
def top (i : Nat) : Stmt := PySem.Challenge.pw_lookcosts_k78_known_papers.main.body.getD i (.Pass ⟨0, 0, 0, 0⟩)
def mem (i j : Nat) : Stmt := match top i with
  | .ClassDef _ _ _ b _ _ _ _ _ _ _ => b.getD j (.Pass ⟨0, 0, 0, 0⟩)
  | _ => .Pass ⟨0, 0, 0, 0⟩
def b0 : List Sx := [.ifs (.or (.not (.isi (.var 0) .int)) (.isi (.var 0) .bool)) [.ret (.bl false)] [], .ret (.and (.or (.isN (.var 1)) (.cmp .ge (.var 0) (.var 1))) (.or (.isN (.var 2)) (.cmp .le (.var 0) (.var 2))))]
def b1 : List Sx := [.set 0 (.blt .abs [.var 0]), .whl (.cmp .gt (.var 1) (.int 0)) [.par 0 1 (.var 1) (.bin .mod (.blt .int [.var 0]) (.var 1))], .ret (.var 0)]
def b2 : List Sx := [.set 2 (.call 1 [.var 0, .var 1]), .ret (.tup [.bin .fdiv (.var 0) (.var 2), .bin .fdiv (.var 1) (.var 2)])]
def b3 : List Sx := [.ifs (.or (.not (.isi (.var 0) .tuple)) (.cmp .ne (.blt .len [.var 0]) (.int 2))) [.ret (.bl false)] [], .ifs (.or (.not (.call 0 [.idx (.var 0) (.int 0), .non, .non])) (.not (.call 0 [.idx (.var 0) (.int 1), .int 1, .non]))) [.ret (.bl false)] [], .ret (.cmp .eq (.call 1 [.idx (.var 0) (.int 0), .idx (.var 0) (.int 1)]) (.int 1))]
def b4 : List Sx := [.ret (.call 2 [.bin .add (.bin .mul (.idx (.var 0) (.int 0)) (.idx (.var 1) (.int 1))) (.bin .mul (.idx (.var 1) (.int 0)) (.idx (.var 0) (.int 1))), .bin .mul (.idx (.var 0) (.int 1)) (.idx (.var 1) (.int 1))])]
def b5 : List Sx := [.ret (.call 2 [.bin .sub (.bin .mul (.idx (.var 0) (.int 0)) (.idx (.var 1) (.int 1))) (.bin .mul (.idx (.var 1) (.int 0)) (.idx (.var 0) (.int 1))), .bin .mul (.idx (.var 0) (.int 1)) (.idx (.var 1) (.int 1))])]
def b6 : List Sx := [.ret (.call 2 [.bin .mul (.idx (.var 0) (.int 0)) (.idx (.var 1) (.int 0)), .bin .mul (.idx (.var 0) (.int 1)) (.idx (.var 1) (.int 1))])]
def b7 : List Sx := [.ret (.call 2 [.bin .mul (.idx (.var 0) (.int 0)) (.idx (.var 1) (.int 1)), .bin .mul (.idx (.var 0) (.int 1)) (.idx (.var 1) (.int 0))])]
def b8 : List Sx := [.ret (.cmp .lt (.bin .mul (.idx (.var 0) (.int 0)) (.idx (.var 1) (.int 1))) (.bin .mul (.idx (.var 1) (.int 0)) (.idx (.var 0) (.int 1))))]
def b9 : List Sx := [.ret (.ife (.call 8 [.var 1, .var 0]) (.var 1) (.var 0))]
def b10 : List Sx := [.ret (.ife (.call 8 [.var 0, .var 1]) (.var 1) (.var 0))]
def b11 : List Sx := [.set 1 (.lst false []), .for_ (.nm 2) (.var 0) [.set 3 (.int 0), .whl (.and (.cmp .lt (.var 3) (.blt .len [.var 1])) (.call 8 [.idx (.var 1) (.var 3), .var 2])) [.aug 3 .add (.int 1)], .set 1 (.bin .add (.bin .add (.slc (.var 1) none (some (.var 3))) (.lst false [.var 2])) (.slc (.var 1) (some (.var 3)) none))], .ret (.var 1)]
def b12 : List Sx := [.set 1 (.glb 0), .for_ (.nm 2) (.var 0) [.set 1 (.call 4 [.var 1, .var 2])], .ret (.var 1)]
def b13 : List Sx := [.ret (.cmp .eq (.idx (.var 0) (.int 0)) (.str ⟨#[101, 110, 100]⟩))]
def b14 : List Sx := [.ret (.call 0 [.var 0, .int 0, .glb 5])]
def b15 : List Sx := [.ret (.and (.isi (.var 0) .tuple) (.and (.cmp .eq (.blt .len [.var 0]) (.int 2)) (.call 0 [.idx (.var 0) (.int 0), .int 1, .glb 6])))]
def b16 : List Sx := [.ret (.and (.isi (.var 0) .tuple) (.and (.chn .le .le (.int 1) (.blt .len [.var 0]) (.glb 3)) (.blt .all [.comp false (.nm 1) (.var 0) [] (.call 15 [.var 1]) [1]])))]
def b17 : List Sx := [.ifs (.or (.not (.isi (.var 0) .tuple)) (.or (.cmp .lt (.blt .len [.var 0]) (.int 2)) (.not (.isi (.idx (.var 0) (.int 0)) .str)))) [.ret (.bl false)] [], .ifs (.cmp .eq (.idx (.var 0) (.int 0)) (.str ⟨#[101, 110, 100]⟩)) [.ret (.and (.cmp .eq (.blt .len [.var 0]) (.int 2)) (.call 0 [.idx (.var 0) (.int 1), .neg (.glb 4), .glb 4]))] [], .ret (.and (.cmp .eq (.idx (.var 0) (.int 0)) (.str ⟨#[115, 116, 101, 112]⟩)) (.and (.cmp .eq (.blt .len [.var 0]) (.int 3)) (.and (.callV 1 [.idx (.var 0) (.int 1)]) (.call 16 [.idx (.var 0) (.int 2)]))))]
def b18 : List Sx := [.set 2 (.lst true [.var 0]), .set 3 (.int 0), .whl (.cmp .lt (.var 3) (.blt .len [.var 2])) [.ifs (.or (.cmp .ge (.var 3) (.glb 2)) (.not (.call 17 [.idx (.var 2) (.var 3), .var 1]))) [.ret (.bl false)] [], .ifs (.not (.call 13 [.idx (.var 2) (.var 3)])) [.expr (.mth .extend (.var 2) [.comp false (.tup [.nm 4, .nm 5]) (.idx (.idx (.var 2) (.var 3)) (.int 2)) [] (.var 5) [4, 5]])] [], .aug 3 .add (.int 1)], .ret (.bl true)]
def b19 : List Sx := [.set 1 (.lst true []), .set 2 (.lst true [.tup [.tup [], .var 0]]), .whl (.cmp .gt (.blt .len [.var 2]) (.int 0)) [.unp (.tup [.nm 3, .nm 4]) (.mth .pop (.var 2) []), .expr (.mth .append (.var 1) [.tup [.var 3, .var 4]]), .ifs (.not (.call 13 [.var 4])) [.set 5 (.blt .len [.idx (.var 4) (.int 2)]), .expr (.mth .extend (.var 2) [.comp false (.nm 6) (.rng1 (.var 5)) [] (.tup [.bin .add (.var 3) (.tup [.bin .sub (.bin .sub (.var 5) (.int 1)) (.var 6)]), .idx (.idx (.idx (.var 4) (.int 2)) (.bin .sub (.bin .sub (.var 5) (.int 1)) (.var 6))) (.int 1)]) [6]])] []], .ret (.var 1)]
def b20 : List Sx := [.ret (.comp false (.tup [.nm 1, .nm 2]) (.call 19 [.var 0]) [.not (.call 13 [.var 2])] (.var 1) [1, 2])]
def b21 : List Sx := [.ret (.call 12 [.comp false (.tup [.nm 2, .nm 3]) (.var 0) [] (.call 6 [.var 3, .call 10 [.glb 0, .call 5 [.var 2, .var 1]]]) [2, 3]])]
def b22 : List Sx := [.set 1 (.blt .sum [.comp false (.tup [.nm 3, .nm 4]) (.var 0) [] (.var 3) [3, 4]]), .set 2 (.dic0), .for_ (.tup [.nm 3, .nm 4]) (.var 0) [.for_ (.tup [.nm 5, .nm 6]) (.var 4) [.sub (.var 2) (.var 5) (.call 4 [.mth .get (.var 2) [.var 5, .glb 0], .call 6 [.var 6, .call 2 [.var 3, .var 1]]])]], .ret (.blt .tuple [.comp false (.nm 5) (.call 11 [.blt .list [.var 2]]) [] (.tup [.var 5, .idx (.var 2) (.var 5)]) [5]])]
def b23 : List Sx := [.ifs (.cmp .eq (.var 1) (.glb 0)) [.ret (.idx (.idx (.var 0) (.neg (.int 1))) (.int 0))] [], .set 2 (.glb 0), .set 3 (.glb 0), .set 4 (.blt .len [.var 0]), .whl (.cmp .gt (.var 4) (.int 0)) [.aug 4 .sub (.int 1), .set 2 (.call 4 [.var 2, .idx (.idx (.var 0) (.var 4)) (.int 1)]), .set 3 (.call 4 [.var 3, .call 6 [.idx (.idx (.var 0) (.var 4)) (.int 0), .idx (.idx (.var 0) (.var 4)) (.int 1)]]), .set 5 (.call 7 [.call 5 [.var 3, .var 1], .var 2]), .ifs (.or (.cmp .eq (.var 4) (.int 0)) (.not (.call 8 [.var 5, .idx (.idx (.var 0) (.bin .sub (.var 4) (.int 1))) (.int 0)]))) [.ret (.var 5)] []], .ret (.glb 0)]
def b24 : List Sx := [.set 2 (.dic0), .for_ (.tup [.nm 3, .nm 4]) (.var 0) [.sub (.var 2) (.call 9 [.var 3, .var 1]) (.call 4 [.mth .get (.var 2) [.call 9 [.var 3, .var 1], .glb 0], .var 4])], .ret (.blt .tuple [.comp false (.nm 3) (.call 11 [.blt .list [.var 2]]) [] (.tup [.var 3, .idx (.var 2) (.var 3)]) [3]])]
def b25 : List Sx := [.ret (.call 22 [.comp false (.tup [.nm 1, .nm 2]) (.idx (.var 0) (.int 2)) [] (.tup [.var 1, .call 27 [.var 2]]) [1, 2]])]
def b26 : List Sx := [.ifs (.call 13 [.var 0]) [.ret (.tup [.idx (.var 0) (.int 1), .int 1])] [], .ret (.call 23 [.call 25 [.var 0], .tup [.idx (.var 0) (.int 1), .int 1]])]
def b27 : List Sx := [.ifs (.call 13 [.var 0]) [.ret (.tup [.tup [.tup [.idx (.var 0) (.int 1), .int 1], .glb 1]])] [], .ret (.call 24 [.call 25 [.var 0], .call 26 [.var 0]])]
def b28 : List Sx := [.set 2 (.dic1 (.glb 0) (.bl true)), .for_ (.nm 3) (.tup [.var 0, .var 1]) [.for_ (.tup [.nm 4, .nm 5]) (.var 3) [.ifs (.call 8 [.glb 0, .var 4]) [.sub (.var 2) (.var 4) (.bl true)] []]], .ret (.call 11 [.blt .list [.var 2]])]
def b29 : List Sx := [.for_ (.nm 2) (.call 28 [.var 0, .var 1]) [.ifs (.cmp .ne (.call 21 [.var 0, .var 2]) (.call 21 [.var 1, .var 2])) [.ret (.var 2)] []], .ret (.non)]
def b30 : List Sx := [.for_ (.nm 2) (.call 28 [.var 0, .var 1]) [.ifs (.call 8 [.call 21 [.var 0, .var 2], .call 21 [.var 1, .var 2]]) [.ret (.var 2)] []], .ret (.non)]
def b31 : List Sx := [.set 2 (.glb 0), .for_ (.tup [.nm 3, .nm 4]) (.var 0) [.ifs (.not (.call 8 [.var 3, .var 1])) [.set 2 (.call 4 [.var 2, .var 4])] []], .ret (.var 2)]
def b32 : List Sx := [.set 3 (.lst false [.glb 1]), .for_ (.nm 4) (.var 0) [.set 7 (.call 31 [.var 4, .var 1]), .set 8 (.bin .add (.comp false (.nm 10) (.var 3) [] (.call 6 [.var 10, .call 5 [.glb 1, .var 7]]) [10]) (.lst false [.glb 0])), .set 9 (.bin .add (.lst false [.glb 0]) (.comp false (.nm 10) (.var 3) [] (.call 6 [.var 10, .var 7]) [10])), .set 3 (.comp false (.nm 6) (.rng1 (.blt .len [.var 8])) [] (.call 4 [.idx (.var 8) (.var 6), .idx (.var 9) (.var 6)]) [6])], .set 5 (.glb 0), .for_ (.nm 6) (.rng1 (.blt .len [.var 3])) [.set 5 (.call 4 [.var 5, .call 6 [.idx (.var 3) (.var 6), .tup [.blt .min [.var 6, .var 2], .int 1]]])], .ret (.var 5)]
def b33 : List Sx := [.set 2 (.dic0), .for_ (.nm 3) (.var 0) [.for_ (.tup [.nm 6, .nm 7]) (.var 3) [.ifs (.call 8 [.glb 0, .var 6]) [.sub (.var 2) (.var 6) (.bl true)] []]], .set 4 (.glb 0), .set 5 (.glb 0), .for_ (.nm 6) (.call 11 [.blt .list [.var 2]]) [.set 4 (.call 4 [.var 4, .call 6 [.call 5 [.var 6, .var 5], .call 32 [.var 0, .var 6, .var 1]]]), .set 5 (.var 6)], .ret (.var 4)]
def b34 : List Sx := [.set 3 (.non), .for_ (.tup [.nm 5, .nm 6]) (.enm (.var 0)) [.ifs (.and (.not (.call 13 [.var 6])) (.or (.isN (.var 3)) (.call 8 [.idx (.var 1) (.var 3), .idx (.var 1) (.var 5)]))) [.set 3 (.var 5)] []], .ifs (.or (.isN (.var 3)) (.not (.call 8 [.glb 0, .idx (.var 1) (.var 3)]))) [.ret (.non)] [], .set 4 (.comp false (.nm 6) (.var 0) [.and (.call 13 [.var 6]) (.not (.call 8 [.tup [.idx (.var 6) (.int 1), .int 1], .idx (.var 1) (.var 3)]))] (.var 6) [6]), .ret (.ife (.cmp .lt (.blt .len [.var 4]) (.var 2)) (.var 3) (.non))]
def b35 : List Sx := [.ret (.call 2 [.var 0, .blt .sum [.comp false (.tup [.nm 2, .nm 3]) (.var 1) [] (.var 2) [2, 3]]])]
def b36 : List Sx := [.ifs (.or (.not (.isi (.var 0) .tuple)) (.cmp .ne (.blt .len [.var 0]) (.blt .len [.call 20 [.var 1]]))) [.ret (.bl false)] [], .ret (.blt .all [.comp false (.nm 2) (.var 0) [] (.call 3 [.var 2]) [2]])]
def b37 : List Sx := [.for_ (.tup [.nm 2, .nm 3]) (.enm (.var 0)) [.ifs (.or (.cmp .ge (.var 2) (.blt .len [.var 1])) (.not (.call 36 [.var 3, .idx (.var 1) (.var 2)]))) [.ret (.var 2)] []], .ret (.non)]
def b38 : List Sx := [.fld (.var 0) 0 (.var 1), .fld (.var 0) 1 (.var 2), .fld (.var 0) 2 (.var 3), .fld (.var 0) 3 (.var 4), .fld (.var 0) 4 (.var 5), .fld (.var 0) 5 (.var 6), .fld (.var 0) 6 (.var 7)]
def b39 : List Sx := [.ret (.comp false (.tup [.nm 1, .nm 2]) (.enm (.fld (.var 0) 1)) [] (.ife (.call 13 [.var 2]) (.tup [.idx (.var 2) (.int 1), .int 1]) (.idx (.idx (.fld (.var 0) 2) (.var 1)) (.int 0))) [1, 2])]
def b40 : List Sx := [.set 2 (.lst true []), .set 3 (.int 1), .for_ (.tup [.nm 4, .nm 5]) (.idx (.var 0) (.int 2)) [.set 6 (.blt .len [.call 20 [.var 5]]), .expr (.mth .append (.var 2) [.slc (.var 1) (some (.var 3)) (some (.bin .add (.var 3) (.var 6)))]), .aug 3 .add (.var 6)], .ret (.var 2)]
def b41 : List Sx := [.ret (.bin .add (.bin .add (.slc (.var 0) none (some (.var 1))) (.lst false [.var 2])) (.slc (.var 0) (some (.bin .add (.var 1) (.int 1))) none))]
def b42 : List Sx := [.set 2 (.idx (.fld (.var 0) 1) (.var 1)), .set 3 (.call 40 [.var 2, .idx (.fld (.var 0) 2) (.var 1)]), .set 4 (.call 26 [.var 2]), .set 5 (.ife (.isN (.idx (.fld (.var 0) 6) (.var 1))) (.var 4) (.call 9 [.var 4, .idx (.fld (.var 0) 6) (.var 1)])), .set 6 (.call 41 [.fld (.var 0) 6, .var 1, .var 5]), .set 7 (.lst true []), .for_ (.tup [.nm 8, .nm 9]) (.enm (.idx (.var 2) (.int 2))) [.set 10 (.call 6 [.fld (.var 0) 3, .call 35 [.idx (.var 9) (.int 0), .idx (.var 2) (.int 2)]]), .set 11 (.call 41 [.fld (.var 0) 0, .var 1, .bin .add (.idx (.fld (.var 0) 0) (.var 1)) (.tup [.var 8])]), .set 12 (.call 41 [.fld (.var 0) 1, .var 1, .idx (.var 9) (.int 1)]), .set 13 (.call 41 [.fld (.var 0) 2, .var 1, .idx (.var 3) (.var 8)]), .expr (.mth .append (.var 7) [.new 0 [.var 11, .var 12, .var 13, .var 10, .bin .add (.fld (.var 0) 4) (.idx (.var 2) (.int 1)), .bin .add (.fld (.var 0) 5) (.int 1), .var 6]])], .ret (.var 7)]
def b43 : List Sx := [.set 3 (.comp false (.nm 8) (.var 0) [] (.non) [8]), .set 4 (.lst true [.new 0 [.comp false (.nm 8) (.var 0) [] (.tup []) [8], .blt .list [.var 0], .blt .list [.var 1], .glb 1, .int 0, .int 0, .var 3]]), .set 5 (.lst true []), .whl (.cmp .gt (.blt .len [.var 4]) (.int 0)) [.set 6 (.mth .pop (.var 4) []), .set 7 (.call 34 [.fld (.var 6) 1, .call 39 [.var 6], .var 2]), .expr (.mth .append (.var 5) [.tup [.var 6, .var 7]]), .ifs (.notN (.var 7)) [.expr (.mth .extend (.var 4) [.call 42 [.var 6, .var 7]])] []], .ret (.var 5)]
def b44 : List Sx := [.ret (.comp false (.tup [.nm 3, .nm 4]) (.call 43 [.var 0, .var 1, .var 2]) [.isN (.var 4)] (.var 3) [3, 4])]
def b45 : List Sx := [.set 2 (.comp false (.tup [.nm 3, .nm 4]) (.enm (.var 0)) [.and (.call 13 [.var 4]) (.cmp .gt (.idx (.var 4) (.int 1)) (.int 0))] (.tup [.neg (.idx (.var 4) (.int 1)), .var 3]) [3, 4]), .ret (.comp false (.tup [.nm 5, .nm 3]) (.slc (.blt .sorted [.var 2]) none (some (.var 1))) [] (.var 3) [5, 3])]
def b46 : List Sx := [.ret (.bin .sub (.blt .sum [.comp false (.nm 2) (.call 45 [.fld (.var 0) 1, .var 1]) [] (.idx (.idx (.fld (.var 0) 1) (.var 2)) (.int 1)) [2]]) (.fld (.var 0) 4))]
def b47 : List Sx := [.ret (.call 12 [.comp false (.nm 3) (.call 44 [.var 0, .var 1, .var 2]) [] (.call 6 [.fld (.var 3) 3, .tup [.call 46 [.var 3, .var 2], .int 1]]) [3]])]
def b48 : List Sx := [.ifs (.or (.not (.isi (.var 0) .tuple)) (.not (.chn .le .le (.int 1) (.blt .len [.var 0]) (.glb 7)))) [.ret (.bl false)] [], .ret (.blt .all [.comp false (.nm 1) (.var 0) [] (.call 18 [.var 1, .glb 10]) [1]])]
def b49 : List Sx := [.ifs (.or (.not (.call 18 [.idx (.var 0) (.int 1), .glb 10])) (.not (.call 18 [.idx (.var 0) (.int 2), .glb 10]))) [.ret (.bl false)] [], .ret (.or (.cmp .ne (.idx (.var 0) (.int 0)) (.str ⟨#[97, 112, 97, 114, 116]⟩)) (.and (.call 3 [.idx (.var 0) (.int 3)]) (.not (.call 8 [.idx (.var 0) (.int 3), .glb 0]))))]
def b50 : List Sx := [.ifs (.or (.not (.isi (.var 0) .tuple)) (.or (.cmp .eq (.blt .len [.var 0]) (.int 0)) (.or (.not (.isi (.idx (.var 0) (.int 0)) .str)) (.cmp .ni (.idx (.var 0) (.int 0)) (.glb 9))))) [.ret (.bl false)] [], .ifs (.cmp .ne (.blt .len [.var 0]) (.idx (.glb 9) (.idx (.var 0) (.int 0)))) [.ret (.bl false)] [], .ifs (.cmp .in_ (.idx (.var 0) (.int 0)) (.tup [.str ⟨#[108, 101, 97, 115, 116]⟩, .str ⟨#[109, 111, 115, 116]⟩])) [.ret (.and (.call 48 [.idx (.var 0) (.int 1)]) (.and (.call 0 [.idx (.var 0) (.int 2), .int 1, .glb 8]) (.call 3 [.idx (.var 0) (.int 3)])))] [], .ret (.call 49 [.var 0])]
def b51 : List Sx := [.ifs (.call 13 [.var 0]) [.ret (.tup [.tup [.tup [.idx (.var 0) (.int 1), .int 1], .glb 1]])] [], .set 2 (.lst true []), .set 3 (.int 1), .for_ (.tup [.nm 5, .nm 6]) (.idx (.var 0) (.int 2)) [.set 7 (.blt .len [.call 20 [.var 6]]), .set 8 (.call 51 [.var 6, .slc (.var 1) (some (.var 3)) (some (.bin .add (.var 3) (.var 7)))]), .ifs (.isN (.var 8)) [.ret (.non)] [], .expr (.mth .append (.var 2) [.tup [.var 5, .var 8]]), .aug 3 .add (.var 7)], .set 4 (.call 22 [.frz (.var 2)]), .ifs (.call 8 [.tup [.idx (.var 0) (.int 1), .int 1], .call 21 [.var 4, .idx (.var 1) (.int 0)]]) [.ret (.non)] [], .ret (.call 24 [.var 4, .idx (.var 1) (.int 0)])]
def b52 : List Sx := [.set 4 (.comp false (.tup [.nm 5, .nm 6]) (.enm (.var 0)) [] (.call 51 [.var 6, .idx (.var 3) (.var 5)]) [5, 6]), .ifs (.blt .any [.comp false (.nm 7) (.var 4) [] (.isN (.var 7)) [7]]) [.ret (.bl false)] [], .ret (.not (.call 8 [.var 2, .call 33 [.var 4, .var 1]]))]
def b53 : List Sx := [.ifs (.not (.call 50 [.var 0])) [.ret (.bl false)] [], .ifs (.cmp .in_ (.idx (.var 0) (.int 0)) (.tup [.str ⟨#[108, 101, 97, 115, 116]⟩, .str ⟨#[109, 111, 115, 116]⟩])) [.ifs (.or (.not (.isi (.var 1) .tuple)) (.or (.cmp .ne (.blt .len [.var 1]) (.blt .len [.idx (.var 0) (.int 1)])) (.notN (.call 37 [.var 1, .idx (.var 0) (.int 1)])))) [.ret (.bl false)] [], .ifs (.cmp .eq (.idx (.var 0) (.int 0)) (.str ⟨#[109, 111, 115, 116]⟩)) [.ret (.call 52 [.idx (.var 0) (.int 1), .idx (.var 0) (.int 2), .idx (.var 0) (.int 3), .var 1])] [], .ret (.not (.call 8 [.call 47 [.idx (.var 0) (.int 1), .var 1, .idx (.var 0) (.int 2)], .idx (.var 0) (.int 3)]))] [], .ifs (.notN (.var 1)) [.ret (.bl false)] [], .par 2 3 (.call 27 [.idx (.var 0) (.int 1)]) (.call 27 [.idx (.var 0) (.int 2)]), .ifs (.cmp .eq (.idx (.var 0) (.int 0)) (.str ⟨#[97, 108, 105, 107, 101]⟩)) [.ret (.isN (.call 29 [.var 2, .var 3]))] [], .ifs (.cmp .eq (.idx (.var 0) (.int 0)) (.str ⟨#[110, 101, 118, 101, 114]⟩)) [.ret (.isN (.call 30 [.var 2, .var 3]))] [], .ret (.call 8 [.call 21 [.var 2, .idx (.var 0) (.int 3)], .call 21 [.var 3, .idx (.var 0) (.int 3)]])]
def b54 : List Sx := [.set 2 (.ife (.cmp .lt (.var 1) (.blt .len [.var 0])) (.blt .int [.idx (.var 0) (.var 1)]) (.bin .add (.bin .mul (.int 2417) (.var 1)) (.int 89))), .set 3 (.bin .add (.int 70001) (.bin .mul (.int 463) (.var 1))), .for_ (.nm 4) (.bin .add (.slc (.var 0) none (some (.int 5))) (.lst false [.var 2])) [.set 3 (.bin .mod (.blt .int [.bin .add (.bin .mul (.var 3) (.int 31019)) (.blt .int [.var 4])]) (.int 2147483033))], .ret (.lst true [.ife (.or (.cmp .lt (.var 2) (.int 0)) (.cmp .ge (.var 2) (.bin .pow (.int 10) (.int 18)))) (.blt .abs [.var 2]) (.int 0), .var 3, .int 0])]
def b55 : List Sx := [.sub (.var 0) (.int 2) (.bin .add (.idx (.var 0) (.int 2)) (.int 1)), .set 2 (.blt .int [.idx (.var 0) (.int 1)]), .sub (.var 0) (.int 1) (.bin .mod (.blt .int [.bin .add (.bin .add (.bin .mul (.var 2) (.bin .add (.bin .mod (.blt .int [.var 2]) (.int 14009)) (.int 23003))) (.bin .mul (.int 10007) (.idx (.var 0) (.int 2)))) (.int 43)]) (.int 2147483033)), .ifs (.cmp .gt (.idx (.var 0) (.int 0)) (.int 0)) [.subn (.var 0) (.int 0) 3 (.blt .divmod [.idx (.var 0) (.int 0), .var 1]), .ret (.var 3)] [], .ret (.bin .mod (.blt .int [.bin .fdiv (.idx (.var 0) (.int 1)) (.int 98)]) (.var 1))]
def b56 : List Sx := [.ret (.idx (.var 1) (.call 55 [.var 0, .blt .len [.var 1]]))]
def b57 : List Sx := [.par 2 3 (.blt .abs [.var 0]) (.var 1), .whl (.cmp .gt (.var 3) (.int 0)) [.par 2 3 (.var 3) (.bin .mod (.blt .int [.var 2]) (.var 3))], .ret (.tup [.bin .fdiv (.var 0) (.var 2), .bin .fdiv (.var 1) (.var 2)])]
def b58 : List Sx := [.ret (.call 57 [.bin .add (.bin .mul (.idx (.var 0) (.int 0)) (.idx (.var 1) (.int 1))) (.bin .mul (.idx (.var 1) (.int 0)) (.idx (.var 0) (.int 1))), .bin .mul (.idx (.var 0) (.int 1)) (.idx (.var 1) (.int 1))])]
def b59 : List Sx := [.ret (.call 57 [.bin .sub (.bin .mul (.idx (.var 0) (.int 0)) (.idx (.var 1) (.int 1))) (.bin .mul (.idx (.var 1) (.int 0)) (.idx (.var 0) (.int 1))), .bin .mul (.idx (.var 0) (.int 1)) (.idx (.var 1) (.int 1))])]
def b60 : List Sx := [.set 3 (.lst false [.call 53 [.var 0, .var 1], .callK 53 [1, 0] [.var 1, .var 0]]), .ret (.cmp .eq (.blt .repr [.var 3]) (.blt .repr [.lst false [.var 2, .var 2]]))]
def b61 : List Sx := [.set 1 (.tup [.str ⟨#[115, 116, 101, 112]⟩, .int 2, .tup [.tup [.int 1, .tup [.str ⟨#[101, 110, 100]⟩, .int 0]], .tup [.int 1, .tup [.str ⟨#[101, 110, 100]⟩, .int 10]]]]), .set 2 (.call 56 [.var 0, .lst false [.tup [.int 1, .int 1], .tup [.int 1, .int 9], .tup [.int 5, .int 1], .tup [.int 6, .int 1], .tup [.int 99, .int 1]]]), .ifs (.not (.call 60 [.tup [.str ⟨#[108, 101, 97, 115, 116]⟩, .tup [.var 1], .int 1, .tup [.int 3, .int 1]], .tup [.tup [.var 2]], .bl true])) [.ret (.bl false)] [], .set 3 (.call 56 [.var 0, .lst false [.tup [.int 0, .int 1], .tup [.neg (.int 1), .int 2], .tup [.neg (.int 7), .int 1]]]), .ifs (.not (.call 60 [.tup [.str ⟨#[108, 101, 97, 115, 116]⟩, .tup [.var 1], .int 1, .tup [.int 3, .int 1]], .tup [.tup [.var 3]], .bl false])) [.ret (.bl false)] [], .ifs (.not (.call 60 [.tup [.str ⟨#[108, 101, 97, 115, 116]⟩, .tup [.var 1], .int 1, .tup [.int 0, .int 1]], .tup [.tup [.var 3]], .bl true])) [.ret (.bl false)] [], .set 4 (.bin .add (.int 6) (.call 55 [.var 0, .int 9])), .set 5 (.call 57 [.blt .min [.var 4, .int 10], .int 2]), .ifs (.not (.call 60 [.tup [.str ⟨#[109, 111, 115, 116]⟩, .tup [.var 1], .int 3, .var 5], .tup [.tup [.tup [.var 4, .int 1]]], .bl true])) [.ret (.bl false)] [], .ifs (.not (.call 60 [.tup [.str ⟨#[109, 111, 115, 116]⟩, .tup [.var 1], .int 3, .call 59 [.var 5, .tup [.int 1, .int 8]]], .tup [.tup [.tup [.var 4, .int 1]]], .bl false])) [.ret (.bl false)] [], .ret (.call 60 [.tup [.str ⟨#[109, 111, 115, 116]⟩, .tup [.var 1], .int 1, .tup [.int 9, .int 1]], .tup [.tup [.call 56 [.var 0, .lst false [.tup [.int 5, .int 1], .tup [.int 17, .int 3], .tup [.int 0, .int 1], .tup [.neg (.int 2), .int 1]]]]], .bl false])]
def b62 : List Sx := [.ifs (.not (.call 61 [.var 0])) [.ret (.bl false)] [], .unp (.tup [.nm 3, .nm 4]) (.tup [.tup [.str ⟨#[115, 116, 101, 112]⟩, .int 2, .tup [.tup [.int 1, .tup [.str ⟨#[101, 110, 100]⟩, .int 0]], .tup [.int 1, .tup [.str ⟨#[101, 110, 100]⟩, .int 10]]]], .tup [.str ⟨#[115, 116, 101, 112]⟩, .int 1, .tup [.tup [.int 1, .tup [.str ⟨#[101, 110, 100]⟩, .int 4]], .tup [.int 1, .tup [.str ⟨#[101, 110, 100]⟩, .int 8]]]]]), .set 1 (.tup [.str ⟨#[115, 116, 101, 112]⟩, .int 1, .tup [.tup [.int 1, .tup [.str ⟨#[101, 110, 100]⟩, .neg (.int 5)]], .tup [.int 1, .tup [.str ⟨#[115, 116, 101, 112]⟩, .int 3, .tup [.tup [.int 1, .tup [.str ⟨#[101, 110, 100]⟩, .int 0]], .tup [.int 1, .tup [.str ⟨#[101, 110, 100]⟩, .int 20]]]]]]]), .ifs (.not (.call 60 [.tup [.str ⟨#[109, 111, 115, 116]⟩, .tup [.var 1], .int 1, .tup [.int 5, .int 2]], .tup [.tup [.tup [.int 10, .int 1], .tup [.int 14, .int 1]]], .bl true])) [.ret (.bl false)] [], .ifs (.not (.call 60 [.tup [.str ⟨#[109, 111, 115, 116]⟩, .tup [.var 1], .int 1, .tup [.int 9, .int 1]], .tup [.tup [.tup [.int 10, .int 1], .tup [.int 13, .int 1]]], .bl false])) [.ret (.bl false)] [], .ifs (.not (.call 60 [.tup [.str ⟨#[109, 111, 115, 116]⟩, .tup [.var 1], .int 1, .tup [.int 9, .int 1]], .tup [.tup [.tup [.int 9, .int 1], .tup [.int 14, .int 1]]], .bl false])) [.ret (.bl false)] [], .for_ (.tup [.nm 5, .nm 6, .nm 7]) (.lst false [.tup [.tup [.int 5, .int 2], .tup [.int 1, .int 1], .bl true], .tup [.tup [.neg (.int 1), .int 1], .tup [.int 0, .int 1], .bl true], .tup [.tup [.int 0, .int 1], .tup [.int 0, .int 1], .bl false]]) [.ifs (.not (.call 60 [.tup [.str ⟨#[108, 101, 97, 115, 116]⟩, .tup [.var 1], .int 1, .var 5], .tup [.tup [.tup [.int 1, .int 1], .var 6]], .var 7])) [.ret (.bl false)] []], .par 8 9 (.tup [.var 3, .var 4]) (.tup [.tup [.tup [.int 6, .int 1]], .tup [.tup [.int 6, .int 1]]]), .for_ (.tup [.nm 10, .nm 5]) (.lst false [.tup [.int 1, .tup [.int 11, .int 2]], .tup [.int 2, .tup [.int 8, .int 1]], .tup [.int 3, .tup [.int 8, .int 1]]]) [.ifs (.not (.call 60 [.tup [.str ⟨#[109, 111, 115, 116]⟩, .var 8, .var 10, .var 5], .var 9, .bl true])) [.ret (.bl false)] [], .ifs (.not (.call 60 [.tup [.str ⟨#[108, 101, 97, 115, 116]⟩, .var 8, .var 10, .var 5], .var 9, .bl true])) [.ret (.bl false)] [], .ifs (.not (.call 60 [.tup [.str ⟨#[108, 101, 97, 115, 116]⟩, .var 8, .var 10, .call 58 [.var 5, .tup [.int 1, .int 9]]], .var 9, .bl false])) [.ret (.bl false)] []], .ifs (.or (.not (.call 60 [.tup [.str ⟨#[110, 101, 118, 101, 114]⟩, .var 4, .var 3], .non, .bl true])) (.not (.call 60 [.tup [.str ⟨#[110, 101, 118, 101, 114]⟩, .var 3, .var 4], .non, .bl false]))) [.ret (.bl false)] [], .set 2 (.lst false [.tup [.int 3, .int 1], .tup [.int 4, .int 1], .tup [.int 9, .int 2], .tup [.int 9, .int 1], .tup [.int 10, .int 1]]), .ret (.cmp .eq (.comp false (.nm 11) (.var 2) [] (.call 53 [.tup [.str ⟨#[97, 112, 97, 114, 116]⟩, .var 4, .var 1, .var 11], .non]) [11]) (.lst false [.bl false, .bl true, .bl true, .bl true, .bl false]))]
def b63 : List Sx := [.set 1 (.comp false (.nm 2) (.rng1 (.blt .max [.int 2, .blt .min [.blt .len [.var 0], .int 5]])) [] (.call 54 [.var 0, .var 2]) [2]), .ret (.blt .all [.comp false (.nm 3) (.var 1) [] (.call 62 [.var 3]) [3]])]
def dfs : List Df := [⟨3, 3, true, b0⟩,
  ⟨2, 2, true, b1⟩,
  ⟨2, 3, true, b2⟩,
  ⟨1, 1, true, b3⟩,
  ⟨2, 2, true, b4⟩,
  ⟨2, 2, true, b5⟩,
  ⟨2, 2, true, b6⟩,
  ⟨2, 2, true, b7⟩,
  ⟨2, 2, true, b8⟩,
  ⟨2, 2, true, b9⟩,
  ⟨2, 2, true, b10⟩,
  ⟨1, 4, true, b11⟩,
  ⟨1, 3, true, b12⟩,
  ⟨1, 1, true, b13⟩,
  ⟨1, 1, true, b14⟩,
  ⟨1, 1, true, b15⟩,
  ⟨1, 2, true, b16⟩,
  ⟨2, 2, true, b17⟩,
  ⟨2, 6, true, b18⟩,
  ⟨1, 7, true, b19⟩,
  ⟨1, 3, true, b20⟩,
  ⟨2, 4, true, b21⟩,
  ⟨1, 7, true, b22⟩,
  ⟨2, 6, true, b23⟩,
  ⟨2, 5, true, b24⟩,
  ⟨1, 3, true, b25⟩,
  ⟨1, 1, true, b26⟩,
  ⟨1, 1, true, b27⟩,
  ⟨2, 6, true, b28⟩,
  ⟨2, 3, true, b29⟩,
  ⟨2, 3, true, b30⟩,
  ⟨2, 5, true, b31⟩,
  ⟨3, 11, true, b32⟩,
  ⟨2, 8, true, b33⟩,
  ⟨3, 7, true, b34⟩,
  ⟨2, 4, true, b35⟩,
  ⟨2, 3, true, b36⟩,
  ⟨2, 4, true, b37⟩,
  ⟨8, 8, false, b38⟩,
  ⟨1, 3, true, b39⟩,
  ⟨2, 7, true, b40⟩,
  ⟨3, 3, true, b41⟩,
  ⟨2, 14, true, b42⟩,
  ⟨3, 9, true, b43⟩,
  ⟨3, 5, true, b44⟩,
  ⟨2, 6, true, b45⟩,
  ⟨2, 3, true, b46⟩,
  ⟨3, 4, true, b47⟩,
  ⟨1, 2, true, b48⟩,
  ⟨1, 1, true, b49⟩,
  ⟨1, 1, true, b50⟩,
  ⟨2, 9, true, b51⟩,
  ⟨4, 8, true, b52⟩,
  ⟨2, 4, true, b53⟩,
  ⟨2, 5, false, b54⟩,
  ⟨2, 4, false, b55⟩,
  ⟨2, 2, false, b56⟩,
  ⟨2, 4, true, b57⟩,
  ⟨2, 2, true, b58⟩,
  ⟨2, 2, true, b59⟩,
  ⟨3, 4, true, b60⟩,
  ⟨1, 6, false, b61⟩,
  ⟨1, 12, false, b62⟩,
  ⟨1, 4, false, b63⟩]
def glos : List MV := [.tup [.int 0, .int 1], .tup [.int 1, .int 1], .int 15, .int 5, .int 1000000, .int 1000000, .int 1000, .int 4, .int 3, .kd 0, .fn 14]
def kdss : List (List (Str × MV)) := [[(⟨#[108, 101, 97, 115, 116]⟩, .int 4), (⟨#[109, 111, 115, 116]⟩, .int 4), (⟨#[97, 108, 105, 107, 101]⟩, .int 3), (⟨#[110, 101, 118, 101, 114]⟩, .int 3), (⟨#[97, 112, 97, 114, 116]⟩, .int 4)]]
def clss : List Cl := [⟨[0, 1, 2, 3, 4, 5, 6], 38⟩]
def GG : Gm := ⟨dfs, glos, kdss, clss, 0⟩
def gns : List Str := [("ZERO" : Str), ("ONE" : Str), ("MOST_NODES" : Str), ("MOST_BRANCHES" : Str), ("MOST_WORTH" : Str), ("MOST_COST" : Str), ("MOST_WEIGHT" : Str), ("MOST_OFFERS" : Str), ("MOST_PICKS" : Str), ("LENGTHS" : Str), ("is_cost" : Str)]
def dns : List Str := [("is_between" : Str), ("common" : Str), ("lowest" : Str), ("is_fraction" : Str), ("add" : Str), ("less" : Str), ("times" : Str), ("over" : Str), ("is_below" : Str), ("lesser" : Str), ("greater" : Str), ("ordered" : Str), ("total" : Str), ("is_end" : Str), ("is_cost" : Str), ("is_pair" : Str), ("are_branches" : Str), ("is_node" : Str), ("is_tree" : Str), ("nodes_of" : Str), ("steps_in" : Str), ("mean_above" : Str), ("mixed" : Str), ("strike_in" : Str), ("capped" : Str), ("below" : Str), ("strike_of" : Str), ("table_of" : Str), ("places_of" : Str), ("first_unlike" : Str), ("first_less" : Str), ("chance_from" : Str), ("mean_count" : Str), ("topped" : Str), ("chosen" : Str), ("share" : Str), ("is_row" : Str), ("first_bad_row" : Str), ("" : Str), ("numbers_at" : Str), ("rows_below" : Str), ("put" : Str), ("walks_on" : Str), ("all_walks" : Str), ("last_walks" : Str), ("taken_in" : Str), ("gain_in" : Str), ("gain_of" : Str), ("are_trees" : Str), ("is_about_two" : Str), ("is_claim" : Str), ("bounded" : Str), ("is_bound" : Str), ("accepts" : Str), ("_law_tray" : Str), ("_law_spoon" : Str), ("_law_pick" : Str), ("_law_low" : Str), ("_law_sum" : Str), ("_law_gap" : Str), ("_law_takes" : Str), ("_law_flat_right" : Str), ("_law_right" : Str), ("law" : Str)]
def cns : List Str := [("Walk" : Str)]
def ans : List Str := [("places" : Str), ("stand" : Str), ("lists" : Str), ("chance" : Str), ("spent" : Str), ("many_gone" : Str), ("floors" : Str)]
def kwsS : List Kw := [(53, 0, [("paper" : Str), ("claim" : Str)], [1, 0])]
def SG : Sig := ⟨gns, dns, cns, ans, kwsS⟩
def ats : List (Str × Option Str) := [(("is_between" : Str), none), (("common" : Str), none), (("lowest" : Str), none), (("is_fraction" : Str), none), (("add" : Str), none), (("less" : Str), none), (("times" : Str), none), (("over" : Str), none), (("is_below" : Str), none), (("lesser" : Str), none), (("greater" : Str), none), (("ordered" : Str), none), (("total" : Str), none), (("is_end" : Str), none), (("is_cost" : Str), none), (("is_pair" : Str), none), (("are_branches" : Str), none), (("is_node" : Str), none), (("is_tree" : Str), none), (("nodes_of" : Str), none), (("steps_in" : Str), none), (("mean_above" : Str), none), (("mixed" : Str), none), (("strike_in" : Str), none), (("capped" : Str), none), (("below" : Str), none), (("strike_of" : Str), none), (("table_of" : Str), none), (("places_of" : Str), none), (("first_unlike" : Str), none), (("first_less" : Str), none), (("chance_from" : Str), none), (("mean_count" : Str), none), (("topped" : Str), none), (("chosen" : Str), none), (("share" : Str), none), (("is_row" : Str), none), (("first_bad_row" : Str), none), (("Walk" : Str), some ("__init__" : Str)), (("numbers_at" : Str), none), (("rows_below" : Str), none), (("put" : Str), none), (("walks_on" : Str), none), (("all_walks" : Str), none), (("last_walks" : Str), none), (("taken_in" : Str), none), (("gain_in" : Str), none), (("gain_of" : Str), none), (("are_trees" : Str), none), (("is_about_two" : Str), none), (("is_claim" : Str), none), (("bounded" : Str), none), (("is_bound" : Str), none), (("accepts" : Str), none), (("_law_tray" : Str), none), (("_law_spoon" : Str), none), (("_law_pick" : Str), none), (("_law_low" : Str), none), (("_law_sum" : Str), none), (("_law_gap" : Str), none), (("_law_takes" : Str), none), (("_law_flat_right" : Str), none), (("_law_right" : Str), none), (("law" : Str), none)]
def f0 : He.DefD := ⟨(("is_between" : Str), none), ("is_between" : Str), ("is_between" : Str), defArgs (top 3), defBody (top 3), defScope (top 3), [], []⟩
def f1 : He.DefD := ⟨(("common" : Str), none), ("common" : Str), ("common" : Str), defArgs (top 4), defBody (top 4), defScope (top 4), [], []⟩
def f2 : He.DefD := ⟨(("lowest" : Str), none), ("lowest" : Str), ("lowest" : Str), defArgs (top 5), defBody (top 5), defScope (top 5), [], []⟩
def f3 : He.DefD := ⟨(("is_fraction" : Str), none), ("is_fraction" : Str), ("is_fraction" : Str), defArgs (top 6), defBody (top 6), defScope (top 6), [], []⟩
def f4 : He.DefD := ⟨(("add" : Str), none), ("add" : Str), ("add" : Str), defArgs (top 7), defBody (top 7), defScope (top 7), [], []⟩
def f5 : He.DefD := ⟨(("less" : Str), none), ("less" : Str), ("less" : Str), defArgs (top 8), defBody (top 8), defScope (top 8), [], []⟩
def f6 : He.DefD := ⟨(("times" : Str), none), ("times" : Str), ("times" : Str), defArgs (top 9), defBody (top 9), defScope (top 9), [], []⟩
def f7 : He.DefD := ⟨(("over" : Str), none), ("over" : Str), ("over" : Str), defArgs (top 10), defBody (top 10), defScope (top 10), [], []⟩
def f8 : He.DefD := ⟨(("is_below" : Str), none), ("is_below" : Str), ("is_below" : Str), defArgs (top 11), defBody (top 11), defScope (top 11), [], []⟩
def f9 : He.DefD := ⟨(("lesser" : Str), none), ("lesser" : Str), ("lesser" : Str), defArgs (top 12), defBody (top 12), defScope (top 12), [], []⟩
def f10 : He.DefD := ⟨(("greater" : Str), none), ("greater" : Str), ("greater" : Str), defArgs (top 13), defBody (top 13), defScope (top 13), [], []⟩
def f11 : He.DefD := ⟨(("ordered" : Str), none), ("ordered" : Str), ("ordered" : Str), defArgs (top 14), defBody (top 14), defScope (top 14), [], []⟩
def f12 : He.DefD := ⟨(("total" : Str), none), ("total" : Str), ("total" : Str), defArgs (top 15), defBody (top 15), defScope (top 15), [], []⟩
def f13 : He.DefD := ⟨(("is_end" : Str), none), ("is_end" : Str), ("is_end" : Str), defArgs (top 24), defBody (top 24), defScope (top 24), [], []⟩
def f14 : He.DefD := ⟨(("is_cost" : Str), none), ("is_cost" : Str), ("is_cost" : Str), defArgs (top 25), defBody (top 25), defScope (top 25), [], []⟩
def f15 : He.DefD := ⟨(("is_pair" : Str), none), ("is_pair" : Str), ("is_pair" : Str), defArgs (top 26), defBody (top 26), defScope (top 26), [], []⟩
def f16 : He.DefD := ⟨(("are_branches" : Str), none), ("are_branches" : Str), ("are_branches" : Str), defArgs (top 27), defBody (top 27), defScope (top 27), [], []⟩
def f17 : He.DefD := ⟨(("is_node" : Str), none), ("is_node" : Str), ("is_node" : Str), defArgs (top 28), defBody (top 28), defScope (top 28), [], []⟩
def f18 : He.DefD := ⟨(("is_tree" : Str), none), ("is_tree" : Str), ("is_tree" : Str), defArgs (top 29), defBody (top 29), defScope (top 29), [], []⟩
def f19 : He.DefD := ⟨(("nodes_of" : Str), none), ("nodes_of" : Str), ("nodes_of" : Str), defArgs (top 30), defBody (top 30), defScope (top 30), [], []⟩
def f20 : He.DefD := ⟨(("steps_in" : Str), none), ("steps_in" : Str), ("steps_in" : Str), defArgs (top 31), defBody (top 31), defScope (top 31), [], []⟩
def f21 : He.DefD := ⟨(("mean_above" : Str), none), ("mean_above" : Str), ("mean_above" : Str), defArgs (top 33), defBody (top 33), defScope (top 33), [], []⟩
def f22 : He.DefD := ⟨(("mixed" : Str), none), ("mixed" : Str), ("mixed" : Str), defArgs (top 34), defBody (top 34), defScope (top 34), [], []⟩
def f23 : He.DefD := ⟨(("strike_in" : Str), none), ("strike_in" : Str), ("strike_in" : Str), defArgs (top 35), defBody (top 35), defScope (top 35), [], []⟩
def f24 : He.DefD := ⟨(("capped" : Str), none), ("capped" : Str), ("capped" : Str), defArgs (top 36), defBody (top 36), defScope (top 36), [], []⟩
def f25 : He.DefD := ⟨(("below" : Str), none), ("below" : Str), ("below" : Str), defArgs (top 37), defBody (top 37), defScope (top 37), [], []⟩
def f26 : He.DefD := ⟨(("strike_of" : Str), none), ("strike_of" : Str), ("strike_of" : Str), defArgs (top 38), defBody (top 38), defScope (top 38), [], []⟩
def f27 : He.DefD := ⟨(("table_of" : Str), none), ("table_of" : Str), ("table_of" : Str), defArgs (top 39), defBody (top 39), defScope (top 39), [], []⟩
def f28 : He.DefD := ⟨(("places_of" : Str), none), ("places_of" : Str), ("places_of" : Str), defArgs (top 41), defBody (top 41), defScope (top 41), [], []⟩
def f29 : He.DefD := ⟨(("first_unlike" : Str), none), ("first_unlike" : Str), ("first_unlike" : Str), defArgs (top 42), defBody (top 42), defScope (top 42), [], []⟩
def f30 : He.DefD := ⟨(("first_less" : Str), none), ("first_less" : Str), ("first_less" : Str), defArgs (top 43), defBody (top 43), defScope (top 43), [], []⟩
def f31 : He.DefD := ⟨(("chance_from" : Str), none), ("chance_from" : Str), ("chance_from" : Str), defArgs (top 45), defBody (top 45), defScope (top 45), [], []⟩
def f32 : He.DefD := ⟨(("mean_count" : Str), none), ("mean_count" : Str), ("mean_count" : Str), defArgs (top 46), defBody (top 46), defScope (top 46), [], []⟩
def f33 : He.DefD := ⟨(("topped" : Str), none), ("topped" : Str), ("topped" : Str), defArgs (top 47), defBody (top 47), defScope (top 47), [], []⟩
def f34 : He.DefD := ⟨(("chosen" : Str), none), ("chosen" : Str), ("chosen" : Str), defArgs (top 48), defBody (top 48), defScope (top 48), [], []⟩
def f35 : He.DefD := ⟨(("share" : Str), none), ("share" : Str), ("share" : Str), defArgs (top 49), defBody (top 49), defScope (top 49), [], []⟩
def f36 : He.DefD := ⟨(("is_row" : Str), none), ("is_row" : Str), ("is_row" : Str), defArgs (top 51), defBody (top 51), defScope (top 51), [], []⟩
def f37 : He.DefD := ⟨(("first_bad_row" : Str), none), ("first_bad_row" : Str), ("first_bad_row" : Str), defArgs (top 52), defBody (top 52), defScope (top 52), [], []⟩
def f38 : He.DefD := ⟨(("Walk" : Str), some ("__init__" : Str)), ("__init__" : Str), ("Walk.__init__" : Str), defArgs (mem 53 0), defBody (mem 53 0), defScope (mem 53 0), [], []⟩
def f39 : He.DefD := ⟨(("numbers_at" : Str), none), ("numbers_at" : Str), ("numbers_at" : Str), defArgs (top 54), defBody (top 54), defScope (top 54), [], []⟩
def f40 : He.DefD := ⟨(("rows_below" : Str), none), ("rows_below" : Str), ("rows_below" : Str), defArgs (top 55), defBody (top 55), defScope (top 55), [], []⟩
def f41 : He.DefD := ⟨(("put" : Str), none), ("put" : Str), ("put" : Str), defArgs (top 56), defBody (top 56), defScope (top 56), [], []⟩
def f42 : He.DefD := ⟨(("walks_on" : Str), none), ("walks_on" : Str), ("walks_on" : Str), defArgs (top 57), defBody (top 57), defScope (top 57), [], []⟩
def f43 : He.DefD := ⟨(("all_walks" : Str), none), ("all_walks" : Str), ("all_walks" : Str), defArgs (top 58), defBody (top 58), defScope (top 58), [], []⟩
def f44 : He.DefD := ⟨(("last_walks" : Str), none), ("last_walks" : Str), ("last_walks" : Str), defArgs (top 59), defBody (top 59), defScope (top 59), [], []⟩
def f45 : He.DefD := ⟨(("taken_in" : Str), none), ("taken_in" : Str), ("taken_in" : Str), defArgs (top 60), defBody (top 60), defScope (top 60), [], []⟩
def f46 : He.DefD := ⟨(("gain_in" : Str), none), ("gain_in" : Str), ("gain_in" : Str), defArgs (top 61), defBody (top 61), defScope (top 61), [], []⟩
def f47 : He.DefD := ⟨(("gain_of" : Str), none), ("gain_of" : Str), ("gain_of" : Str), defArgs (top 62), defBody (top 62), defScope (top 62), [], []⟩
def f48 : He.DefD := ⟨(("are_trees" : Str), none), ("are_trees" : Str), ("are_trees" : Str), defArgs (top 65), defBody (top 65), defScope (top 65), [], []⟩
def f49 : He.DefD := ⟨(("is_about_two" : Str), none), ("is_about_two" : Str), ("is_about_two" : Str), defArgs (top 66), defBody (top 66), defScope (top 66), [], []⟩
def f50 : He.DefD := ⟨(("is_claim" : Str), none), ("is_claim" : Str), ("is_claim" : Str), defArgs (top 67), defBody (top 67), defScope (top 67), [], []⟩
def f51 : He.DefD := ⟨(("bounded" : Str), none), ("bounded" : Str), ("bounded" : Str), defArgs (top 68), defBody (top 68), defScope (top 68), [], []⟩
def f52 : He.DefD := ⟨(("is_bound" : Str), none), ("is_bound" : Str), ("is_bound" : Str), defArgs (top 69), defBody (top 69), defScope (top 69), [], []⟩
def f53 : He.DefD := ⟨(("accepts" : Str), none), ("accepts" : Str), ("accepts" : Str), defArgs (top 70), defBody (top 70), defScope (top 70), [], []⟩
def f54 : He.DefD := ⟨(("_law_tray" : Str), none), ("_law_tray" : Str), ("_law_tray" : Str), defArgs (top 72), defBody (top 72), defScope (top 72), [], []⟩
def f55 : He.DefD := ⟨(("_law_spoon" : Str), none), ("_law_spoon" : Str), ("_law_spoon" : Str), defArgs (top 73), defBody (top 73), defScope (top 73), [], []⟩
def f56 : He.DefD := ⟨(("_law_pick" : Str), none), ("_law_pick" : Str), ("_law_pick" : Str), defArgs (top 74), defBody (top 74), defScope (top 74), [], []⟩
def f57 : He.DefD := ⟨(("_law_low" : Str), none), ("_law_low" : Str), ("_law_low" : Str), defArgs (top 75), defBody (top 75), defScope (top 75), [], []⟩
def f58 : He.DefD := ⟨(("_law_sum" : Str), none), ("_law_sum" : Str), ("_law_sum" : Str), defArgs (top 76), defBody (top 76), defScope (top 76), [], []⟩
def f59 : He.DefD := ⟨(("_law_gap" : Str), none), ("_law_gap" : Str), ("_law_gap" : Str), defArgs (top 77), defBody (top 77), defScope (top 77), [], []⟩
def f60 : He.DefD := ⟨(("_law_takes" : Str), none), ("_law_takes" : Str), ("_law_takes" : Str), defArgs (top 78), defBody (top 78), defScope (top 78), [], []⟩
def f61 : He.DefD := ⟨(("_law_flat_right" : Str), none), ("_law_flat_right" : Str), ("_law_flat_right" : Str), defArgs (top 79), defBody (top 79), defScope (top 79), [], []⟩
def f62 : He.DefD := ⟨(("_law_right" : Str), none), ("_law_right" : Str), ("_law_right" : Str), defArgs (top 80), defBody (top 80), defScope (top 80), [], []⟩
def f63 : He.DefD := ⟨(("law" : Str), none), ("law" : Str), ("law" : Str), defArgs (top 81), defBody (top 81), defScope (top 81), [], []⟩
def fns : List He.DefD := [f0, f1, f2, f3, f4, f5, f6, f7, f8, f9, f10, f11, f12, f13, f14, f15, f16, f17, f18, f19, f20, f21, f22, f23, f24, f25, f26, f27, f28, f29, f30, f31, f32, f33, f34, f35, f36, f37, f38, f39, f40, f41, f42, f43, f44, f45, f46, f47, f48, f49, f50, f51, f52, f53, f54, f55, f56, f57, f58, f59, f60, f61, f62, f63]
def nps : List (List Str × List Str) := [([("value" : Str), ("least" : Str), ("most" : Str)], [("value" : Str), ("least" : Str), ("most" : Str)]), ([("first" : Str), ("last" : Str)], [("first" : Str), ("last" : Str)]), ([("top" : Str), ("bottom" : Str), ("shared" : Str)], [("top" : Str), ("bottom" : Str)]), ([("value" : Str)], [("value" : Str)]), ([("one" : Str), ("other" : Str)], [("one" : Str), ("other" : Str)]), ([("one" : Str), ("other" : Str)], [("one" : Str), ("other" : Str)]), ([("one" : Str), ("other" : Str)], [("one" : Str), ("other" : Str)]), ([("one" : Str), ("other" : Str)], [("one" : Str), ("other" : Str)]), ([("one" : Str), ("other" : Str)], [("one" : Str), ("other" : Str)]), ([("one" : Str), ("other" : Str)], [("one" : Str), ("other" : Str)]), ([("one" : Str), ("other" : Str)], [("one" : Str), ("other" : Str)]), ([("some" : Str), ("found" : Str), ("one" : Str), ("place" : Str)], [("some" : Str)]), ([("some" : Str), ("found" : Str), ("one" : Str)], [("some" : Str)]), ([("tree" : Str)], [("tree" : Str)]), ([("value" : Str)], [("value" : Str)]), ([("value" : Str)], [("value" : Str)]), ([("value" : Str), ("pair" : Str)], [("value" : Str)]), ([("value" : Str), ("is_right_cost" : Str)], [("value" : Str), ("is_right_cost" : Str)]), ([("value" : Str), ("is_right_cost" : Str), ("line" : Str), ("place" : Str), ("weight" : Str), ("tree" : Str)], [("value" : Str), ("is_right_cost" : Str)]), ([("tree" : Str), ("found" : Str), ("line" : Str), ("path" : Str), ("node" : Str), ("many" : Str), ("place" : Str)], [("tree" : Str)]), ([("tree" : Str), ("path" : Str), ("node" : Str)], [("tree" : Str)]), ([("found" : Str), ("number" : Str), ("value" : Str), ("chance" : Str)], [("found" : Str), ("number" : Str)]), ([("parts" : Str), ("whole" : Str), ("chances" : Str), ("weight" : Str), ("found" : Str), ("value" : Str), ("chance" : Str)], [("parts" : Str)]), ([("found" : Str), ("cost" : Str), ("chance" : Str), ("mean" : Str), ("place" : Str), ("number" : Str)], [("found" : Str), ("cost" : Str)]), ([("found" : Str), ("number" : Str), ("chances" : Str), ("value" : Str), ("chance" : Str)], [("found" : Str), ("number" : Str)]), ([("tree" : Str), ("weight" : Str), ("branch" : Str)], [("tree" : Str)]), ([("tree" : Str)], [("tree" : Str)]), ([("tree" : Str)], [("tree" : Str)]), ([("one" : Str), ("other" : Str), ("values" : Str), ("found" : Str), ("value" : Str), ("chance" : Str)], [("one" : Str), ("other" : Str)]), ([("one" : Str), ("other" : Str), ("place" : Str)], [("one" : Str), ("other" : Str)]), ([("one" : Str), ("other" : Str), ("place" : Str)], [("one" : Str), ("other" : Str)]), ([("found" : Str), ("number" : Str), ("chance" : Str), ("value" : Str), ("part" : Str)], [("found" : Str), ("number" : Str)]), ([("tables" : Str), ("number" : Str), ("picks" : Str), ("counts" : Str), ("found" : Str), ("mean" : Str), ("place" : Str), ("chance" : Str), ("stay" : Str), ("come" : Str), ("part" : Str)], [("tables" : Str), ("number" : Str), ("picks" : Str)]), ([("tables" : Str), ("picks" : Str), ("values" : Str), ("found" : Str), ("mean" : Str), ("last" : Str), ("value" : Str), ("chance" : Str)], [("tables" : Str), ("picks" : Str)]), ([("nodes" : Str), ("numbers" : Str), ("picks" : Str), ("best" : Str), ("ends" : Str), ("index" : Str), ("node" : Str)], [("nodes" : Str), ("numbers" : Str), ("picks" : Str)]), ([("weight" : Str), ("branches" : Str), ("other" : Str), ("branch" : Str)], [("weight" : Str), ("branches" : Str)]), ([("value" : Str), ("tree" : Str), ("number" : Str)], [("value" : Str), ("tree" : Str)]), ([("value" : Str), ("trees" : Str), ("index" : Str), ("row" : Str)], [("value" : Str), ("trees" : Str)]), ([("self" : Str), ("places" : Str), ("stand" : Str), ("lists" : Str), ("chance" : Str), ("spent" : Str), ("many_gone" : Str), ("floors" : Str)], [("self" : Str), ("places" : Str), ("stand" : Str), ("lists" : Str), ("chance" : Str), ("spent" : Str), ("many_gone" : Str), ("floors" : Str)]), ([("walk" : Str), ("index" : Str), ("node" : Str)], [("walk" : Str)]), ([("tree" : Str), ("row" : Str), ("found" : Str), ("begin" : Str), ("weight" : Str), ("branch" : Str), ("many" : Str)], [("tree" : Str), ("row" : Str)]), ([("some" : Str), ("index" : Str), ("value" : Str)], [("some" : Str), ("index" : Str), ("value" : Str)]), ([("walk" : Str), ("index" : Str), ("node" : Str), ("rows" : Str), ("strike" : Str), ("floor" : Str), ("floors" : Str), ("found" : Str), ("place" : Str), ("branch" : Str), ("chance" : Str), ("places" : Str), ("stand" : Str), ("lists" : Str)], [("walk" : Str), ("index" : Str)]), ([("trees" : Str), ("rule" : Str), ("picks" : Str), ("none" : Str), ("line" : Str), ("found" : Str), ("walk" : Str), ("index" : Str), ("tree" : Str)], [("trees" : Str), ("rule" : Str), ("picks" : Str)]), ([("trees" : Str), ("rule" : Str), ("picks" : Str), ("walk" : Str), ("index" : Str)], [("trees" : Str), ("rule" : Str), ("picks" : Str)]), ([("nodes" : Str), ("picks" : Str), ("ends" : Str), ("index" : Str), ("node" : Str), ("worth" : Str)], [("nodes" : Str), ("picks" : Str)]), ([("walk" : Str), ("picks" : Str), ("index" : Str)], [("walk" : Str), ("picks" : Str)]), ([("trees" : Str), ("rule" : Str), ("picks" : Str), ("walk" : Str)], [("trees" : Str), ("rule" : Str), ("picks" : Str)]), ([("value" : Str), ("tree" : Str)], [("value" : Str)]), ([("claim" : Str)], [("claim" : Str)]), ([("claim" : Str)], [("claim" : Str)]), ([("tree" : Str), ("row" : Str), ("parts" : Str), ("begin" : Str), ("whole" : Str), ("weight" : Str), ("branch" : Str), ("many" : Str), ("found" : Str)], [("tree" : Str), ("row" : Str)]), ([("trees" : Str), ("picks" : Str), ("number" : Str), ("paper" : Str), ("tables" : Str), ("index" : Str), ("tree" : Str), ("found" : Str)], [("trees" : Str), ("picks" : Str), ("number" : Str), ("paper" : Str)]), ([("claim" : Str), ("paper" : Str), ("one" : Str), ("other" : Str)], [("claim" : Str), ("paper" : Str)]), ([("_law_script" : Str), ("_law_k" : Str), ("_law_cell" : Str), ("_law_mixed" : Str), ("_law_each" : Str)], [("_law_script" : Str), ("_law_k" : Str)]), ([("_law_tray_here" : Str), ("_law_top" : Str), ("_law_old" : Str), ("_law_figure" : Str)], [("_law_tray_here" : Str), ("_law_top" : Str)]), ([("_law_tray_here" : Str), ("_law_things" : Str)], [("_law_tray_here" : Str), ("_law_things" : Str)]), ([("_law_top" : Str), ("_law_bottom" : Str), ("_law_a" : Str), ("_law_b" : Str)], [("_law_top" : Str), ("_law_bottom" : Str)]), ([("_law_a" : Str), ("_law_b" : Str)], [("_law_a" : Str), ("_law_b" : Str)]), ([("_law_a" : Str), ("_law_b" : Str)], [("_law_a" : Str), ("_law_b" : Str)]), ([("_law_said" : Str), ("_law_proof" : Str), ("_law_due" : Str), ("_law_came" : Str)], [("_law_said" : Str), ("_law_proof" : Str), ("_law_due" : Str)]), ([("_law_tray_here" : Str), ("_law_flat" : Str), ("_law_num" : Str), ("_law_low_here" : Str), ("_law_high" : Str), ("_law_shown_here" : Str)], [("_law_tray_here" : Str)]), ([("_law_tray_here" : Str), ("_law_deep" : Str), ("_law_marks" : Str), ("_law_flat" : Str), ("_law_shed" : Str), ("_law_goal" : Str), ("_law_low_here" : Str), ("_law_due" : Str), ("_law_pair" : Str), ("_law_six" : Str), ("_law_many" : Str), ("_law_mark" : Str)], [("_law_tray_here" : Str)]), ([("_law_script" : Str), ("_law_trays" : Str), ("_law_k" : Str), ("_law_tray_here" : Str)], [("_law_script" : Str)])]
def kns : List Str := [("LENGTHS" : Str)]
def LL : Mi.Lw := ⟨GG, SG, ats, kns, fns, nps⟩
def loose : List PySem.Str := ([("__name__" : Str), ("ZERO" : Str), ("ONE" : Str), ("is_between" : Str), ("common" : Str), ("lowest" : Str), ("is_fraction" : Str), ("add" : Str), ("less" : Str), ("times" : Str), ("over" : Str), ("is_below" : Str), ("lesser" : Str), ("greater" : Str), ("ordered" : Str), ("total" : Str), ("MOST_NODES" : Str), ("MOST_BRANCHES" : Str), ("MOST_WORTH" : Str), ("MOST_COST" : Str), ("MOST_WEIGHT" : Str), ("MOST_OFFERS" : Str), ("MOST_PICKS" : Str), ("is_end" : Str), ("is_cost" : Str), ("is_pair" : Str), ("are_branches" : Str), ("is_node" : Str), ("is_tree" : Str), ("nodes_of" : Str)] : List PySem.Str) ++ ([("steps_in" : Str), ("mean_above" : Str), ("mixed" : Str), ("strike_in" : Str), ("capped" : Str), ("below" : Str), ("strike_of" : Str), ("table_of" : Str), ("places_of" : Str), ("first_unlike" : Str), ("first_less" : Str), ("chance_from" : Str), ("mean_count" : Str), ("topped" : Str), ("chosen" : Str), ("share" : Str), ("is_row" : Str), ("first_bad_row" : Str), ("Walk" : Str), ("numbers_at" : Str), ("rows_below" : Str), ("put" : Str), ("walks_on" : Str), ("all_walks" : Str), ("last_walks" : Str), ("taken_in" : Str), ("gain_in" : Str), ("gain_of" : Str), ("LENGTHS" : Str), ("are_trees" : Str)] : List PySem.Str) ++ ([("is_about_two" : Str), ("is_claim" : Str), ("bounded" : Str), ("is_bound" : Str), ("accepts" : Str), ("_law_tray" : Str), ("_law_spoon" : Str), ("_law_pick" : Str), ("_law_low" : Str), ("_law_sum" : Str), ("_law_gap" : Str), ("_law_takes" : Str), ("_law_flat_right" : Str), ("_law_right" : Str)] : List PySem.Str)
end Lw

namespace Lw
open PySem L2 Mi
theorem small_of {i : Int} (h : i.natAbs < 2 ^ 100) : small i = true := by
  unfold small LIM
  exact decide_eq_true (Nat.lt_of_lt_of_le h (Nat.pow_le_pow_right (Nat.le_of_ble_eq_true rfl) (Nat.le_of_ble_eq_true rfl)))
section
variable {G : Gm} {h : MH} {i : Nat} {l : List MV} {x y z v : MV}
theorem gI (ht : h[i]? = some (.lst l)) (k : Int) : getIx G (.loc i) (.int k) h = (match atI l k with | some v => .ok v h | none => .bad) := by
  show (match asSeq h (.loc i) with | some l => (match atI l k with | some v => Out.ok v h | none => .bad) | none => .bad) = _
  show (match (match h[i]? with | some (.lst l) => some l | _ => none) with | some l => (match atI l k with | some v => Out.ok v h | none => .bad) | none => .bad) = _
  rw [ht]
theorem sI (ht : h[i]? = some (.lst l)) (k : Int) : setIx (.loc i) (.int k) v h = (match ixN l.length k with | some j => some (h.set i (.lst (l.set j v))) | none => none) := by
  unfold setIx
  dsimp only
  (rw [ht]) <;> rfl
theorem a0 : atI [x, y, z] 0 = some x := rfl
theorem a1 : atI [x, y, z] 1 = some y := rfl
theorem a2 : atI [x, y, z] 2 = some z := rfl
theorem i0 : ixN [x, y, z].length 0 = some 0 := rfl
theorem i1 : ixN [x, y, z].length 1 = some 1 := rfl
theorem i2 : ixN [x, y, z].length 2 = some 2 := rfl
theorem c0 : [x, y, z].set 0 v = [v, y, z] := rfl
theorem c1 : [x, y, z].set 1 v = [x, v, z] := rfl
theorem c2 : [x, y, z].set 2 v = [x, y, v] := rfl
theorem v0 {a b c d : Option MV} : [a, b, c, d][0]? = some a := rfl
theorem v1 {a b c d : Option MV} : [a, b, c, d][1]? = some b := rfl
theorem v2 {a b c d : Option MV} : [a, b, c, d][2]? = some c := rfl
theorem v3 {a b c d : Option MV} : [a, b, c, d][3]? = some d := rfl
theorem w2 {a b c d e : Option MV} : [a, b, c, d].set 2 e = [a, b, e, d] := rfl
theorem w3 {a b c d e : Option MV} : [a, b, c, d].set 3 e = [a, b, c, e] := rfl
end
theorem spoon_ev {G : Gm} {F : Fn} {W : Nat} {h : MH} {i : Nat} {a b : Int} {n : Nat} {t : Int} (ht : h[i]? = some (.lst [.int a, .int b, .int n])) (hb0 : 0 ≤ b) (hb1 : b < 2147483033) (hn : n < 1000) (h0 : 0 < t) (h1 : t < 1073741824) :
    evSs G F W b55 [some (.loc i), some (.int t), none, none] h = .rt (.int (if 0 < a then a % t else ((b * (b % 14009 + 23003) + 10007 * ((n : Int) + 1) + 43) % 2147483033 / 98) % t))
      (h.set i (.lst [.int (if 0 < a then a / t else a), .int ((b * (b % 14009 + 23003) + 10007 * ((n : Int) + 1) + 43) % 2147483033), .int ((n : Int) + 1)])) := by
  have hi : i < h.length := (List.getElem?_eq_some_iff.mp ht).1
  have at' : ∀ o : MO, (h.set i o)[i]? = some o := fun o => List.getElem?_set_self hi
  have sb : small b = true := small_of (by omega)
  have sc : small (b % 14009 + 23003) = true := small_of (by have := Int.emod_nonneg b (show (14009 : Int) ≠ 0 by decide); have := Int.emod_lt_of_pos b (show (0 : Int) < 14009 by decide); omega)
  have sn : small ((n : Int) + 1) = true := small_of (by omega)
  have s1 : small 10007 = true := small_of (by decide)
  have s98 : small 98 = true := small_of (by decide)
  have p1 : (0 : Int) < 14009 := by decide
  have p2 : (0 : Int) < 2147483033 := by decide
  have p3 : (0 : Int) < 98 := by decide
  generalize hb' : (b * (b % 14009 + 23003) + 10007 * ((n : Int) + 1) + 43) % 2147483033 = b'
  by_cases ha : 0 < a
  · simp only [b55, evSs, evS, evE, evL, v0, v1, v2, w2, w3, gI ht, sI ht, a0, a1, a2, i0, i1, i2, c0, c1, c2, bop, blt, bInt, gI (at' _), sI (at' _), List.set_set, sb, sc, sn, s1, s98, p1, p2, p3, decide_true, Bool.and_self, if_true, hb', copG, cop, truth, ha, bDivmod, h0, h1, v3]
  · simp only [b55, evSs, evS, evE, evL, v0, v1, v2, w2, w3, gI ht, sI ht, a0, a1, a2, i0, i1, i2, c0, c1, c2, bop, blt, bInt, gI (at' _), sI (at' _), List.set_set, sb, sc, sn, s1, s98, p1, p2, p3, decide_true, Bool.and_self, if_true, hb', copG, cop, truth, ha, decide_false, if_false, bDivmod, h0, h1, v3]
theorem u3 {a b c d e f : Option MV} : [a, b, c, d, e].set 3 f = [a, b, c, f, e] := rfl
theorem u4 {a b c d e f : Option MV} : [a, b, c, d, e].set 4 f = [a, b, c, d, f] := rfl
theorem u2 {a b c d e f : Option MV} : [a, b, c, d, e].set 2 f = [a, b, f, d, e] := rfl
theorem x0 {a b c d e : Option MV} : [a, b, c, d, e][0]? = some a := rfl
theorem x1 {a b c d e : Option MV} : [a, b, c, d, e][1]? = some b := rfl
theorem x2 {a b c d e : Option MV} : [a, b, c, d, e][2]? = some c := rfl
theorem x3 {a b c d e : Option MV} : [a, b, c, d, e][3]? = some d := rfl
theorem x4 {a b c d e : Option MV} : [a, b, c, d, e][4]? = some e := rfl
abbrev bFor : List Sx := [.set 3 (.bin .mod (.blt .int [.bin .add (.bin .mul (.var 3) (.int 31019)) (.blt .int [.var 4])]) (.int 2147483033))]
theorem tray_loop {G : Gm} {F : Fn} {W : Nat} {h : MH} {s0 s1 s2 : Option MV} : ∀ (ms : List Int) (y : Int) (s4 : Option MV), 0 ≤ y → y < 2147483033 → ∃ y' s4', 0 ≤ y' ∧ y' < 2147483033 ∧
    loopF (.nm 4) (fun σ h => evSs G F W bFor σ h) (ms.map .int) [s0, s1, s2, some (.int y), s4] h = .nx [s0, s1, s2, some (.int y'), s4'] h
  | [], y, s4, h0, h1 => ⟨y, s4, h0, h1, rfl⟩
  | m :: ms, y, s4, h0, h1 => by
    have sy : small y = true := small_of (by omega)
    have sk : small 31019 = true := small_of (by decide)
    have p2 : (0 : Int) < 2147483033 := by decide
    obtain ⟨y', s4', q0, q1, q2⟩ := tray_loop (G := G) (F := F) (W := W) (h := h) (s0 := s0) (s1 := s1) (s2 := s2) ms ((y * 31019 + m) % 2147483033) (some (.int m)) (Int.emod_nonneg _ (by decide)) (Int.emod_lt_of_pos _ (by decide))
    refine ⟨y', s4', q0, q1, ?_⟩
    rw [← q2]
    simp only [List.map_cons, loopF, stT, u4, bFor, evSs, evS, evE, evL, x3, x4, bop, sy, sk, Bool.and_self, if_true, blt, bInt, p2, decide_true, u3]
theorem nx_cons {G : Gm} {F : Fn} {W : Nat} {s : Sx} {l : List Sx} {σ σ2 : MS} {h h2 : MH} (e : evS G F W s σ h = .nx σ2 h2) : evSs G F W (s :: l) σ h = evSs G F W l σ2 h2 := by simp only [evSs, e]
theorem rt_cons {G : Gm} {F : Fn} {W : Nat} {s : Sx} {l : List Sx} {σ : MS} {h h2 : MH} {v : MV} (e : evS G F W s σ h = .rt v h2) : evSs G F W (s :: l) σ h = .rt v h2 := by simp only [evSs, e]
theorem tray_ev {G : Gm} {F : Fn} {W : Nat} {h : MH} {i : Nat} {ns : List Int} (hi : i < 100) (hn : ns.length ≤ 63) : ∃ x y, 0 ≤ x ∧ 0 ≤ y ∧ y < 2147483033 ∧
    evSs G F W b54 [some (.scr (ns.map .int)), some (.int i), none, none, none] h = .rt (.loc h.length) (h ++ [.lst [.int x, .int y, .int 0]]) := by
  have s463 : small 463 = true := small_of (by decide)
  have s2417 : small 2417 = true := small_of (by decide)
  have si : small (i : Int) = true := small_of (by omega)
  have first : ∃ z : Int, evE G F (.ife (.cmp .lt (.var 1) (.blt .len [.var 0])) (.blt .int [.idx (.var 0) (.var 1)]) (.bin .add (.bin .mul (.int 2417) (.var 1)) (.int 89))) [some (.scr (ns.map .int)), some (.int i), none, none, none] h = .ok (.int z) h := by
    by_cases lt : (i : Int) < ((ns.map MV.int).length : Int)
    · have lt' : i < (ns.map MV.int).length := by omega
      have e : atI (ns.map MV.int) (i : Int) = some (.int (ns[i]'(by simpa using lt'))) := by
        unfold atI ixN
        rw [if_pos (by omega), if_pos lt]
        simp
      refine ⟨ns[i]'(by simpa using lt'), ?_⟩
      simp only [evE, evL, x0, x1, blt, bLen, asSeq, copG, cop, lt, decide_true, truth, getIx, e, bInt]
    · refine ⟨2417 * i + 89, ?_⟩
      simp only [evE, evL, x0, x1, blt, bLen, asSeq, copG, cop, lt, decide_false, truth, bop, s2417, si, Bool.and_self, if_true]
  obtain ⟨z, hz⟩ := first
  have cut : cutM (ns.map MV.int) none (some 5) = (ns.take 5).map .int := by
    unfold cutM
    have e0 : HT.sIx (ns.map MV.int).length 0 none = 0 := rfl
    have e5 : HT.sIx (ns.map MV.int).length (ns.map MV.int).length (some 5) = min 5 (ns.map MV.int).length := HT.sIx_nat _ _ 5
    rw [e0, e5]
    simp only [List.drop_zero, Nat.sub_zero, List.map_take]
    rw [List.take_eq_take_iff]
    omega
  have len : (((ns.take 5).map MV.int).length + [MV.int z].length ≤ 100000) := by simp; omega
  have join : (ns.take 5).map MV.int ++ [MV.int z] = (ns.take 5 ++ [z]).map .int := by simp
  obtain ⟨y, s4, q0, q1, q2⟩ := tray_loop (G := G) (F := F) (W := W) (h := h) (s0 := some (.scr (ns.map .int))) (s1 := some (.int i)) (s2 := some (.int z)) (ns.take 5 ++ [z]) (70001 + 463 * i) none (by omega) (by omega)
  have p18 : (10 : Int) ^ (18 : Int).toNat = 1000000000000000000 := by decide
  have c18 : (decide ((0 : Int) ≤ 18) && decide ((18 : Int) ≤ 1000) && decide ((10 : Int).natAbs < 1000)) = true := by decide
  have e1 : evS G F W (.set 2 (.ife (.cmp .lt (.var 1) (.blt .len [.var 0])) (.blt .int [.idx (.var 0) (.var 1)]) (.bin .add (.bin .mul (.int 2417) (.var 1)) (.int 89)))) [some (.scr (ns.map .int)), some (.int i), none, none, none] h = .nx [some (.scr (ns.map .int)), some (.int i), some (.int z), none, none] h := by
    simp only [evS, hz, u2]
  have e2 : evS G F W (.set 3 (.bin .add (.int 70001) (.bin .mul (.int 463) (.var 1)))) [some (.scr (ns.map .int)), some (.int i), some (.int z), none, none] h = .nx [some (.scr (ns.map .int)), some (.int i), some (.int z), some (.int (70001 + 463 * i)), none] h := by
    simp only [evS, evE, x1, bop, s463, si, Bool.and_self, if_true, u3]
  have hI : evI G F (.bin .add (.slc (.var 0) none (some (.int 5))) (.lst false [.var 2])) [some (.scr (ns.map .int)), some (.int i), some (.int z), some (.int (70001 + 463 * i)), none] h = .ok ((ns.take 5 ++ [z]).map .int) h := by
    simp only [evI, specB, seqOf, evE, evO, evL, x0, x2, slcV, cut, bop, len, decide_true, if_true, join]
  have e3 : evS G F W (.for_ (.nm 4) (.bin .add (.slc (.var 0) none (some (.int 5))) (.lst false [.var 2])) bFor) [some (.scr (ns.map .int)), some (.int i), some (.int z), some (.int (70001 + 463 * i)), none] h = .nx [some (.scr (ns.map .int)), some (.int i), some (.int z), some (.int y), s4] h := by
    simp only [evS, hI]
    exact q2
  refine ⟨if z < 0 ∨ 1000000000000000000 ≤ z then (if z < 0 then -z else z) else 0, y, ?_, q0, q1, ?_⟩
  · split
    · split <;> omega
    · omega
  · unfold b54
    rw [nx_cons e1, nx_cons e2, nx_cons e3]
    refine rt_cons ?_
    by_cases zn : z < 0
    · simp only [evS, evE, evL, bop, x2, x3, copG, cop, zn, decide_true, truth, blt, bAbs, if_true, true_or]
    · by_cases zl : 1000000000000000000 ≤ z
      · simp only [evS, evE, evL, bop, x2, x3, copG, cop, zn, zl, decide_true, decide_false, truth, blt, bAbs, if_true, if_false, c18, p18, or_true]
      · simp only [evS, evE, evL, bop, x2, x3, copG, cop, zn, zl, decide_true, decide_false, truth, blt, bAbs, if_true, if_false, c18, p18, or_self]
end Lw

namespace Lw
open PySem PySem.Spec PyProof.Rows L2 Mi
def Tr (h : MH) (i n : Nat) : Prop := ∃ a b : Int, h[i]? = some (.lst [.int a, .int b, .int n]) ∧ 0 ≤ b ∧ b < 2147483033
def Oth (i : Nat) (h h' : MH) : Prop := ∀ j, j ≠ i → h'[j]? = h[j]?
theorem Oth.trans {i : Nat} {h h' h'' : MH} (a : Oth i h h') (b : Oth i h' h'') : Oth i h h'' := fun j hj => (b j hj).trans (a j hj)
theorem spoon_F {W k i n : Nat} {h : MH} {t : Int} (tr : Tr h i n) (hn : n < 1000) (h0 : 0 < t) (h1 : t < 1073741824) : ∃ d h', 0 ≤ d ∧ d < t ∧ Tr h' i (n + 1) ∧ Oth i h h' ∧ runF GG W (k + 1) 55 [.loc i, .int t] h = .ok (.int d) h' := by
  obtain ⟨a, b, ht, b0, b1⟩ := tr
  have hi : i < h.length := (List.getElem?_eq_some_iff.mp ht).1
  have e := spoon_ev (G := GG) (F := runF GG W k) (W := W) ht b0 b1 hn h0 h1
  have r : runF GG W (k + 1) 55 [.loc i, .int t] h = (match evSs GG (runF GG W k) W b55 [some (.loc i), some (.int t), none, none] h with | .rt v h' => .ok v h' | .nx _ h' => .ok .non h' | _ => .bad) := rfl
  rw [e] at r
  refine ⟨_, _, ?_, ?_, ⟨_, _, by rw [List.getElem?_set_self hi]; rfl, Int.emod_nonneg _ (by decide), Int.emod_lt_of_pos _ (by decide)⟩, fun j hj => by rw [List.getElem?_set_ne (Ne.symm hj)], r⟩
  · split
    · exact Int.emod_nonneg _ (by omega)
    · exact Int.emod_nonneg _ (by omega)
  · split
    · exact Int.emod_lt_of_pos _ h0
    · exact Int.emod_lt_of_pos _ h0
theorem pick_F {W k i n : Nat} {h : MH} {l : List MV} (tr : Tr h i n) (hn : n < 1000) (h0 : 0 < l.length) (h1 : l.length < 1000) : ∃ (d : Nat) (v : MV) (h' : MH), l[d]? = some v ∧ d < l.length ∧ Tr h' i (n + 1) ∧ Oth i h h' ∧ runF GG W (k + 2) 56 [.loc i, .lst l] h = .ok v h' := by
  obtain ⟨d, h', d0, d1, tr', ot, e⟩ := spoon_F (W := W) (k := k) (t := l.length) tr hn (by omega) (by omega)
  have hd : d.toNat < l.length := by omega
  refine ⟨d.toNat, l[d.toNat], h', by simp [hd], hd, tr', ot, ?_⟩
  have r : runF GG W (k + 2) 56 [.loc i, .lst l] h = (match evSs GG (runF GG W (k + 1)) W b56 [some (.loc i), some (.lst l)] h with | .rt v h' => .ok v h' | .nx _ h' => .ok .non h' | _ => .bad) := rfl
  have hc : ∀ (F : Fn) vs h, callD GG F 55 vs h = F 55 vs h := fun _ _ _ => rfl
  have k0 : ([some (MV.loc i), some (MV.lst l)] : MS)[0]? = some (some (.loc i)) := rfl
  have k1 : ([some (MV.loc i), some (MV.lst l)] : MS)[1]? = some (some (.lst l)) := rfl
  have g : getIx GG (.lst l) (.int d) h' = .ok l[d.toNat] h' := by
    show (match atI l d with | some v => Out.ok v h' | none => .bad) = _
    have ha : atI l d = some l[d.toNat] := by
      unfold atI ixN
      rw [if_pos d0, if_pos d1]
      simp [hd]
    rw [ha]
  have e6 : evSs GG (runF GG W (k + 1)) W b56 [some (.loc i), some (.lst l)] h = .rt l[d.toNat] h' := by
    simp only [b56, evSs, evS, evE, evL, k0, k1, blt, bLen, asSeq, hc, e, g]
  rw [r, e6]
theorem dr {l : List Sx} {k : Nat} {s : Sx} (h : l[k]? = some s) : l.drop k = s :: l.drop (k + 1) := by
  obtain ⟨h1, h2⟩ := List.getElem?_eq_some_iff.mp h
  rw [List.drop_eq_getElem_cons h1, h2]
theorem go {G : Gm} {F : Fn} {W : Nat} {l : List Sx} {k : Nat} {s : Sx} {σ σ2 : MS} {h h2 : MH} (hs : l[k]? = some s) (e : evS G F W s σ h = .nx σ2 h2) : evSs G F W (l.drop k) σ h = evSs G F W (l.drop (k + 1)) σ2 h2 := by
  rw [dr hs, nx_cons e]
abbrev F17 : Fn := runF GG 100 17
abbrev q61 (k : Nat) : Sx := b61.getD k .pass
abbrev e2 (a b : Int) : MV := .tup [.int a, .int b]
abbrev m5 : List MV := [e2 1 1, e2 1 9, e2 5 1, e2 6 1, e2 99 1]
abbrev m3 : List MV := [e2 0 1, e2 (-1) 2, e2 (-7) 1]
abbrev m4 : List MV := [e2 5 1, e2 17 3, e2 0 1, e2 (-2) 1]
abbrev flatV : MV := .tup [.str ⟨#[115, 116, 101, 112]⟩, .int 2, .tup [.tup [.int 1, .tup [.str ⟨#[101, 110, 100]⟩, .int 0]], .tup [.int 1, .tup [.str ⟨#[101, 110, 100]⟩, .int 10]]]]
abbrev vlow (d : Int) : MV := if d < 4 then (if d % 2 = 0 then e2 (3 + d / 2) 1 else e2 (6 + d) 2) else e2 5 1

theorem hc56 (F : Fn) (vs : List MV) (h : MH) : callD GG F 56 vs h = F 56 vs h := rfl
theorem hc55 (F : Fn) (vs : List MV) (h : MH) : callD GG F 55 vs h = F 55 vs h := rfl
abbrev sg (i : Nat) (a b c d e : Option MV) : MS := [some (.loc i), a, b, c, d, e]
theorem y0 {i : Nat} {a b c d e : Option MV} : (sg i a b c d e)[0]? = some (some (.loc i)) := rfl
theorem y1 {i : Nat} {a b c d e : Option MV} : (sg i a b c d e)[1]? = some a := rfl
theorem z2 {i : Nat} {a b c d e f : Option MV} : (sg i a b c d e).set 2 f = sg i a f c d e := rfl
theorem z3 {i : Nat} {a b c d e f : Option MV} : (sg i a b c d e).set 3 f = sg i a b f d e := rfl
theorem z4 {i : Nat} {a b c d e f : Option MV} : (sg i a b c d e).set 4 f = sg i a b c f e := rfl
theorem t0 (i : Nat) (h : MH) : evS GG F17 100 (q61 0) (sg i none none none none none) h = .nx (sg i (some flatV) none none none none) h := by kernel_rfl
theorem t1 {i : Nat} {h h' : MH} {v : MV} (e : F17 56 [.loc i, .lst m5] h = .ok v h') : evS GG F17 100 (q61 1) (sg i (some flatV) none none none none) h = .nx (sg i (some flatV) (some v) none none none) h' := by
  have hq : q61 1 = .set 2 (.call 56 [.var 0, .lst false [.tup [.int 1, .int 1], .tup [.int 1, .int 9], .tup [.int 5, .int 1], .tup [.int 6, .int 1], .tup [.int 99, .int 1]]]) := rfl
  rw [hq]
  simp only [evS, evE, evL, y0, hc56, e, z2]
theorem t2 (i : Nat) (h : MH) : ∀ (d : Nat) (v : MV), m5[d]? = some v → evS GG F17 100 (q61 2) (sg i (some flatV) (some v) none none none) h = .nx (sg i (some flatV) (some v) none none none) h
  | 0, v, e => by cases e; kernel_rfl
  | 1, v, e => by cases e; kernel_rfl
  | 2, v, e => by cases e; kernel_rfl
  | 3, v, e => by cases e; kernel_rfl
  | 4, v, e => by cases e; kernel_rfl
  | _ + 5, v, e => by cases e
theorem t3 {i : Nat} {h h' : MH} {u v : MV} (e : F17 56 [.loc i, .lst m3] h = .ok v h') : evS GG F17 100 (q61 3) (sg i (some flatV) (some u) none none none) h = .nx (sg i (some flatV) (some u) (some v) none none) h' := by
  have hq : q61 3 = .set 3 (.call 56 [.var 0, .lst false [.tup [.int 0, .int 1], .tup [.neg (.int 1), .int 2], .tup [.neg (.int 7), .int 1]]]) := rfl
  rw [hq]
  simp only [evS, evE, evL, y0, hc56, e, z3]
theorem t4 (i : Nat) (h : MH) (u : MV) : ∀ (d : Nat) (v : MV), m3[d]? = some v → evS GG F17 100 (q61 4) (sg i (some flatV) (some u) (some v) none none) h = .nx (sg i (some flatV) (some u) (some v) none none) h
  | 0, v, e => by cases e; kernel_rfl
  | 1, v, e => by cases e; kernel_rfl
  | 2, v, e => by cases e; kernel_rfl
  | _ + 3, v, e => by cases e
theorem t5 (i : Nat) (h : MH) (u : MV) : ∀ (d : Nat) (v : MV), m3[d]? = some v → evS GG F17 100 (q61 5) (sg i (some flatV) (some u) (some v) none none) h = .nx (sg i (some flatV) (some u) (some v) none none) h
  | 0, v, e => by cases e; kernel_rfl
  | 1, v, e => by cases e; kernel_rfl
  | 2, v, e => by cases e; kernel_rfl
  | _ + 3, v, e => by cases e
theorem t6 {i : Nat} {h h' : MH} {u v : MV} {d : Int} (e : F17 55 [.loc i, .int 9] h = .ok (.int d) h') : evS GG F17 100 (q61 6) (sg i (some flatV) (some u) (some v) none none) h = .nx (sg i (some flatV) (some u) (some v) (some (.int (6 + d))) none) h' := by
  have hq : q61 6 = .set 4 (.bin .add (.int 6) (.call 55 [.var 0, .int 9])) := rfl
  rw [hq]
  simp only [evS, evE, evL, y0, hc55, e, bop, z4]
def lw : Nat → MV
  | 0 => e2 3 1 | 1 => e2 7 2 | 2 => e2 4 1 | 3 => e2 9 2 | _ => e2 5 1
theorem t7 (i : Nat) (h : MH) (u v : MV) : ∀ d : Nat, d < 9 → evS GG F17 100 (q61 7) (sg i (some flatV) (some u) (some v) (some (.int (6 + d))) none) h = .nx (sg i (some flatV) (some u) (some v) (some (.int (6 + d))) (some (lw d))) h
  | 0, _ => by kernel_rfl
  | 1, _ => by kernel_rfl
  | 2, _ => by kernel_rfl
  | 3, _ => by kernel_rfl
  | 4, _ => by kernel_rfl
  | 5, _ => by kernel_rfl
  | 6, _ => by kernel_rfl
  | 7, _ => by kernel_rfl
  | 8, _ => by kernel_rfl
  | _ + 9, h => absurd h (by omega)
theorem t8 (i : Nat) (h : MH) (u v : MV) : ∀ d : Nat, d < 9 → evS GG F17 100 (q61 8) (sg i (some flatV) (some u) (some v) (some (.int (6 + d))) (some (lw d))) h = .nx (sg i (some flatV) (some u) (some v) (some (.int (6 + d))) (some (lw d))) h
  | 0, _ => by kernel_rfl
  | 1, _ => by kernel_rfl
  | 2, _ => by kernel_rfl
  | 3, _ => by kernel_rfl
  | 4, _ => by kernel_rfl
  | 5, _ => by kernel_rfl
  | 6, _ => by kernel_rfl
  | 7, _ => by kernel_rfl
  | 8, _ => by kernel_rfl
  | _ + 9, h => absurd h (by omega)
theorem t9 (i : Nat) (h : MH) (u v : MV) : ∀ d : Nat, d < 9 → evS GG F17 100 (q61 9) (sg i (some flatV) (some u) (some v) (some (.int (6 + d))) (some (lw d))) h = .nx (sg i (some flatV) (some u) (some v) (some (.int (6 + d))) (some (lw d))) h
  | 0, _ => by kernel_rfl
  | 1, _ => by kernel_rfl
  | 2, _ => by kernel_rfl
  | 3, _ => by kernel_rfl
  | 4, _ => by kernel_rfl
  | 5, _ => by kernel_rfl
  | 6, _ => by kernel_rfl
  | 7, _ => by kernel_rfl
  | 8, _ => by kernel_rfl
  | _ + 9, h => absurd h (by omega)
abbrev cl10 : MV := .tup [.str ⟨#[109, 111, 115, 116]⟩, .tup [flatV], .int 1, e2 9 1]
theorem u10 (h : MH) : ∀ (d : Nat) (v : MV), m4[d]? = some v → callD GG F17 60 [cl10, .tup [.tup [v]], .bl false] h = .ok (.bl true) h
  | 0, v, e => by cases e; kernel_rfl
  | 1, v, e => by cases e; kernel_rfl
  | 2, v, e => by cases e; kernel_rfl
  | 3, v, e => by cases e; kernel_rfl
  | _ + 4, v, e => by cases e
theorem t10 {i : Nat} {h h' : MH} {v : MV} {a b c e : Option MV} {d : Nat} (hv : m4[d]? = some v) (ev : F17 56 [.loc i, .lst m4] h = .ok v h') : evS GG F17 100 (q61 10) (sg i (some flatV) a b c e) h = .rt (.bl true) h' := by
  have hq : q61 10 = .ret (.call 60 [.tup [.str ⟨#[109, 111, 115, 116]⟩, .tup [.var 1], .int 1, .tup [.int 9, .int 1]], .tup [.tup [.call 56 [.var 0, .lst false [.tup [.int 5, .int 1], .tup [.int 17, .int 3], .tup [.int 0, .int 1], .tup [.neg (.int 2), .int 1]]]]], .bl false]) := rfl
  rw [hq]
  simp only [evS, evE, evL, y0, y1, hc56, ev, u10 h' d v hv]
theorem flat_ok {i : Nat} {h : MH} (tr : Tr h i 0) : ∃ h', Tr h' i 4 ∧ Oth i h h' ∧ runF GG 100 18 61 [.loc i] h = .ok (.bl true) h' := by
  have r : runF GG 100 18 61 [.loc i] h = (match evSs GG F17 100 (b61.drop 0) (sg i none none none none none) h with | .rt v h' => .ok v h' | .nx _ h' => .ok .non h' | _ => .bad) := rfl
  obtain ⟨d1, v1, ha, g1, _, tra, oa, ea⟩ := pick_F (W := 100) (k := 15) (l := m5) tr (by decide) (by decide) (by decide)
  obtain ⟨d2, v2, hb, g2, _, trb, ob, eb⟩ := pick_F (W := 100) (k := 15) (l := m3) tra (by decide) (by decide) (by decide)
  obtain ⟨d3, hc, q0, q1, trc, oc, ec⟩ := spoon_F (W := 100) (k := 16) (t := 9) trb (by decide) (by decide) (by decide)
  obtain ⟨d4, v4, hd, g4, _, trd, od, ed⟩ := pick_F (W := 100) (k := 15) (l := m4) trc (by decide) (by decide) (by decide)
  have e3 : (6 : Int) + d3 = 6 + (d3.toNat : Int) := by omega
  have l3 : d3.toNat < 9 := by omega
  have k6 := t6 (u := v1) (v := v2) ec
  rw [e3] at k6
  refine ⟨hd, trd, ((oa.trans ob).trans oc).trans od, ?_⟩
  rw [r, go (s := q61 0) rfl (t0 i h), go (s := q61 1) rfl (t1 ea), go (s := q61 2) rfl (t2 i ha d1 v1 g1), go (s := q61 3) rfl (t3 eb), go (s := q61 4) rfl (t4 i hb v1 d2 v2 g2), go (s := q61 5) rfl (t5 i hb v1 d2 v2 g2), go (s := q61 6) rfl k6,
    go (s := q61 7) rfl (t7 i hc v1 v2 _ l3), go (s := q61 8) rfl (t8 i hc v1 v2 _ l3), go (s := q61 9) rfl (t9 i hc v1 v2 _ l3), dr (s := q61 10) rfl, rt_cons (t10 g4 ed)]
/-! the rest of the law -/
theorem rest_ok (i : Nat) (h : MH) : evSs GG (runF GG 100 18) 100 (b62.drop 1) [some (.loc i), none, none, none, none, none, none, none, none, none, none, none] h = .rt (.bl true) h := by kernel_rfl
theorem right_ok {i : Nat} {h : MH} (tr : Tr h i 0) : ∃ h', Oth i h h' ∧ runF GG 100 19 62 [.loc i] h = .ok (.bl true) h' := by
  obtain ⟨h', _, ot, e⟩ := flat_ok tr
  refine ⟨h', ot, ?_⟩
  have r : runF GG 100 19 62 [.loc i] h = (match evSs GG (runF GG 100 18) 100 (b62.drop 0) [some (.loc i), none, none, none, none, none, none, none, none, none, none, none] h with | .rt v h' => .ok v h' | .nx _ h' => .ok .non h' | _ => .bad) := rfl
  have s0 : evS GG (runF GG 100 18) 100 (.ifs (.not (.call 61 [.var 0])) [.ret (.bl false)] []) [some (.loc i), none, none, none, none, none, none, none, none, none, none, none] h = .nx [some (.loc i), none, none, none, none, none, none, none, none, none, none, none] h' := by
    have hc : ∀ (F : Fn) vs h, callD GG F 61 vs h = F 61 vs h := fun _ _ _ => rfl
    have k0 : ([some (.loc i), none, none, none, none, none, none, none, none, none, none, none] : MS)[0]? = some (some (.loc i)) := rfl
    simp only [evS, evE, evL, k0, hc, e, truth, evSs, Bool.not_true]
  rw [r, go (s := .ifs (.not (.call 61 [.var 0])) [.ret (.bl false)] []) rfl s0, rest_ok]
end Lw

namespace Lw
open PySem PySem.Spec PyProof.Rows L2 Mi
def locs (b : Nat) : Nat → List MV
  | 0 => []
  | k + 1 => .loc b :: locs (b + 1) k
abbrev ta (l : List MV) (a b c : Option MV) : MS := [some (.scr l), a, b, c]
theorem ta0 {l : List MV} {a b c : Option MV} : (ta l a b c)[0]? = some (some (.scr l)) := rfl
theorem ta1 {l : List MV} {a b c : Option MV} : (ta l a b c)[1]? = some a := rfl
theorem ta2 {l : List MV} {a b c : Option MV} : (ta l a b c)[2]? = some b := rfl
theorem ta3 {l : List MV} {a b c : Option MV} : (ta l a b c)[3]? = some c := rfl
theorem tb1 {l : List MV} {a b c d : Option MV} : (ta l a b c).set 1 d = ta l d b c := rfl
theorem tb2 {l : List MV} {a b c d : Option MV} : (ta l a b c).set 2 d = ta l a d c := rfl
theorem tb3 {l : List MV} {a b c d : Option MV} : (ta l a b c).set 3 d = ta l a b d := rfl
theorem hc54 (F : Fn) (vs : List MV) (h : MH) : callD GG F 54 vs h = F 54 vs h := rfl
theorem hc62 (F : Fn) (vs : List MV) (h : MH) : callD GG F 62 vs h = F 62 vs h := rfl
theorem tray_F {h : MH} {i : Nat} {ns : List Int} (hi : i < 100) (hn : ns.length ≤ 63) : ∃ x y, 0 ≤ y ∧ y < 2147483033 ∧ runF GG 100 19 54 [.scr (ns.map .int), .int i] h = .ok (.loc h.length) (h ++ [.lst [.int x, .int y, .int 0]]) := by
  obtain ⟨x, y, _, h1, h2, e⟩ := tray_ev (G := GG) (F := runF GG 100 18) (W := 100) (h := h) hi hn
  refine ⟨x, y, h1, h2, ?_⟩
  have r : runF GG 100 19 54 [.scr (ns.map .int), .int i] h = (match evSs GG (runF GG 100 18) 100 b54 [some (.scr (ns.map .int)), some (.int i), none, none, none] h with | .rt v h' => .ok v h' | .nx _ h' => .ok .non h' | _ => .bad) := rfl
  rw [r, e]
theorem loop1 {ns : List Int} (hn : ns.length ≤ 63) {a c : Option MV} : ∀ (k lo : Nat) (acc : List MV) (h : MH), lo + k < 100 → acc.length + k < 1000 →
    ∃ h', loopC (.nm 2) (fun σ h => evTs GG (runF GG 100 19) [] σ h) (fun σ h => evE GG (runF GG 100 19) (.call 54 [.var 0, .var 2]) σ h) (ta (ns.map .int) a none c) (rngM lo k) acc h = .ok (acc ++ locs h.length k) h' ∧
      h'.length = h.length + k ∧ (∀ j, j < h.length → h'[j]? = h[j]?) ∧ ∀ t, t < k → Tr h' (h.length + t) 0
  | 0, lo, acc, h, _, _ => ⟨h, by simp [rngM, loopC, locs], by simp, fun _ _ => rfl, fun t ht => by omega⟩
  | k + 1, lo, acc, h, h1, h2 => by
    obtain ⟨x, y, y0, y1, e⟩ := tray_F (h := h) (i := lo) (by omega) hn
    have el : evE GG (runF GG 100 19) (.call 54 [.var 0, .var 2]) (ta (ns.map .int) a (some (.int lo)) c) h = .ok (.loc h.length) (h ++ [.lst [.int x, .int y, .int 0]]) := by
      simp only [evE, evL, ta0, ta2, hc54, e]
    obtain ⟨h', q1, q2, q3, q4⟩ := loop1 hn (a := a) (c := c) k (lo + 1) (acc ++ [.loc h.length]) (h ++ [.lst [.int x, .int y, .int 0]]) (by omega) (by simp; omega)
    refine ⟨h', ?_, by rw [q2]; simp; omega, fun j hj => ?_, fun t ht => ?_⟩
    · have al : decide (acc.length < 100000) = true := decide_eq_true (by omega)
      have tt : evTs GG (runF GG 100 19) [] (ta (ns.map .int) a (some (.int lo)) c) h = .ok (.bl true) h := by simp only [evTs]
      have cast : ((lo : Int) + 1) = ((lo + 1 : Nat) : Int) := by omega
      simp only [rngM, loopC, stT, tb2, tt, truth, el, al, if_true, cast]
      rw [q1]
      simp [locs, List.append_assoc]
    · rw [q3 j (by simp; omega), List.getElem?_append_left hj]
    · cases t with
      | zero =>
        refine ⟨x, y, ?_, y0, y1⟩
        rw [Nat.add_zero, q3 h.length (by simp)]
        simp
      | succ t =>
        have := q4 t (by omega)
        rw [List.length_append, List.length_singleton] at this
        rw [show h.length + (t + 1) = h.length + 1 + t by omega]
        exact this
theorem loop2 {l : List MV} {a b : Option MV} : ∀ (k s : Nat) (acc : List MV) (h : MH), acc.length + k < 1000 → (∀ t, t < k → Tr h (s + t) 0) →
    ∃ h', loopC (.nm 3) (fun σ h => evTs GG (runF GG 100 19) [] σ h) (fun σ h => evE GG (runF GG 100 19) (.call 62 [.var 3]) σ h) (ta l a b none) (locs s k) acc h = .ok (acc ++ List.replicate k (.bl true)) h'
  | 0, s, acc, h, _, _ => ⟨h, by simp [locs, loopC]⟩
  | k + 1, s, acc, h, h2, tr => by
    obtain ⟨h1, ot, e⟩ := right_ok (i := s) (h := h) (tr 0 (by omega))
    have el : evE GG (runF GG 100 19) (.call 62 [.var 3]) (ta l a b (some (.loc s))) h = .ok (.bl true) h1 := by
      simp only [evE, evL, ta3, hc62, e]
    obtain ⟨h', q⟩ := loop2 (l := l) (a := a) (b := b) k (s + 1) (acc ++ [.bl true]) h1 (by simp; omega) fun t ht => by
      obtain ⟨x, y, q1, q2⟩ := tr (t + 1) (by omega)
      refine ⟨x, y, ?_, q2⟩
      rw [show s + 1 + t = s + (t + 1) by omega, ot _ (by omega)]
      exact q1
    refine ⟨h', ?_⟩
    have al : decide (acc.length < 100000) = true := decide_eq_true (by omega)
    have tt : evTs GG (runF GG 100 19) [] (ta l a b (some (.loc s))) h = .ok (.bl true) h := by simp only [evTs]
    simp only [locs, loopC, stT, tb3, tt, truth, el, al, if_true]
    rw [q]
    simp [List.replicate_succ]
theorem bools_rep : ∀ n : Nat, boolsM (List.replicate n (.bl true)) = some (List.replicate n true)
  | 0 => rfl
  | n + 1 => by
    show (boolsM (List.replicate n (.bl true))).map (true :: ·) = _
    rw [bools_rep n]
    rfl
theorem runs (ns : List Int) (hn : ns.length ≤ 63) : ∃ hm, runF GG 100 20 63 [.scr (ns.map .int)] [] = .ok (.bl true) hm := by
  have r : runF GG 100 20 63 [.scr (ns.map .int)] [] = (match evSs GG (runF GG 100 19) 100 b63 (ta (ns.map .int) none none none) [] with | .rt v h' => .ok v h' | .nx _ h' => .ok .non h' | _ => .bad) := rfl
  generalize hm1 : (if (5 : Int) < ((ns.map MV.int).length : Int) then (5 : Int) else ((ns.map MV.int).length : Int)) = m1
  generalize hm2 : (if (2 : Int) < m1 then m1 else (2 : Int)) = m2
  have b2 : 2 ≤ m2 ∧ m2 ≤ 5 := by
    rw [← hm2, ← hm1]
    split <;> split <;> (try split at *) <;> omega
  have md : mid m2 = true := by
    unfold mid
    rw [Bool.and_eq_true, decide_eq_true_eq, decide_eq_true_eq]
    omega
  obtain ⟨h1, p1, p2, _, p4⟩ := loop1 hn (a := none) (c := none) m2.toNat 0 [] [] (by omega) (by simp; omega)
  obtain ⟨h2, p5⟩ := loop2 (l := ns.map .int) (a := some (.lst (locs 0 m2.toNat))) (b := none) m2.toNat 0 [] h1 (by simp; omega) p4
  rw [List.nil_append] at p1 p5
  have z0 : ([] : MH).length = 0 := rfl
  rw [z0] at p1
  have c0 : ((0 : Nat) : Int) = 0 := rfl
  rw [c0] at p1
  have e1 : evS GG (runF GG 100 19) 100 (.set 1 (.comp false (.nm 2) (.rng1 (.blt .max [.int 2, .blt .min [.blt .len [.var 0], .int 5]])) [] (.call 54 [.var 0, .var 2]) [2])) (ta (ns.map .int) none none none) [] = .nx (ta (ns.map .int) (some (.lst (locs 0 m2.toNat))) none none) h1 := by
    have ev : evE GG (runF GG 100 19) (.comp false (.nm 2) (.rng1 (.blt .max [.int 2, .blt .min [.blt .len [.var 0], .int 5]])) [] (.call 54 [.var 0, .var 2]) [2]) (ta (ns.map .int) none none none) [] = .ok (.lst (locs 0 m2.toNat)) h1 := by
      have ei : evR GG (runF GG 100 19) (.rng1 (.blt .max [.int 2, .blt .min [.blt .len [.var 0], .int 5]])) (ta (ns.map .int) none none none) [] = .ok (rngM 0 m2.toNat) [] := by
        simp only [evR, evE, evL, ta0, blt, bLen, asSeq, bMin, bMax, hm1, hm2, md, if_true]
      have ww : wipeM (ta (ns.map MV.int) none none none) [2] = ta (ns.map .int) none none none := rfl
      rw [evE]
      dsimp only [specB]
      rw [ei]
      dsimp only
      rw [ww, p1]
    rw [evS, ev]
    rfl
  have e2 : evS GG (runF GG 100 19) 100 (.ret (.blt .all [.comp false (.nm 3) (.var 1) [] (.call 62 [.var 3]) [3]])) (ta (ns.map .int) (some (.lst (locs 0 m2.toNat))) none none) h1 = .rt (.bl true) h2 := by
    have ev : evE GG (runF GG 100 19) (.comp false (.nm 3) (.var 1) [] (.call 62 [.var 3]) [3]) (ta (ns.map .int) (some (.lst (locs 0 m2.toNat))) none none) h1 = .ok (.lst (List.replicate m2.toNat (.bl true))) h2 := by
      have ww : wipeM (ta (ns.map MV.int) (some (.lst (locs 0 m2.toNat))) none none) [3] = ta (ns.map .int) (some (.lst (locs 0 m2.toNat))) none none := rfl
      have ei : seqOf (evE GG (runF GG 100 19) (.var 1) (ta (ns.map .int) (some (.lst (locs 0 m2.toNat))) none none) h1) = .ok (locs 0 m2.toNat) h1 := by
        simp only [evE, ta1, seqOf]
      rw [evE]
      dsimp only [specB]
      rw [ei]
      dsimp only
      rw [ww, p5]
    have al : bAll [.lst (List.replicate m2.toNat (.bl true))] h2 = .ok (.bl true) h2 := by
      simp [bAll, bools_rep]
    have eL : evL GG (runF GG 100 19) [.comp false (.nm 3) (.var 1) [] (.call 62 [.var 3]) [3]] (ta (ns.map .int) (some (.lst (locs 0 m2.toNat))) none none) h1 = .ok [.lst (List.replicate m2.toNat (.bl true))] h2 := by
      rw [evL, ev]
      rfl
    rw [evS, evE, eL]
    show (match bAll [.lst (List.replicate m2.toNat (.bl true))] h2 with | .ok v h1 => SR.rt v h1 | .bad => .bad) = _
    rw [al]
  refine ⟨h2, ?_⟩
  rw [r]
  unfold b63
  rw [nx_cons e1, rt_cons e2]
end Lw

namespace Lw
open PySem PySem.Spec PyProof.Rows L2 Mi
theorem okL : LL.ok = true := by kernel_rfl
theorem bn0 : BnP f0 [("value" : Str), ("least" : Str), ("most" : Str)] := fun _ _ _ _ _ _ us hl => match us, hl with | [_, _, _], _ => by kernel_rfl
theorem bn1 : BnP f1 [("first" : Str), ("last" : Str)] := fun _ _ _ _ _ _ us hl => match us, hl with | [_, _], _ => by kernel_rfl
theorem bn2 : BnP f2 [("top" : Str), ("bottom" : Str)] := fun _ _ _ _ _ _ us hl => match us, hl with | [_, _], _ => by kernel_rfl
theorem bn3 : BnP f3 [("value" : Str)] := fun _ _ _ _ _ _ us hl => match us, hl with | [_], _ => by kernel_rfl
theorem bn4 : BnP f4 [("one" : Str), ("other" : Str)] := fun _ _ _ _ _ _ us hl => match us, hl with | [_, _], _ => by kernel_rfl
theorem bn5 : BnP f5 [("one" : Str), ("other" : Str)] := fun _ _ _ _ _ _ us hl => match us, hl with | [_, _], _ => by kernel_rfl
theorem bn6 : BnP f6 [("one" : Str), ("other" : Str)] := fun _ _ _ _ _ _ us hl => match us, hl with | [_, _], _ => by kernel_rfl
theorem bn7 : BnP f7 [("one" : Str), ("other" : Str)] := fun _ _ _ _ _ _ us hl => match us, hl with | [_, _], _ => by kernel_rfl
theorem bn8 : BnP f8 [("one" : Str), ("other" : Str)] := fun _ _ _ _ _ _ us hl => match us, hl with | [_, _], _ => by kernel_rfl
theorem bn9 : BnP f9 [("one" : Str), ("other" : Str)] := fun _ _ _ _ _ _ us hl => match us, hl with | [_, _], _ => by kernel_rfl
theorem bn10 : BnP f10 [("one" : Str), ("other" : Str)] := fun _ _ _ _ _ _ us hl => match us, hl with | [_, _], _ => by kernel_rfl
theorem bn11 : BnP f11 [("some" : Str)] := fun _ _ _ _ _ _ us hl => match us, hl with | [_], _ => by kernel_rfl
theorem bn12 : BnP f12 [("some" : Str)] := fun _ _ _ _ _ _ us hl => match us, hl with | [_], _ => by kernel_rfl
theorem bn13 : BnP f13 [("tree" : Str)] := fun _ _ _ _ _ _ us hl => match us, hl with | [_], _ => by kernel_rfl
theorem bn14 : BnP f14 [("value" : Str)] := fun _ _ _ _ _ _ us hl => match us, hl with | [_], _ => by kernel_rfl
theorem bn15 : BnP f15 [("value" : Str)] := fun _ _ _ _ _ _ us hl => match us, hl with | [_], _ => by kernel_rfl
theorem bn16 : BnP f16 [("value" : Str)] := fun _ _ _ _ _ _ us hl => match us, hl with | [_], _ => by kernel_rfl
theorem bn17 : BnP f17 [("value" : Str), ("is_right_cost" : Str)] := fun _ _ _ _ _ _ us hl => match us, hl with | [_, _], _ => by kernel_rfl
theorem bn18 : BnP f18 [("value" : Str), ("is_right_cost" : Str)] := fun _ _ _ _ _ _ us hl => match us, hl with | [_, _], _ => by kernel_rfl
theorem bn19 : BnP f19 [("tree" : Str)] := fun _ _ _ _ _ _ us hl => match us, hl with | [_], _ => by kernel_rfl
theorem bn20 : BnP f20 [("tree" : Str)] := fun _ _ _ _ _ _ us hl => match us, hl with | [_], _ => by kernel_rfl
theorem bn21 : BnP f21 [("found" : Str), ("number" : Str)] := fun _ _ _ _ _ _ us hl => match us, hl with | [_, _], _ => by kernel_rfl
theorem bn22 : BnP f22 [("parts" : Str)] := fun _ _ _ _ _ _ us hl => match us, hl with | [_], _ => by kernel_rfl
theorem bn23 : BnP f23 [("found" : Str), ("cost" : Str)] := fun _ _ _ _ _ _ us hl => match us, hl with | [_, _], _ => by kernel_rfl
theorem bn24 : BnP f24 [("found" : Str), ("number" : Str)] := fun _ _ _ _ _ _ us hl => match us, hl with | [_, _], _ => by kernel_rfl
theorem bn25 : BnP f25 [("tree" : Str)] := fun _ _ _ _ _ _ us hl => match us, hl with | [_], _ => by kernel_rfl
theorem bn26 : BnP f26 [("tree" : Str)] := fun _ _ _ _ _ _ us hl => match us, hl with | [_], _ => by kernel_rfl
theorem bn27 : BnP f27 [("tree" : Str)] := fun _ _ _ _ _ _ us hl => match us, hl with | [_], _ => by kernel_rfl
theorem bn28 : BnP f28 [("one" : Str), ("other" : Str)] := fun _ _ _ _ _ _ us hl => match us, hl with | [_, _], _ => by kernel_rfl
theorem bn29 : BnP f29 [("one" : Str), ("other" : Str)] := fun _ _ _ _ _ _ us hl => match us, hl with | [_, _], _ => by kernel_rfl
theorem bn30 : BnP f30 [("one" : Str), ("other" : Str)] := fun _ _ _ _ _ _ us hl => match us, hl with | [_, _], _ => by kernel_rfl
theorem bn31 : BnP f31 [("found" : Str), ("number" : Str)] := fun _ _ _ _ _ _ us hl => match us, hl with | [_, _], _ => by kernel_rfl
theorem bn32 : BnP f32 [("tables" : Str), ("number" : Str), ("picks" : Str)] := fun _ _ _ _ _ _ us hl => match us, hl with | [_, _, _], _ => by kernel_rfl
theorem bn33 : BnP f33 [("tables" : Str), ("picks" : Str)] := fun _ _ _ _ _ _ us hl => match us, hl with | [_, _], _ => by kernel_rfl
theorem bn34 : BnP f34 [("nodes" : Str), ("numbers" : Str), ("picks" : Str)] := fun _ _ _ _ _ _ us hl => match us, hl with | [_, _, _], _ => by kernel_rfl
theorem bn35 : BnP f35 [("weight" : Str), ("branches" : Str)] := fun _ _ _ _ _ _ us hl => match us, hl with | [_, _], _ => by kernel_rfl
theorem bn36 : BnP f36 [("value" : Str), ("tree" : Str)] := fun _ _ _ _ _ _ us hl => match us, hl with | [_, _], _ => by kernel_rfl
theorem bn37 : BnP f37 [("value" : Str), ("trees" : Str)] := fun _ _ _ _ _ _ us hl => match us, hl with | [_, _], _ => by kernel_rfl
theorem bn38 : BnP f38 [("self" : Str), ("places" : Str), ("stand" : Str), ("lists" : Str), ("chance" : Str), ("spent" : Str), ("many_gone" : Str), ("floors" : Str)] := fun _ _ _ _ _ _ us hl => match us, hl with | [_, _, _, _, _, _, _, _], _ => by kernel_rfl
theorem bn39 : BnP f39 [("walk" : Str)] := fun _ _ _ _ _ _ us hl => match us, hl with | [_], _ => by kernel_rfl
theorem bn40 : BnP f40 [("tree" : Str), ("row" : Str)] := fun _ _ _ _ _ _ us hl => match us, hl with | [_, _], _ => by kernel_rfl
theorem bn41 : BnP f41 [("some" : Str), ("index" : Str), ("value" : Str)] := fun _ _ _ _ _ _ us hl => match us, hl with | [_, _, _], _ => by kernel_rfl
theorem bn42 : BnP f42 [("walk" : Str), ("index" : Str)] := fun _ _ _ _ _ _ us hl => match us, hl with | [_, _], _ => by kernel_rfl
theorem bn43 : BnP f43 [("trees" : Str), ("rule" : Str), ("picks" : Str)] := fun _ _ _ _ _ _ us hl => match us, hl with | [_, _, _], _ => by kernel_rfl
theorem bn44 : BnP f44 [("trees" : Str), ("rule" : Str), ("picks" : Str)] := fun _ _ _ _ _ _ us hl => match us, hl with | [_, _, _], _ => by kernel_rfl
theorem bn45 : BnP f45 [("nodes" : Str), ("picks" : Str)] := fun _ _ _ _ _ _ us hl => match us, hl with | [_, _], _ => by kernel_rfl
theorem bn46 : BnP f46 [("walk" : Str), ("picks" : Str)] := fun _ _ _ _ _ _ us hl => match us, hl with | [_, _], _ => by kernel_rfl
theorem bn47 : BnP f47 [("trees" : Str), ("rule" : Str), ("picks" : Str)] := fun _ _ _ _ _ _ us hl => match us, hl with | [_, _, _], _ => by kernel_rfl
theorem bn48 : BnP f48 [("value" : Str)] := fun _ _ _ _ _ _ us hl => match us, hl with | [_], _ => by kernel_rfl
theorem bn49 : BnP f49 [("claim" : Str)] := fun _ _ _ _ _ _ us hl => match us, hl with | [_], _ => by kernel_rfl
theorem bn50 : BnP f50 [("claim" : Str)] := fun _ _ _ _ _ _ us hl => match us, hl with | [_], _ => by kernel_rfl
theorem bn51 : BnP f51 [("tree" : Str), ("row" : Str)] := fun _ _ _ _ _ _ us hl => match us, hl with | [_, _], _ => by kernel_rfl
theorem bn52 : BnP f52 [("trees" : Str), ("picks" : Str), ("number" : Str), ("paper" : Str)] := fun _ _ _ _ _ _ us hl => match us, hl with | [_, _, _, _], _ => by kernel_rfl
theorem bn53 : BnP f53 [("claim" : Str), ("paper" : Str)] := fun _ _ _ _ _ _ us hl => match us, hl with | [_, _], _ => by kernel_rfl
theorem bn54 : BnP f54 [("_law_script" : Str), ("_law_k" : Str)] := fun _ _ _ _ _ _ us hl => match us, hl with | [_, _], _ => by kernel_rfl
theorem bn55 : BnP f55 [("_law_tray_here" : Str), ("_law_top" : Str)] := fun _ _ _ _ _ _ us hl => match us, hl with | [_, _], _ => by kernel_rfl
theorem bn56 : BnP f56 [("_law_tray_here" : Str), ("_law_things" : Str)] := fun _ _ _ _ _ _ us hl => match us, hl with | [_, _], _ => by kernel_rfl
theorem bn57 : BnP f57 [("_law_top" : Str), ("_law_bottom" : Str)] := fun _ _ _ _ _ _ us hl => match us, hl with | [_, _], _ => by kernel_rfl
theorem bn58 : BnP f58 [("_law_a" : Str), ("_law_b" : Str)] := fun _ _ _ _ _ _ us hl => match us, hl with | [_, _], _ => by kernel_rfl
theorem bn59 : BnP f59 [("_law_a" : Str), ("_law_b" : Str)] := fun _ _ _ _ _ _ us hl => match us, hl with | [_, _], _ => by kernel_rfl
theorem bn60 : BnP f60 [("_law_said" : Str), ("_law_proof" : Str), ("_law_due" : Str)] := fun _ _ _ _ _ _ us hl => match us, hl with | [_, _, _], _ => by kernel_rfl
theorem bn61 : BnP f61 [("_law_tray_here" : Str)] := fun _ _ _ _ _ _ us hl => match us, hl with | [_], _ => by kernel_rfl
theorem bn62 : BnP f62 [("_law_tray_here" : Str)] := fun _ _ _ _ _ _ us hl => match us, hl with | [_], _ => by kernel_rfl
theorem bn63 : BnP f63 [("_law_script" : Str)] := fun _ _ _ _ _ _ us hl => match us, hl with | [_], _ => by kernel_rfl
theorem bnAll : BnAll LL.fn LL.nps := ⟨bn0, bn1, bn2, bn3, bn4, bn5, bn6, bn7, bn8, bn9, bn10, bn11, bn12, bn13, bn14, bn15, bn16, bn17, bn18, bn19, bn20, bn21, bn22, bn23, bn24, bn25, bn26, bn27, bn28, bn29, bn30, bn31, bn32, bn33, bn34, bn35, bn36, bn37, bn38, bn39, bn40, bn41, bn42, bn43, bn44, bn45, bn46, bn47, bn48, bn49, bn50, bn51, bn52, bn53, bn54, bn55, bn56, bn57, bn58, bn59, bn60, bn61, bn62, bn63, trivial⟩
theorem kw0 : KwP LL (53, 0, [("paper" : Str), ("claim" : Str)], [1, 0]) := by
  intro d dd np h1 h2 h3
  cases h1; cases h2; cases h3
  exact ⟨by kernel_rfl, fun _ _ _ _ _ _ us hl => match us, hl with | [_, _], _ => by kernel_rfl⟩
theorem kwAll : ∀ k ∈ LL.S.kws, KwP LL k := by
  intro k hk
  rcases List.mem_cons.mp hk with rfl | hk
  · exact kw0
  cases hk
end Lw

namespace Lw
open PySem PySem.Spec PyProof.Rows L2 Mi
abbrev R : PySem.W.OpenRow := PySem.W.OpenLaw.row PySem.Challenge.rw_lookcosts_k78_known_papers
abbrev hk : PySem.W.Hook := He.hookX 5 LL.fa LL.fn LL.ts [] LL.ex
def ob (s : PySem.W.SharedT) : He.AlX := He.obsX 5 LL.fa LL.fn LL.ts [] LL.ex (HandSHeadRun.getT s)
theorem ob_eq (s : PySem.W.SharedT) : ob s = hk.obs s.abs := He.obsX_eq (HandSHeadRun.getT_eq s)
theorem run_t (w : World) : HandSHeadRun.RunEq R (PySem.W.view R.prog [81]) hk ob 6000 loose (w.withFollow "special-get-raises" true) := by
  intro os
  kernel_rfl
theorem run_f (w : World) : HandSHeadRun.RunEq R (PySem.W.view R.prog [81]) hk ob 6000 loose (w.withFollow "special-get-raises" false) := by
  intro os
  kernel_rfl
theorem run (w : World) : HandSHeadRun.RunEq R (PySem.W.view R.prog [81]) hk ob 6000 loose w := PySem.W.byRow2 "special-get-raises" run_f run_t w
end Lw

open PySem PySem.W PySem.Calls PyProof.Rows
theorem PySem.Challenge.cw_lookcosts_k78_known_papers_holds : PySem.Challenge.rw_lookcosts_k78_known_papers.Holds := by
  w_on; o_law
  refine HandSHeadRun.head_any (r := Lw.R) (q := view Lw.R.prog [81]) (H := Lw.hk) (ob := Lw.ob) (M := 6000) (loose := Lw.loose) (d := HandSHeadRun.topDef Lw.R.prog 81) (kwd := []) Lw.ob_eq
    (by kernel_rfl) (fun s => by kernel_rfl) Lw.run (by kernel_rfl) (by kernel_rfl) (by kernel_rfl) (by rfl) (by first | assumption | decide +kernel) (by decide +kernel) ⟨rfl, rfl, rfl, rfl, rfl, by decide +kernel⟩ ?hw ?hc
  case hw => w_witness2
  case hc =>
    refine Mi.walkG (l := PySem.Challenge.rw_lookcosts_k78_known_papers) (n := 63) (k := 2 * 20) rfl (by decide) (by kernel_rfl) ⟨⟨rfl, by decide, by decide⟩, rfl⟩ ?_
    intro w mg fa h Y G named
    have e : (HandSHeadRun.topDef Lw.R.prog 81).name = ("law" : PySem.Str) := by kernel_rfl
    rw [e] at named
    exact Mi.law_end Lw.okL Lw.bnAll Lw.kwAll (j := 63) (W := 100) (k := 20) (d := Lw.dfs.getD 63 ⟨0, 0, true, []⟩) rfl rfl (by kernel_rfl) rfl Lw.runs Y G named
