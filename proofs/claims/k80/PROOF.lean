import PyProof.Rows.All
import Wide.All
import OpenK.AllK
import Wide.FinOn
import HandS.ForMost
import KE.KDictKeyed
import HandS.Head0
import HandS.Head1
import HandS.Head2
import HandS.HeadEnd
import HandS.HeadHook1
import HandS.HeadHook2
import HandS.HeadHook3
import HandS.HeadHook4
import HandS.Words
import HandS.Wide
import HandS.TupAny
import HandS.TupMul
import HandS.Deep
import HandS.Style
import HandS.IsInst
import HandS.SortInts
import HandS.SortRule
import HandS.Flow
import HandS.More
import KE.SortData
import KE.OsSortAny
import KE.KSortedM
import PyProof.ConsumeWalk
import HandS.Sort
import HandS.WideBits
import HandS.Ends
import HandS.Defaults
import HandS.Walk
import HandS.Dict
import KE.DataFind
import HandS.FStr
import HandS.Text
import HandS.TupLe
import KE.KDictDisplayH
import HandS.Codes
import HandS.Property
import KE.GoesMore
import HandS.Iter
import HandS.Zip
import HandS.Comp
import KE.KStateDown
import PySem.Challenge.RW_lookcosts_k80_whole_pairs_certified
set_option Elab.async false
set_option linter.all false
set_option autoImplicit false
set_option maxRecDepth 100000
set_option maxHeartbeats 0
set_option exponentiation.threshold 10000
namespace Mi
open PySem L2

inductive MV where
  | non | bl (b : Bool) | int (i : Int) | str (s : Str)
  | tup (l : List MV) | lst (l : List MV)
  | obj (c : Nat) (fs : List MV)
  | loc (i : Nat)
  | fn (j : Nat)
  | kd (j : Nat)
  | scr (l : List MV)
  deriving Inhabited

inductive MO where
  | lst (l : List MV)
  | dt (kvs : List (MV × MV))
  | ins (c : Nat) (fs : List (Nat × MV))
  | dead
  deriving Inhabited

abbrev MH := List MO
abbrev MS := List (Option MV)

inductive Out (α : Type) where
  | ok (a : α) (h : MH)
  | bad

def Out.bind {α β : Type} (x : Out α) (f : α → MH → Out β) : Out β :=
  match x with
  | .ok a h => f a h
  | .bad => .bad

inductive Bop where | add | sub | mul | fdiv | mod | pow
  deriving DecidableEq
inductive Cop where | eq | ne | lt | le | gt | ge | in_ | ni
  deriving DecidableEq
inductive Ty where | int | bool | str | tuple | list
  deriving DecidableEq
inductive Blt where | len | int | list | tuple | abs | sum | all | any | min | max | divmod | sorted | repr
  deriving DecidableEq
inductive Mth where | append | extend | pop | get | remove | join
  deriving DecidableEq

inductive Tg where
  | nm (i : Nat)
  | tup (l : List Tg)

inductive Ex where
  | var (i : Nat)
  | non | bl (b : Bool) | int (i : Int) | str (s : Str)
  | glb (j : Nat)
  | bin (o : Bop) (a b : Ex)
  | neg (a : Ex)
  | cmp (o : Cop) (a b : Ex)
  | isN (a : Ex) | notN (a : Ex)
  | chn (o o' : Cop) (a b c : Ex)
  | and (a b : Ex) | or (a b : Ex) | not (a : Ex)
  | ife (c a b : Ex)
  | tup (l : List Ex)
  | lst (m : Bool) (l : List Ex)
  | idx (a b : Ex)
  | slc (a : Ex) (lo hi : Option Ex)
  | rev (a : Ex)
  | call (j : Nat) (l : List Ex)
  | callK (j : Nat) (ks : List Nat) (l : List Ex)
  | callV (i : Nat) (l : List Ex)
  | blt (b : Blt) (l : List Ex)
  | isi (a : Ex) (t : Ty)
  | mth (m : Mth) (o : Ex) (l : List Ex)
  | fld (o : Ex) (f : Nat)
  | new (c : Nat) (l : List Ex)
  | comp (m : Bool) (tg : Tg) (it : Ex) (ifs : List Ex) (elt : Ex) (own : List Nat)
  | dic0
  | dic1 (k v : Ex)
  | rng1 (a : Ex) | rng2 (a b : Ex) | rngd (a b : Ex)
  | enm (a : Ex)
  | zip (a b : Ex)
  | frz (a : Ex)
  | lstM (a : Ex)
  | prp (o : Ex) (f : Nat)
  | isc (a : Ex) (c : Nat)
  | fmt (a : Ex)
  | fstr (l : List Ex)
  | isB (a : Ex) (b : Bool)
  | niB (a : Ex) (b : Bool)

inductive Sx where
  | expr (e : Ex)
  | set (i : Nat) (e : Ex)
  | unp (t : Tg) (e : Ex)
  | par (i j : Nat) (a b : Ex)
  | par3 (i j l : Nat) (a b c : Ex)
  | sub (o i e : Ex)
  | subn (o i : Ex) (j : Nat) (e : Ex)
  | fld (o : Ex) (f : Nat) (e : Ex)
  | aug (i : Nat) (o : Bop) (e : Ex)
  | ifs (c : Ex) (a b : List Sx)
  | whl (c : Ex) (b : List Sx)
  | for_ (t : Tg) (it : Ex) (b : List Sx)
  | ret (e : Ex)
  | retn
  | brk | cnt | pass | never

inductive SR where
  | nx (σ : MS) (h : MH) | rt (v : MV) (h : MH) | bk (σ : MS) (h : MH) | ct (σ : MS) (h : MH) | bad

/-! ### data -/
mutual
def MV.pd : MV → Option PyData
  | .non => some .none
  | .bl b => some (.bool b)
  | .int i => some (.int i)
  | .str s => some (.str s)
  | .tup l => (pdL l).map .tuple
  | .lst l => (pdL l).map .list
  | _ => none
def pdL : List MV → Option (List PyData)
  | [] => some []
  | a :: l => match a.pd, pdL l with
    | some x, some y => some (x :: y)
    | _, _ => none
end
mutual
def MV.nk : MV → Option NestedKey
  | .non => some .none
  | .bl b => some (.num (if b then 1 else 0))
  | .int i => some (.num i)
  | .str s => some (.text s)
  | .tup l => (nkL l).map .tup
  | _ => none
def nkL : List MV → Option (List NestedKey)
  | [] => some []
  | a :: l => match a.nk, nkL l with
    | some x, some y => some (x :: y)
    | _, _ => none
end
mutual
def MV.fix : MV → Bool
  | .tup l => fixL l
  | .lst l => fixL l
  | .obj _ l => fixL l
  | .scr l => fixL l
  | .loc _ => false
  | _ => true
def fixL : List MV → Bool
  | [] => true
  | a :: l => a.fix && fixL l
end
/-! lists that were made here become data -/
mutual
def frz (h : MH) : MV → Option MV
  | .tup l => (frzL h l).map .tup
  | .lst l => (frzL h l).map .lst
  | .obj c l => (frzL h l).map (.obj c)
  | .loc i => match h[i]? with
    | some (.lst l) => if fixL l then some (.lst l) else none
    | _ => none
  | .scr l => if fixL l then some (.scr l) else none
  | v => some v
def frzL (h : MH) : List MV → Option (List MV)
  | [] => some []
  | a :: l => match frz h a, frzL h l with
    | some x, some y => some (x :: y)
    | _, _ => none
end

def LIM : Nat := 2 ^ 9000
def small (i : Int) : Bool := decide (i.natAbs < LIM)

def truth (h : MH) : MV → Option Bool
  | .non => some false
  | .bl b => some b
  | .int i => some (i != 0)
  | .tup l => some (!l.isEmpty)
  | .lst l => some (!l.isEmpty)
  | _ => none

def asSeq (h : MH) : MV → Option (List MV)
  | .tup l => some l
  | .lst l => some l
  | .scr l => some l
  | .loc i => match h[i]? with
    | some (.lst l) => some l
    | _ => none
  | _ => none

def bop (o : Bop) (a b : MV) (h : MH) : Out MV :=
  match o, a, b with
  | .add, .int i, .int j => .ok (.int (i + j)) h
  | .sub, .int i, .int j => .ok (.int (i - j)) h
  | .mul, .int i, .int j => if small i && small j then .ok (.int (i * j)) h else .bad
  | .fdiv, .int i, .int j => if decide (0 < j) && small j then .ok (.int (i / j)) h else .bad
  | .mod, .int i, .int j => if decide (0 < j) then .ok (.int (i % j)) h else .bad
  | .pow, .int i, .int j => if decide (0 ≤ j) && decide (j ≤ 1000) && decide (i.natAbs < 1000) then .ok (.int (i ^ j.toNat)) h else .bad
  | .mul, .tup l, .int k => if decide (2 ≤ k) && (decide (k ≤ 1000) && (!l.isEmpty && decide (l.length ≤ 1000))) then .ok (.tup (List.replicate k.toNat l).flatten) h else .bad
  | .add, .str a, .str b => if decide (a.length + b.length ≤ 100000) then .ok (.str (a ++ b)) h else .bad
  | .add, .tup a, .tup b => if decide (a.length + b.length ≤ 100000) then .ok (.tup (a ++ b)) h else .bad
  | .add, .lst a, .lst b => if decide (a.length + b.length ≤ 100000) then .ok (.lst (a ++ b)) h else .bad
  | _, _, _ => .bad

def pyEq (a b : MV) : Option Bool := match a.pd, b.pd with
  | some d, some e => if SeqAt.shaped d && SeqAt.shaped e then some (PyData.eqv d e) else none
  | _, _ => none

def flat : MV → Bool
  | .bl _ => true | .int _ => true | .str _ => true | .non => true
  | _ => false
def atKd (kds : List (List (Str × MV))) (j : Nat) (s : Str) : Option MV := match kds[j]? with
  | some t => t.lookup s
  | none => none
def inL (a : MV) (l : List MV) : Option Bool := match a.pd, pdL l with
  | some d, some ds => if SeqAt.shaped d && SeqAt.shaped (.list ds) then some (ds.any fun z => PyData.eqv z d) else none
  | _, _ => none
def eqF : MV → MV → Bool
  | .non, .non => true
  | .bl a, .bl b => a == b
  | .bl a, .int b => (if a then 1 else 0) == b
  | .int a, .bl b => a == (if b then 1 else 0)
  | .int a, .int b => a == b
  | .str a, .str b => a == b
  | _, _ => false
def inT (a : MV) (l : List MV) : Option Bool := if flat a && l.all flat then some (l.any fun y => eqF y a) else none

def cop (o : Cop) (a b : MV) (h : MH) : Out MV :=
  match o, a, b with
  | .lt, .int i, .int j => .ok (.bl (decide (i < j))) h
  | .le, .int i, .int j => .ok (.bl (decide (i ≤ j))) h
  | .gt, .int i, .int j => .ok (.bl (decide (j < i))) h
  | .ge, .int i, .int j => .ok (.bl (decide (j ≤ i))) h
  | .eq, a, b => match pyEq a b with
    | some k => .ok (.bl k) h
    | none => .bad
  | .ne, a, b => match pyEq a b with
    | some k => .ok (.bl (!k)) h
    | none => .bad
  | _, _, _ => .bad
/-! ### the program's tables -/
structure Df where
  np : Nat
  nn : Nat
  pure : Bool
  body : List Sx
  dfl : List Int
structure Cl where
  flds : List Nat
  init : Nat
structure Gm where
  defs : List Df
  glo : List MV
  kds : List (List (Str × MV))
  cls : List Cl
  prs : List (Nat × Nat × Nat)

abbrev Fn := Nat → List MV → MH → Out MV

def callD (G : Gm) (F : Fn) (j : Nat) (l : List MV) (h : MH) : Out MV := match G.defs[j]? with
  | some d => match d.pure with
    | true => match fixL l with
      | true => match F j l [] with
        | .ok v h' => match frz h' v with
          | some v' => .ok v' h
          | none => .bad
        | .bad => .bad
      | false => .bad
    | false => F j l h
  | none => .bad
def newO (G : Gm) (F : Fn) (c : Nat) (l : List MV) (h : MH) : Out MV := match G.cls[c]? with
  | some cl => match fixL l with
    | true => match F cl.init (.loc 0 :: l) [.ins c []] with
      | .ok .non (.ins c' fs :: _) => if decide (c' = c) && (decide (fs.map (·.1) = cl.flds)) && fixL (fs.map (·.2)) then .ok (.obj c (fs.map (·.2))) h else .bad
      | _ => .bad
    | false => .bad
  | none => .bad
/-- a call with keywords or defaults: where each parameter's value stands -/
def dflD (G : Gm) (j : Nat) : List MV := match G.defs[j]? with
  | some d => d.dfl.map .int
  | none => []
def argK (G : Gm) (j : Nat) (ks : List Nat) (vs : List MV) : List MV := ks.map fun k => ((vs ++ dflD G j)[k]?).getD .non
/-- the class of an instance -/
def clsM (h : MH) : MV → Option Nat
  | .obj c _ => some c
  | .loc i => match h[i]? with
    | some (.ins c _) => some c
    | _ => none
  | _ => none
def prF (G : Gm) (c f : Nat) : Option Nat := (G.prs.find? fun p => decide (p.1 = c ∧ p.2.1 = f)).map (·.2.2)
/-- an attribute -/
def getF (G : Gm) (f : Nat) (h : MH) : MV → Option MV
  | .obj c l => match G.cls[c]? with
    | some cl => (cl.flds.zip l).lookup f
    | none => none
  | .loc i => match h[i]? with
    | some (.ins c fs) => match G.cls[c]? with
      | some _ => fs.lookup f
      | none => none
    | _ => none
  | _ => none
def putA (f : Nat) (v : MV) : List (Nat × MV) → List (Nat × MV)
  | [] => [(f, v)]
  | (g, x) :: r => if g = f then (g, v) :: r else (g, x) :: putA f v r

/-! ### built-ins, by values -/
def boolsM : List MV → Option (List Bool)
  | [] => some []
  | .bl b :: l => (boolsM l).map (b :: ·)
  | _ => none
def intsM : List MV → Option (List Int)
  | [] => some []
  | .int b :: l => (intsM l).map (b :: ·)
  | _ => none
def pairsM : List MV → Option (List (Int × Int))
  | [] => some []
  | .tup [.int a, .int b] :: l => (pairsM l).map ((a, b) :: ·)
  | _ => none
def insI (a : Int) : List Int → List Int
  | [] => [a]
  | b :: l => if a ≤ b then a :: b :: l else b :: insI a l
def sortI (l : List Int) : List Int := l.foldr insI []
def ltPr (a b : Int × Int) : Bool := if a.1 = b.1 then decide (a.2 < b.2) else decide (a.1 < b.1)
def insP (a : Int × Int) : List (Int × Int) → List (Int × Int)
  | [] => [a]
  | b :: l => if ltPr b a then b :: insP a l else a :: b :: l
def sortP (l : List (Int × Int)) : List (Int × Int) := l.foldr insP []
def lkT (kvs : List (MV × MV)) (k : NestedKey) : Option MV := (kvs.find? fun p => decide (p.1.nk = some k)).map (·.2)
def putT (kvs : List (MV × MV)) (k : NestedKey) (a v : MV) : List (MV × MV) :=
  if kvs.any fun p => decide (p.1.nk = some k) then kvs.map fun p => if p.1.nk = some k then (p.1, v) else p else kvs ++ [(a, v)]
def keyT (a : MV) : Option NestedKey := match a with
  | .tup _ => match a.nk with
    | some k => if decide (k.depth ≤ 8) then some k else none
    | none => none
  | _ => none

def bLen (l : List MV) (h : MH) : Out MV := match l with
  | [.str s] => if decide (s.length ≤ 100000) then .ok (.int s.length) h else .bad
  | [v] => match asSeq h v with
    | some l => .ok (.int l.length) h
    | none => .bad
  | _ => .bad
def bInt (l : List MV) (h : MH) : Out MV := match l with
  | [.int i] => .ok (.int i) h
  | [.bl b] => .ok (.int (if b then 1 else 0)) h
  | _ => .bad
def bList (l : List MV) (h : MH) : Out MV := match l with
  | [.loc i] => match h[i]? with
    | some (.dt kvs) => if decide (kvs.length ≤ 100000) then .ok (.lst (kvs.map (·.1))) h else .bad
    | some (.lst l) => .ok (.lst l) h
    | _ => .bad
  | [.tup l] => .ok (.lst l) h
  | [.lst l] => .ok (.lst l) h
  | _ => .bad
def bTuple (l : List MV) (h : MH) : Out MV := match l with
  | [v] => match asSeq h v with
    | some l => .ok (.tup l) h
    | none => .bad
  | _ => .bad
def bAbs (l : List MV) (h : MH) : Out MV := match l with
  | [.int i] => .ok (.int (if i < 0 then -i else i)) h
  | _ => .bad
def bSum (l : List MV) (h : MH) : Out MV := match l with
  | [.lst l] => match intsM l with
    | some ns => .ok (.int ns.sum) h
    | none => .bad
  | _ => .bad
def bAll (l : List MV) (h : MH) : Out MV := match l with
  | [.lst l] => match boolsM l with
    | some bs => .ok (.bl (bs.all id)) h
    | none => .bad
  | _ => .bad
def bAny (l : List MV) (h : MH) : Out MV := match l with
  | [.lst l] => match boolsM l with
    | some bs => .ok (.bl (bs.any id)) h
    | none => .bad
  | _ => .bad
def bMin (l : List MV) (h : MH) : Out MV := match l with
  | [.int a, .int b] => .ok (.int (if b < a then b else a)) h
  | _ => .bad
def bMax (l : List MV) (h : MH) : Out MV := match l with
  | [.int a, .int b] => .ok (.int (if a < b then b else a)) h
  | _ => .bad
def bDivmod (l : List MV) (h : MH) : Out MV := match l with
  | [.int a, .int b] => if decide (0 < b) && decide (b < 1073741824) then .ok (.tup [.int (a / b), .int (a % b)]) h else .bad
  | _ => .bad
def bSorted (l : List MV) (h : MH) : Out MV := match l with
  | [.lst l] => match intsM l with
    | some ns => .ok (.lst ((sortI ns).map .int)) h
    | none => match pairsM l with
      | some ps => .ok (.lst ((sortP ps).map fun p => .tup [.int p.1, .int p.2])) h
      | none => .bad
  | _ => .bad
def bRepr (l : List MV) (h : MH) : Out MV := match l with
  | [.tup l] => match MV.pd (.tup l) with
    | some d => if SeqAt.shaped d && d.showable && decide (d.shown.length ≤ 100000) then .ok (.str d.shown) h else .bad
    | none => .bad
  | [.lst l] => match MV.pd (.lst l) with
    | some d => if SeqAt.shaped d && d.showable && decide (d.shown.length ≤ 100000) then .ok (.str d.shown) h else .bad
    | none => .bad
  | _ => .bad
def blt (b : Blt) : List MV → MH → Out MV := match b with
  | .len => bLen | .int => bInt | .list => bList | .tuple => bTuple | .abs => bAbs | .sum => bSum | .all => bAll | .any => bAny
  | .min => bMin | .max => bMax | .divmod => bDivmod | .sorted => bSorted | .repr => bRepr

def isTy (t : Ty) (h : MH) : MV → Option Bool
  | .non => some false
  | .bl _ => some (decide (t = .bool) || decide (t = .int))
  | .int _ => some (decide (t = .int))
  | .str _ => some (decide (t = .str))
  | .tup _ => some (decide (t = .tuple))
  | .lst _ => some (decide (t = .list))
  | _ => none

def mApp (o : MV) (l : List MV) (h : MH) : Out MV := match o, l with
  | .loc i, [v] => match h[i]? with
    | some (.lst xs) => if decide (xs.length < 100000) then .ok .non (h.set i (.lst (xs ++ [v]))) else .bad
    | _ => .bad
  | _, _ => .bad
def mExt (o : MV) (l : List MV) (h : MH) : Out MV := match o, l with
  | .loc i, [.lst ys] => match h[i]? with
    | some (.lst xs) => if decide (xs.length + ys.length < 100000) then .ok .non (h.set i (.lst (xs ++ ys))) else .bad
    | _ => .bad
  | _, _ => .bad
def mPop (o : MV) (l : List MV) (h : MH) : Out MV := match o, l with
  | .loc i, [] => match h[i]? with
    | some (.lst xs) => match xs[xs.length - 1]? with
      | some v => .ok v (h.set i (.lst xs.dropLast))
      | none => .bad
    | _ => .bad
  | _, _ => .bad
def mGet (o : MV) (l : List MV) (h : MH) : Out MV := match o, l with
  | .loc i, [k, d] => match h[i]? with
    | some (.dt kvs) => match keyT k with
      | some q => .ok ((lkT kvs q).getD d) h
      | none => .bad
    | _ => .bad
  | _, _ => .bad
def remM (l : List MV) (v : MV) : Option Nat := match v.pd, pdL l with
  | some d, some ds => if SeqAt.shaped d && SeqAt.shaped (.list ds) then ds.findIdx? (fun z => PyData.eqv z d) else none
  | _, _ => none
def mRem (o : MV) (l : List MV) (h : MH) : Out MV := match o, l with
  | .loc i, [v] => match h[i]? with
    | some (.lst xs) => match remM xs v with
      | some j => .ok .non (h.set i (.lst (xs.eraseIdx j)))
      | none => .bad
    | _ => .bad
  | _, _ => .bad
def strsM : List MV → Option (List Str)
  | [] => some []
  | .str a :: l => (strsM l).map (a :: ·)
  | _ => none
def mJoin (o : MV) (l : List MV) (h : MH) : Out MV := match o, l with
  | .str a, [.lst l] => match strsM l with
    | some ys => if decide ((ys.map (·.length)).sum + ys.length * a.length ≤ 100000) then .ok (.str (Txt.join a ys)) h else .bad
    | none => .bad
  | _, _ => .bad
def fmtM : MV → Option Str
  | .int i => if decide (i.natAbs < 2 ^ 1000) then some (toString i) else none
  | .str s => if decide (s.length ≤ 100000) then some s else none
  | _ => none
def catM : Str → List MV → Option Str
  | acc, [] => some acc
  | acc, .str a :: l => if decide ((acc ++ a).length ≤ 100000) then catM (acc ++ a) l else none
  | _, _ :: _ => none
def mth (m : Mth) : MV → List MV → MH → Out MV := match m with
  | .append => mApp | .extend => mExt | .pop => mPop | .get => mGet | .remove => mRem | .join => mJoin

/-- the receiver's kind -/
def rcv (m : Mth) (o : MV) (h : MH) : Bool := match o with
  | .loc i => match h[i]? with
    | some (.lst _) => (match m with | .get => false | .join => false | _ => true)
    | some (.dt _) => (match m with | .get => true | _ => false)
    | _ => false
  | .str _ => (match m with | .join => true | _ => false)
  | _ => false

def getIx (G : Gm) (a i : MV) (h : MH) : Out MV := match a, i with
  | .kd j, .str s => match atKd G.kds j s with
    | some v => .ok v h
    | none => .bad
  | .loc d, .tup l => match h[d]?, keyT (.tup l) with
    | some (.dt kvs), some q => match lkT kvs q with
      | some v => .ok v h
      | none => .bad
    | _, _ => .bad
  | a, .int k => match asSeq h a with
    | some l => match atI l k with
      | some v => .ok v h
      | none => .bad
    | none => .bad
  | _, _ => .bad
def setIx (a i v : MV) (h : MH) : Option MH := match a with
  | .loc d => match h[d]? with
    | some (.lst l) => match i with
      | .int k => match ixN l.length k with
        | some j => some (h.set d (.lst (l.set j v)))
        | none => none
      | _ => none
    | some (.dt kvs) => match keyT i with
      | some q => if decide (kvs.length < 100000) then some (h.set d (.dt (putT kvs q i v))) else none
      | none => none
    | _ => none
  | _ => none
def cutM (l : List MV) (lo hi : Option Int) : List MV := (l.drop (HT.sIx l.length 0 lo)).take (HT.sIx l.length l.length hi - HT.sIx l.length 0 lo)
def slcV (a : MV) (lo hi : Option Int) (h : MH) : Out MV := match a with
  | .tup l => .ok (.tup (cutM l lo hi)) h
  | .lst l => .ok (.lst (cutM l lo hi)) h
  | .scr l => .ok (.lst (cutM l lo hi)) h
  | .loc i => match h[i]? with
    | some (.lst l) => .ok (.lst (cutM l lo hi)) h
    | _ => .bad
  | _ => .bad
def revV (a : MV) (h : MH) : Out MV := match a with
  | .lst l => .ok (.lst l.reverse) h
  | .tup l => .ok (.tup l.reverse) h
  | _ => .bad
def copG (G : Gm) (o : Cop) (a b : MV) (h : MH) : Out MV := match o, b with
  | .in_, .kd j => match a with
    | .str s => match G.kds[j]? with
      | some t => .ok (.bl (t.lookup s).isSome) h
      | none => .bad
    | _ => .bad
  | .ni, .kd j => match a with
    | .str s => match G.kds[j]? with
      | some t => .ok (.bl (!(t.lookup s).isSome)) h
      | none => .bad
    | _ => .bad
  | .in_, .loc d => match h[d]?, keyT a with
    | some (.dt kvs), some q => .ok (.bl (lkT kvs q).isSome) h
    | _, _ => .bad
  | .in_, .tup l => match inT a l with
    | some k => .ok (.bl k) h
    | none => .bad
  | .in_, .lst l => match inL a l with
    | some k => .ok (.bl k) h
    | none => .bad
  | .ni, .tup l => match inT a l with
    | some k => .ok (.bl (!k)) h
    | none => .bad
  | .ni, .lst l => match inL a l with
    | some k => .ok (.bl (!k)) h
    | none => .bad
  | o, b => cop o a b h

/-! ### targets, loops -/
mutual
def stT (t : Tg) (v : MV) (σ : MS) (h : MH) : Option MS := match t with
  | .nm i => some (σ.set i (some v))
  | .tup ts => match v with
    | .tup l => stTs ts l σ h
    | _ => none
def stTs (ts : List Tg) (l : List MV) (σ : MS) (h : MH) : Option MS := match ts with
  | [] => match l with
    | [] => some σ
    | _ :: _ => none
  | t :: ts => match l with
    | [] => none
    | v :: l => match stT t v σ h with
      | some σ' => stTs ts l σ' h
      | none => none
end
def wipeM (σ : MS) : List Nat → MS
  | [] => σ
  | v :: vs => (wipeM σ vs).set v none
/-- a comprehension: what it makes so far -/
def loopC (t : Tg) (tt : MS → MH → Out MV) (e : MS → MH → Out MV) (σ : MS) : List MV → List MV → MH → Out (List MV)
  | [], acc, h => .ok acc h
  | v :: l, acc, h => match stT t v σ h with
    | some σ' => match tt σ' h with
      | .ok c h1 => match truth h1 c with
        | some true => match e σ' h1 with
          | .ok x h2 => if decide (acc.length < 100000) then loopC t tt e σ l (acc ++ [x]) h2 else .bad
          | .bad => .bad
        | some false => loopC t tt e σ l acc h1
        | none => .bad
      | .bad => .bad
    | none => .bad
def loopF (t : Tg) (b : MS → MH → SR) : List MV → MS → MH → SR
  | [], σ, h => .nx σ h
  | v :: l, σ, h => match stT t v σ h with
    | some σ' => match b σ' h with
      | .nx σ2 h2 => loopF t b l σ2 h2
      | .ct σ2 h2 => loopF t b l σ2 h2
      | .bk σ2 h2 => .nx σ2 h2
      | r => r
    | none => .bad
def loopW (c : MS → MH → Out MV) (b : MS → MH → SR) : Nat → MS → MH → SR
  | 0, _, _ => .bad
  | n + 1, σ, h => match c σ h with
    | .ok v h1 => match truth h1 v with
      | some true => match b σ h1 with
        | .nx σ2 h2 => loopW c b n σ2 h2
        | .ct σ2 h2 => loopW c b n σ2 h2
        | .bk σ2 h2 => .nx σ2 h2
        | r => r
      | some false => .nx σ h1
      | none => .bad
    | .bad => .bad
def enumM (n : Nat) : List MV → List MV
  | [] => []
  | a :: l => .tup [.int n, a] :: enumM (n + 1) l
def zipM : List MV → List MV → List MV
  | a :: l, b :: m => .tup [a, b] :: zipM l m
  | _, _ => []
def rngM (lo : Int) : Nat → List MV
  | 0 => []
  | n + 1 => .int lo :: rngM (lo + 1) n
def rngdM (hi : Int) : Nat → List MV
  | 0 => []
  | n + 1 => .int hi :: rngdM (hi - 1) n
def mid (i : Int) : Bool := decide (-(2 ^ 62) ≤ i) && decide (i < 2 ^ 62)

def specB : Ex → Bool
  | .rng1 _ => true | .rng2 _ _ => true | .rngd _ _ => true | .enm _ => true | .zip _ _ => true
  | _ => false
def seqOf (r : Out MV) : Out (List MV) := match r with
  | .ok (.tup l) h => .ok l h
  | .ok (.lst l) h => .ok l h
  | _ => .bad
/-! ### expressions -/
section
variable (G : Gm) (F : Fn)
mutual
def evE (e : Ex) (σ : MS) (h : MH) : Out MV := match e with
  | .var i => match σ[i]? with
    | some (some v) => .ok v h
    | _ => .bad
  | .non => .ok .non h
  | .bl b => .ok (.bl b) h
  | .int i => .ok (.int i) h
  | .str s => .ok (.str s) h
  | .glb j => match G.glo[j]? with
    | some v => .ok v h
    | none => .bad
  | .bin o a b => match evE a σ h with
    | .ok x h1 => match evE b σ h1 with
      | .ok y h2 => bop o x y h2
      | .bad => .bad
    | .bad => .bad
  | .neg a => match evE a σ h with
    | .ok (.int i) h1 => .ok (.int (-i)) h1
    | _ => .bad
  | .cmp o a b => match evE a σ h with
    | .ok x h1 => match evE b σ h1 with
      | .ok y h2 => copG G o x y h2
      | .bad => .bad
    | .bad => .bad
  | .isN a => match evE a σ h with
    | .ok .non h1 => .ok (.bl true) h1
    | .ok _ h1 => .ok (.bl false) h1
    | .bad => .bad
  | .notN a => match evE a σ h with
    | .ok .non h1 => .ok (.bl false) h1
    | .ok _ h1 => .ok (.bl true) h1
    | .bad => .bad
  | .chn o o' a b c => match evE a σ h with
    | .ok x h1 => match evE b σ h1 with
      | .ok y h2 => match cop o x y h2 with
        | .ok (.bl true) h3 => match evE c σ h3 with
          | .ok z h4 => cop o' y z h4
          | .bad => .bad
        | .ok (.bl false) h3 => .ok (.bl false) h3
        | _ => .bad
      | .bad => .bad
    | .bad => .bad
  | .and a b => match evE a σ h with
    | .ok v h1 => match truth h1 v with
      | some true => evE b σ h1
      | some false => .ok v h1
      | none => .bad
    | .bad => .bad
  | .or a b => match evE a σ h with
    | .ok v h1 => match truth h1 v with
      | some true => .ok v h1
      | some false => evE b σ h1
      | none => .bad
    | .bad => .bad
  | .not a => match evE a σ h with
    | .ok v h1 => match truth h1 v with
      | some k => .ok (.bl (!k)) h1
      | none => .bad
    | .bad => .bad
  | .ife c a b => match evE c σ h with
    | .ok v h1 => match truth h1 v with
      | some true => evE a σ h1
      | some false => evE b σ h1
      | none => .bad
    | .bad => .bad
  | .tup l => match evL l σ h with
    | .ok vs h1 => .ok (.tup vs) h1
    | .bad => .bad
  | .lst m l => match evL l σ h with
    | .ok vs h1 => match m with
      | true => .ok (.loc h1.length) (h1 ++ [.lst vs])
      | false => .ok (.lst vs) h1
    | .bad => .bad
  | .idx a b => match evE a σ h with
    | .ok x h1 => match evE b σ h1 with
      | .ok y h2 => getIx G x y h2
      | .bad => .bad
    | .bad => .bad
  | .slc a lo hi => match evE a σ h with
    | .ok x h1 => match evO lo σ h1 with
      | .ok u h2 => match evO hi σ h2 with
        | .ok w h3 => slcV x u w h3
        | .bad => .bad
      | .bad => .bad
    | .bad => .bad
  | .rev a => match evE a σ h with
    | .ok x h1 => revV x h1
    | .bad => .bad
  | .call j l => match evL l σ h with
    | .ok vs h1 => callD G F j vs h1
    | .bad => .bad
  | .callK j ks l => match evL l σ h with
    | .ok vs h1 => callD G F j (argK G j ks vs) h1
    | .bad => .bad
  | .callV i l => match σ[i]? with
    | some (some (.fn j)) => match evL l σ h with
      | .ok vs h1 => callD G F j vs h1
      | .bad => .bad
    | _ => .bad
  | .blt b l => match evL l σ h with
    | .ok vs h1 => blt b vs h1
    | .bad => .bad
  | .isi a t => match evE a σ h with
    | .ok v h1 => match isTy t h1 v with
      | some k => .ok (.bl k) h1
      | none => .bad
    | .bad => .bad
  | .mth m o l => match evE o σ h with
    | .ok v h1 => match rcv m v h1 with
      | true => match evL l σ h1 with
        | .ok vs h2 => mth m v vs h2
        | .bad => .bad
      | false => .bad
    | .bad => .bad
  | .fld o f => match evE o σ h with
    | .ok v h1 => match getF G f h1 v with
      | some x => .ok x h1
      | none => .bad
    | .bad => .bad
  | .new c l => match evL l σ h with
    | .ok vs h1 => newO G F c vs h1
    | .bad => .bad
  | .comp m tg it ifs elt own => match (match specB it with
      | true => evR it σ h
      | false => seqOf (evE it σ h)) with
    | .ok l h1 => match loopC tg (fun σ h => evTs ifs σ h) (fun σ h => evE elt σ h) (wipeM σ own) l [] h1 with
      | .ok vs h2 => match m with
        | true => .ok (.loc h2.length) (h2 ++ [.lst vs])
        | false => .ok (.lst vs) h2
      | .bad => .bad
    | .bad => .bad
  | .dic0 => .ok (.loc h.length) (h ++ [.dt []])
  | .dic1 k v => match evE k σ h with
    | .ok x h1 => match evE v σ h1 with
      | .ok y h2 => match keyT x with
        | some _ => .ok (.loc h2.length) (h2 ++ [.dt [(x, y)]])
        | none => .bad
      | .bad => .bad
    | .bad => .bad
  | .frz a => match evE a σ h with
    | .ok (.loc i) h1 => match h1[i]? with
      | some (.lst l) => .ok (.lst l) (h1.set i .dead)
      | _ => .bad
    | _ => .bad
  | .lstM a => match evE a σ h with
    | .ok x h1 => match asSeq h1 x with
      | some l => .ok (.loc h1.length) (h1 ++ [.lst l])
      | none => .bad
    | .bad => .bad
  | .prp o f => match evE o σ h with
    | .ok v h1 => match clsM h1 v with
      | some c => match prF G c f with
        | some j => callD G F j [v] h1
        | none => .bad
      | none => .bad
    | .bad => .bad
  | .isc a c => match evE a σ h with
    | .ok v h1 => match clsM h1 v with
      | some d => if decide (d = c) && (G.cls[c]?).isSome then .ok (.bl true) h1 else .bad
      | none => .bad
    | .bad => .bad
  | .fmt a => match evE a σ h with
    | .ok v h1 => match fmtM v with
      | some s => .ok (.str s) h1
      | none => .bad
    | .bad => .bad
  | .fstr l => match evL l σ h with
    | .ok vs h1 => match catM Str.empty vs with
      | some s => .ok (.str s) h1
      | none => .bad
    | .bad => .bad
  | .isB a b => match evE a σ h with
    | .ok (.bl x) h1 => .ok (.bl (decide (x = b))) h1
    | _ => .bad
  | .niB a b => match evE a σ h with
    | .ok (.bl x) h1 => .ok (.bl (!decide (x = b))) h1
    | _ => .bad
  | .rng1 _ => .bad
  | .rng2 _ _ => .bad
  | .rngd _ _ => .bad
  | .enm _ => .bad
  | .zip _ _ => .bad
def evL (l : List Ex) (σ : MS) (h : MH) : Out (List MV) := match l with
  | [] => .ok [] h
  | e :: l => match evE e σ h with
    | .ok v h1 => match evL l σ h1 with
      | .ok vs h2 => .ok (v :: vs) h2
      | .bad => .bad
    | .bad => .bad
def evO (e : Option Ex) (σ : MS) (h : MH) : Out (Option Int) := match e with
  | none => .ok none h
  | some e => match evE e σ h with
    | .ok (.int i) h1 => .ok (some i) h1
    | _ => .bad
/-- what is walked: ranges, enumerate -/
def evR (e : Ex) (σ : MS) (h : MH) : Out (List MV) := match e with
  | .rng1 a => match evE a σ h with
    | .ok (.int j) h1 => if mid j then .ok (rngM 0 j.toNat) h1 else .bad
    | _ => .bad
  | .rng2 a b => match evE a σ h with
    | .ok (.int i) h1 => match evE b σ h1 with
      | .ok (.int j) h2 => if mid i && mid j then .ok (rngM i (j - i).toNat) h2 else .bad
      | _ => .bad
    | _ => .bad
  | .rngd a b => match evE a σ h with
    | .ok (.int i) h1 => match evE b σ h1 with
      | .ok (.int j) h2 => if mid i && mid j then .ok (rngdM i (i - j).toNat) h2 else .bad
      | _ => .bad
    | _ => .bad
  | .enm a => match evE a σ h with
    | .ok (.tup l) h1 => .ok (enumM 0 l) h1
    | .ok (.lst l) h1 => .ok (enumM 0 l) h1
    | _ => .bad
  | .zip a b => match evE a σ h with
    | .ok (.tup l) h1 => match evE b σ h1 with
      | .ok (.tup l2) h2 => .ok (zipM l l2) h2
      | _ => .bad
    | _ => .bad
  | _ => .bad
/-- the tests of a comprehension: none or one -/
def evTs (l : List Ex) (σ : MS) (h : MH) : Out MV := match l with
  | [] => .ok (.bl true) h
  | e :: _ => evE e σ h
end
/-- what is walked -/
def evI (e : Ex) (σ : MS) (h : MH) : Out (List MV) := match specB e with
  | true => evR G F e σ h
  | false => seqOf (evE G F e σ h)

mutual
def evS (W : Nat) (s : Sx) (σ : MS) (h : MH) : SR := match s with
  | .expr e => match evE G F e σ h with
    | .ok _ h1 => .nx σ h1
    | .bad => .bad
  | .set i e => match evE G F e σ h with
    | .ok v h1 => .nx (σ.set i (some v)) h1
    | .bad => .bad
  | .unp t e => match evE G F e σ h with
    | .ok v h1 => match stT t v σ h1 with
      | some σ' => .nx σ' h1
      | none => .bad
    | .bad => .bad
  | .par i j a b => match evE G F a σ h with
    | .ok v h1 => match evE G F b σ h1 with
      | .ok w h2 => .nx ((σ.set i (some v)).set j (some w)) h2
      | .bad => .bad
    | .bad => .bad
  | .par3 i j l a b c => match evE G F a σ h with
    | .ok v h1 => match evE G F b σ h1 with
      | .ok w h2 => match evE G F c σ h2 with
        | .ok u h3 => .nx (((σ.set i (some v)).set j (some w)).set l (some u)) h3
        | .bad => .bad
      | .bad => .bad
    | .bad => .bad
  | .sub o i e => match evE G F e σ h with
    | .ok v h1 => match evE G F o σ h1 with
      | .ok x h2 => match evE G F i σ h2 with
        | .ok y h3 => match setIx x y v h3 with
          | some h4 => .nx σ h4
          | none => .bad
        | .bad => .bad
      | .bad => .bad
    | .bad => .bad
  | .subn o i j e => match evE G F e σ h with
    | .ok (.tup [v, w]) h1 => match evE G F o σ h1 with
      | .ok x h2 => match evE G F i σ h2 with
        | .ok y h3 => match setIx x y v h3 with
          | some h4 => .nx (σ.set j (some w)) h4
          | none => .bad
        | .bad => .bad
      | .bad => .bad
    | _ => .bad
  | .fld o f e => match evE G F e σ h with
    | .ok v h1 => match evE G F o σ h1 with
      | .ok (.loc i) h2 => match h2[i]? with
        | some (.ins c fs) => if decide (fs.length < 100) && (G.cls[c]?).isSome then .nx σ (h2.set i (.ins c (putA f v fs))) else .bad
        | _ => .bad
      | _ => .bad
    | .bad => .bad
  | .aug i o e => match σ[i]? with
    | some (some x) => match evE G F e σ h with
      | .ok y h1 => match o, x, y with
        | .add, .int a, .int b => .nx (σ.set i (some (.int (a + b)))) h1
        | .sub, .int a, .int b => .nx (σ.set i (some (.int (a - b)))) h1
        | _, _, _ => .bad
      | .bad => .bad
    | _ => .bad
  | .ifs c a b => match evE G F c σ h with
    | .ok v h1 => match truth h1 v with
      | some true => evSs W a σ h1
      | some false => evSs W b σ h1
      | none => .bad
    | .bad => .bad
  | .whl c b => loopW (fun σ h => evE G F c σ h) (fun σ h => evSs W b σ h) W σ h
  | .for_ t it b => match evI G F it σ h with
    | .ok l h1 => loopF t (fun σ h => evSs W b σ h) l σ h1
    | .bad => .bad
  | .ret e => match evE G F e σ h with
    | .ok v h1 => .rt v h1
    | .bad => .bad
  | .retn => .rt .non h
  | .brk => .bk σ h
  | .cnt => .ct σ h
  | .pass => .nx σ h
  | .never => .bad
def evSs (W : Nat) (l : List Sx) (σ : MS) (h : MH) : SR := match l with
  | [] => .nx σ h
  | s :: l => match evS W s σ h with
    | .nx σ' h' => evSs W l σ' h'
    | r => r
end
end
def startM (n : Nat) (l : List MV) : MS := l.map some ++ List.replicate (n - l.length) none
def runF (G : Gm) (W : Nat) : Nat → Fn
  | 0, _, _, _ => .bad
  | k + 1, j, l, h => match G.defs[j]? with
    | some d => if l.length = d.np then (match evSs G (runF G W k) W d.body (startM d.nn l) h with
      | .rt v h' => .ok v h'
      | .nx _ h' => .ok .non h'
      | _ => .bad) else .bad
    | none => .bad
end Mi

namespace Mi
open PySem PySem.Spec PyProof.Rows L2
def fin : SR → Out MV
  | .rt v h => .ok v h
  | .nx _ h => .ok .non h
  | _ => .bad
/-- how a call with keywords is bound: n by place, the names kn, perm: where each parameter's value stands -/
abbrev Kw := Nat × Nat × List Str × List Nat
structure Sig where
  gn : List Str
  dn : List Str
  cn : List Str
  an : List Str
  kws : List Kw
  pn : List Str
def bltNames : List Str := ["len", "int", "list", "tuple", "abs", "sum", "all", "any", "min", "max", "divmod", "sorted", "repr", "isinstance", "bool", "str", "range", "enumerate", "zip"]
def kvL : List DictEntry → List (Str × MV) → Bool
  | [], [] => true
  | e :: es, (k, m) :: t => (match e.key, e.val, m with
    | .str x _, .int i _, .int j => decide (x = k) && decide (i = j)
    | _, _, _ => false) && kvL es t
  | _, _ => false
def kvB (K : PySem.W.Frag) (a : Addr) (t : List (Str × MV)) : Bool := match K.lookup a with
  | some ⟨_, _, .dict es _, _⟩ => kvL es.toList t
  | _ => false
/-! ### where the defs stand -/
def fdAt (K : PySem.W.Frag) (a : Addr) : Option FuncData := (K.lookup a).bind fun o => match o.data with
  | .func f => some f
  | _ => none
/-- a global's, a class's method, a property's getter -/
def fAdP (K : PySem.W.Frag) (p : Str × Option Str) : Addr := match p.2 with
  | none => He.ga K p.1
  | some m => match PySem.W.recIn K (He.ma K (He.ga K p.1) m) "property" with
    | some (.ref g :: _) => g
    | _ => He.ma K (He.ga K p.1) m
def tellP (K : PySem.W.Frag) (p : Str × Option Str) : He.FnW := (fdAt K (fAdP K p)).map fun f => (f.name, f.qualname, f.params, f.body, f.scope, f.globals, f.closure, f.builtins)
def okP (K : PySem.W.Frag) (d : He.DefD) : Bool := PySem.W.keepIn K (.ref (fAdP K d.at_)) && (fdAt K (fAdP K d.at_)).any fun f => PySem.W.codeIn K f.code d.qual && (He.dflB K f.defaults (d.dvs K) && He.kwdB K f.kwdefaults (d.kws K))
/-- a property; an own class's instances -/
def prB (K : PySem.W.Frag) (C : Addr) (z : Str) : Bool := He.eqO (PySem.W.findIn K (.ref C) z) (some (some (.ref (He.ma K C z)))) && (He.eqO (PySem.W.specialIn K (.ref (He.ma K C z)) "__get__") (some (some (.builtin "property.__get__"))) &&
  (decide (PySem.W.takesIn K (.ref (He.ma K C z)) = some true) && (match PySem.W.recIn K (He.ma K C z) "property" with
    | some (.ref _ :: _) => true
    | _ => false)))
def insB (K : PySem.W.Frag) (C : Addr) : Bool := He.eqO (PySem.W.findIn K (.ref C) "__class__") (some (some (.builtin "object.__class__"))) && (He.eqO (PySem.W.specialIn K (.builtin "object.__class__") "__get__") (some (some (.builtin "getset_descriptor.__get__"))) &&
  (decide (PySem.W.takesIn K (.builtin "object.__class__") = some true) && (decide (PySem.W.mroIn K C (.type "object") = some true) && decide (PySem.W.kitOne K (.ref C) (.ref C) = some true))))
/-! ### what a law's text is -/
structure Lw where
  G : Gm
  S : Sig
  at_ : List (Str × Option Str)
  kn : List Str
  fn : List He.DefD
  nps : List (List Str × List Str)
/-- a constant of the module -/
def gB (l : Lw) (K : PySem.W.Frag) (y : Str) (m : MV) : Bool := match m with
  | .int i => (He.Fa.int y i).ok K
  | .str s => (He.Fa.str y s).ok K
  | .tup t => match intsM t with
    | some ns => (He.Fa.glo y).ok K && He.tupB K y (ns.map .int)
    | none => false
  | .fn j => decide (l.at_[j]? = some (y, none)) && (He.Fa.glo y).ok K
  | .kd k => decide (l.kn[k]? = some y) && (He.Fa.glo y).ok K
  | _ => false
def Lw.gls (l : Lw) (K : PySem.W.Frag) : List MV → List Str → Bool
  | [], _ => true
  | _ :: _, [] => true
  | m :: ms, y :: ys => gB l K y m && Lw.gls l K ms ys
def Lw.kvs (l : Lw) (K : PySem.W.Frag) : List (List (Str × MV)) → List Str → Bool
  | [], _ => true
  | _ :: _, [] => false
  | t :: ts, y :: ys => kvB K (He.ga K y) t && Lw.kvs l K ts ys
/-- an instance's making is no property -/
def Lw.mks (l : Lw) (K : PySem.W.Frag) : Bool := l.S.cn.all fun y => decide (fAdP K (y, some ("__init__" : Str)) = He.fAd K (y, some ("__init__" : Str))) && insB K (He.ga K y)
def Lw.prf (l : Lw) (K : PySem.W.Frag) : Bool := l.G.prs.all fun p => prB K (He.ga K (l.S.cn.getD p.1 "")) (l.S.pn.getD p.2.1 "")
def Lw.ex (l : Lw) (K : PySem.W.Frag) : Bool := l.gls K l.G.glo l.S.gn && (l.kvs K l.G.kds l.kn && (l.fn.all (okP K) && (l.mks K && l.prf K)))
/-- the facts that are asked of the head -/
def Lw.fa (l : Lw) : List He.Fa := l.S.dn.filterMap (fun y => if y == ("" : Str) then none else some (He.Fa.glo y)) ++ (l.S.cn.map He.Fa.glo ++ (bltNames.map He.Fa.free ++ (l.S.cn.map He.Fa.cls ++ (l.S.cn.map He.Fa.mkr ++ l.S.cn.flatMap fun c => l.S.an.map fun f => He.Fa.noat c f))))
def Lw.ts (l : Lw) : List He.Tab := (l.kn.zip l.G.kds).map fun p => (fun K => He.ga K p.1, p.2.map (·.1))
/-- what is told -/
structure SaysY (l : Lw) (w : World) (h : Heap) (K : PySem.W.Frag) : Prop where
  x : He.SaysX l.fa [] l.ts [] l.ex w h K
  fs : l.fn.map (fun d => tellP K d.at_) = l.fn.map He.DefD.val
/-- what some things name, level by level, nothing left out -/
def nextY (g : Addr → Option Obj) : List Addr → List Addr
  | [] => []
  | a :: r => match g a with
    | none => nextY g r
    | some o => He.refsD o ++ nextY g r
def lvlY (g : Addr → Option Obj) : Nat → List Addr → List Addr
  | 0, _ => []
  | n + 1, as => as ++ lvlY g n (nextY g as)
abbrev AlY : Type := He.AlX × List He.FnW
def obsY (n : Nat) (l : Lw) (g : Addr → Option Obj) : AlY :=
  ((He.obsT l.fa [] l.ts (He.frT g (lvlY g n [mainGlobals])), l.ex (He.frT g (lvlY g n [mainGlobals]))), l.fn.map fun d => tellP (He.frT g (lvlY g n [mainGlobals])) d.at_)
def valY (l : Lw) (w : World) : AlY := (He.valX [] l.ts w, l.fn.map He.DefD.val)
theorem saysY {n : Nat} {l : Lw} {w : World} {h : Heap} (e : obsY n l h.get? = valY l w) : SaysY l w h (He.frT h.get? (lvlY h.get? n [mainGlobals])) := by
  have e0 := congrArg Prod.fst e
  have e1 := congrArg Prod.fst e0
  have e2 := congrArg Prod.snd e0
  exact ⟨{ t := e1, more := e2, hd := fun _ z => (List.not_mem_nil z).elim, out := fun _ z => (List.not_mem_nil z).elim, empty := fun _ z => (List.not_mem_nil z).elim }, congrArg Prod.snd e⟩
def hookY (n : Nat) (l : Lw) : PySem.W.Hook :=
  { α := AlY
    obs := fun s => obsY n l s.heap.get?
    val := valY l
    says := fun w h => ∃ K : PySem.W.Frag, K.In h ∧ SaysY l w h K
    of := fun _ _ e => ⟨_, He.frT_in, saysY e⟩
    keeps := fun w h h' ⟨K, hK, c⟩ k => by
      obtain ⟨K2, h2, c2⟩ := (He.hookX n l.fa [] l.ts [] l.ex).keeps w h h' ⟨K, hK, c.x⟩ k
      exact ⟨K, PySem.W.Frag.In.keeps hK k, { t := c.x.t, more := c.x.more, hd := c.x.hd, out := c.x.out, empty := fun _ z => (List.not_mem_nil z).elim }, c.fs⟩ }
theorem obsY_eq {n : Nat} {l : Lw} (s : PySem.W.SharedT) : obsY n l (HandSHeadRun.getT s) = (hookY n l).obs s.abs := by
  show _ = obsY n l s.abs.heap.get?
  rw [show HandSHeadRun.getT s = s.abs.heap.get? from funext fun a => HandSHeadRun.getT_eq s a]
/-- the run's equation, in three parts -/
theorem pair3 {α A B C : Type} {o : Option α} {f : α → A} {g : α → B} {e : α → C} {a : A} {b : B} {c : C} (h1 : o.map f = some a) (h2 : o.map g = some b) (h3 : o.map e = some c) : o.map (fun s => (f s, g s, e s)) = some (a, b, c) := by
  cases o with
  | none => cases h1
  | some s =>
    cases h1
    cases h2
    cases h3
    rfl
open PySem.W PySem.Calls HandSHeadRun
noncomputable def endY (r : PySem.W.OpenRow) (M : Nat) (w : World) (os : OsState) : Option PySem.W.SharedT := HandSHeadRun.endF (HandSHeadRun.stepQ (HandSHeadRun.denQ HandSHeadRun.tabQ) r.prog w) M r.prog w os
noncomputable def looksY (r : PySem.W.OpenRow) (w : World) (s : PySem.W.SharedT) : Bool := HandSHeadRun.looksF r.prog (boot_heap w.params) s.abs
noncomputable def seenY (r : PySem.W.OpenRow) (q : Program) (loose : List Str) (s : PySem.W.SharedT) := HandSHeadRun.seenQ q loose (importedModules r.prog.main.body) (fun s => PySem.W.xlAt q [] s && PySem.W.recOk r.toRowW.records s) s.abs
theorem runY {r : PySem.W.OpenRow} {q : Program} {H : PySem.W.Hook} {ob : PySem.W.SharedT → H.α} {M : Nat} {loose : List Str} {w : World} (h1 : ∀ os, (endY r M w os).map (looksY r w) = some true)
    (h2 : ∀ os, (endY r M w os).map (seenY r q loose) = some (PySem.W.openGood q loose)) (h3 : ∀ os, (endY r M w os).map ob = some (H.val w)) : HandSHeadRun.RunEq r q H ob M loose w := fun os => pair3 (h1 os) (h2 os) (h3 os)
end Mi

namespace Lw
open PySem PySem.Spec PyProof.Rows L2 Mi
def top (i : Nat) : Stmt := PySem.Challenge.pw_lookcosts_k80_whole_pairs_certified.main.body.getD i (.Pass ⟨0, 0, 0, 0⟩)
def mem (i j : Nat) : Stmt := match top i with
  | .ClassDef _ _ _ b _ _ _ _ _ _ _ => b.getD j (.Pass ⟨0, 0, 0, 0⟩)
  | _ => .Pass ⟨0, 0, 0, 0⟩
abbrev a_root : Nat := 0
abbrev a_words : Nat := 1
abbrev a_all_paths : Nat := 2
abbrev a_step_paths : Nat := 3
abbrev a_places : Nat := 4
abbrev a_stand : Nat := 5
abbrev a_lists : Nat := 6
abbrev a_chance : Nat := 7
abbrev a_spent : Nat := 8
abbrev a_many_gone : Nat := 9
abbrev a_floors : Nat := 10
abbrev q_Offer : Nat := 0
abbrev q_Walk : Nat := 1
abbrev p_tree : Nat := 0
abbrev j_is_between : Nat := 0
abbrev j_common : Nat := 1
abbrev j_lowest : Nat := 2
abbrev j_is_fraction : Nat := 3
abbrev j_add : Nat := 4
abbrev j_less : Nat := 5
abbrev j_times : Nat := 6
abbrev j_over : Nat := 7
abbrev j_is_below : Nat := 8
abbrev j_lesser : Nat := 9
abbrev j_greater : Nat := 10
abbrev j_ordered : Nat := 11
abbrev j_total : Nat := 12
abbrev j_is_end : Nat := 13
abbrev j_is_cost : Nat := 14
abbrev j_is_pair : Nat := 15
abbrev j_are_branches : Nat := 16
abbrev j_is_node : Nat := 17
abbrev j_is_tree : Nat := 18
abbrev j_nodes_of : Nat := 19
abbrev j_steps_in : Nat := 20
abbrev j_text_of : Nat := 21
abbrev j_Offer_init : Nat := 22
abbrev j_Offer_tree : Nat := 23
abbrev j_check_offer : Nat := 24
abbrev j_mean_above : Nat := 25
abbrev j_mixed : Nat := 26
abbrev j_strike_in : Nat := 27
abbrev j_capped : Nat := 28
abbrev j_below : Nat := 29
abbrev j_strike_of : Nat := 30
abbrev j_table_of : Nat := 31
abbrev j_places_of : Nat := 32
abbrev j_first_unlike : Nat := 33
abbrev j_first_less : Nat := 34
abbrev j_tables : Nat := 35
abbrev j_chance_from : Nat := 36
abbrev j_mean_count : Nat := 37
abbrev j_topped : Nat := 38
abbrev j_chosen : Nat := 39
abbrev j_share : Nat := 40
abbrev j_certify_pair : Nat := 41
abbrev j_is_row : Nat := 42
abbrev j_first_bad_row : Nat := 43
abbrev j_Walk_init : Nat := 44
abbrev j_numbers_at : Nat := 45
abbrev j_rows_below : Nat := 46
abbrev j_put : Nat := 47
abbrev j_walks_on : Nat := 48
abbrev j_all_walks : Nat := 49
abbrev j_last_walks : Nat := 50
abbrev j_taken_in : Nat := 51
abbrev j_gain_in : Nat := 52
abbrev j_gain_of : Nat := 53
abbrev j_are_trees : Nat := 54
abbrev j_is_about_two : Nat := 55
abbrev j_is_claim : Nat := 56
abbrev j_bounded : Nat := 57
abbrev j_is_bound : Nat := 58
abbrev j_accepts : Nat := 59
abbrev j_l_tray : Nat := 60
abbrev j_l_spoon : Nat := 61
abbrev j_l_pick : Nat := 62
abbrev j_l_low : Nat := 63
abbrev j_l_sum : Nat := 64
abbrev j_l_gap : Nat := 65
abbrev j_l_times : Nat := 66
abbrev j_l_under : Nat := 67
abbrev j_l_bush : Nat := 68
abbrev j_l_mix : Nat := 69
abbrev j_l_strike : Nat := 70
abbrev j_l_caps : Nat := 71
abbrev j_l_above : Nat := 72
abbrev j_l_near : Nat := 73
abbrev j_l_due : Nat := 74
abbrev j_l_right : Nat := 75
abbrev j_law : Nat := 76
def b_is_between : List Sx := [.ifs (.or (.not (.isi (.var 0) .int)) (.isi (.var 0) .bool)) [.ret (.bl false)] [], .ret (.and (.or (.isN (.var 1)) (.cmp .ge (.var 0) (.var 1))) (.or (.isN (.var 2)) (.cmp .le (.var 0) (.var 2))))]
def wc_common : Ex := .cmp .gt (.var 1) (.int 0)
def wb_common : List Sx := [.par 0 1 (.var 1) (.bin .mod (.blt .int [.var 0]) (.var 1))]
def b_common : List Sx := [.set 0 (.blt .abs [.var 0]), .whl wc_common wb_common, .ret (.var 0)]
def b_lowest : List Sx := [.set 2 (.call j_common [.var 0, .var 1]), .ret (.tup [.bin .fdiv (.var 0) (.var 2), .bin .fdiv (.var 1) (.var 2)])]
def b_is_fraction : List Sx := [.ifs (.or (.not (.isi (.var 0) .tuple)) (.cmp .ne (.blt .len [.var 0]) (.int 2))) [.ret (.bl false)] [], .ifs (.or (.not (.call j_is_between [.idx (.var 0) (.int 0), .non, .non])) (.not (.call j_is_between [.idx (.var 0) (.int 1), .int 1, .non]))) [.ret (.bl false)] [], .ret (.cmp .eq (.call j_common [.idx (.var 0) (.int 0), .idx (.var 0) (.int 1)]) (.int 1))]
def b_add : List Sx := [.ret (.call j_lowest [.bin .add (.bin .mul (.idx (.var 0) (.int 0)) (.idx (.var 1) (.int 1))) (.bin .mul (.idx (.var 1) (.int 0)) (.idx (.var 0) (.int 1))), .bin .mul (.idx (.var 0) (.int 1)) (.idx (.var 1) (.int 1))])]
def b_less : List Sx := [.ret (.call j_lowest [.bin .sub (.bin .mul (.idx (.var 0) (.int 0)) (.idx (.var 1) (.int 1))) (.bin .mul (.idx (.var 1) (.int 0)) (.idx (.var 0) (.int 1))), .bin .mul (.idx (.var 0) (.int 1)) (.idx (.var 1) (.int 1))])]
def b_times : List Sx := [.ret (.call j_lowest [.bin .mul (.idx (.var 0) (.int 0)) (.idx (.var 1) (.int 0)), .bin .mul (.idx (.var 0) (.int 1)) (.idx (.var 1) (.int 1))])]
def b_over : List Sx := [.ret (.call j_lowest [.bin .mul (.idx (.var 0) (.int 0)) (.idx (.var 1) (.int 1)), .bin .mul (.idx (.var 0) (.int 1)) (.idx (.var 1) (.int 0))])]
def b_is_below : List Sx := [.ret (.cmp .lt (.bin .mul (.idx (.var 0) (.int 0)) (.idx (.var 1) (.int 1))) (.bin .mul (.idx (.var 1) (.int 0)) (.idx (.var 0) (.int 1))))]
def b_lesser : List Sx := [.ret (.ife (.call j_is_below [.var 1, .var 0]) (.var 1) (.var 0))]
def b_greater : List Sx := [.ret (.ife (.call j_is_below [.var 0, .var 1]) (.var 1) (.var 0))]
def wc_ordered : Ex := .and (.cmp .lt (.var 3) (.blt .len [.var 1])) (.call j_is_below [.idx (.var 1) (.var 3), .var 2])
def wb_ordered : List Sx := [.aug 3 .add (.int 1)]
def fb_ordered : List Sx := [.set 3 (.int 0), .whl wc_ordered wb_ordered, .set 1 (.bin .add (.bin .add (.slc (.var 1) none (some (.var 3))) (.lst false [.var 2])) (.slc (.var 1) (some (.var 3)) none))]
def b_ordered : List Sx := [.set 1 (.lst false []), .for_ (.nm 2) (.var 0) fb_ordered, .ret (.var 1)]
def fb_total : List Sx := [.set 1 (.call j_add [.var 1, .var 2])]
def b_total : List Sx := [.set 1 (.glb 0), .for_ (.nm 2) (.var 0) fb_total, .ret (.var 1)]
def b_is_end : List Sx := [.ret (.cmp .eq (.idx (.var 0) (.int 0)) (.str ⟨#[101, 110, 100]⟩))]
def b_is_cost : List Sx := [.ret (.call j_is_between [.var 0, .int 0, .glb 5])]
def b_is_pair : List Sx := [.ret (.and (.isi (.var 0) .tuple) (.and (.cmp .eq (.blt .len [.var 0]) (.int 2)) (.call j_is_between [.idx (.var 0) (.int 0), .int 1, .glb 6])))]
def ce_are_branches : Ex := .call j_is_pair [.var 1]
def b_are_branches : List Sx := [.ret (.and (.isi (.var 0) .tuple) (.and (.chn .le .le (.int 1) (.blt .len [.var 0]) (.glb 3)) (.blt .all [.comp false (.nm 1) (.var 0) [] ce_are_branches [1]])))]
def b_is_node : List Sx := [.ifs (.or (.not (.isi (.var 0) .tuple)) (.or (.cmp .lt (.blt .len [.var 0]) (.int 2)) (.not (.isi (.idx (.var 0) (.int 0)) .str)))) [.ret (.bl false)] [], .ifs (.cmp .eq (.idx (.var 0) (.int 0)) (.str ⟨#[101, 110, 100]⟩)) [.ret (.and (.cmp .eq (.blt .len [.var 0]) (.int 2)) (.call j_is_between [.idx (.var 0) (.int 1), .neg (.glb 4), .glb 4]))] [], .ret (.and (.cmp .eq (.idx (.var 0) (.int 0)) (.str ⟨#[115, 116, 101, 112]⟩)) (.and (.cmp .eq (.blt .len [.var 0]) (.int 3)) (.and (.callV 1 [.idx (.var 0) (.int 1)]) (.call j_are_branches [.idx (.var 0) (.int 2)]))))]
def wc_is_tree : Ex := .cmp .lt (.var 3) (.blt .len [.var 2])
def ce_is_tree : Ex := .var 5
def wb_is_tree : List Sx := [.ifs (.or (.cmp .ge (.var 3) (.glb 2)) (.not (.call j_is_node [.idx (.var 2) (.var 3), .var 1]))) [.ret (.bl false)] [], .ifs (.not (.call j_is_end [.idx (.var 2) (.var 3)])) [.expr (.mth .extend (.var 2) [.comp false (.tup [.nm 4, .nm 5]) (.idx (.idx (.var 2) (.var 3)) (.int 2)) [] ce_is_tree [4, 5]])] [], .aug 3 .add (.int 1)]
def b_is_tree : List Sx := [.set 2 (.lst true [.var 0]), .set 3 (.int 0), .whl wc_is_tree wb_is_tree, .ret (.bl true)]
def wc_nodes_of : Ex := .cmp .gt (.blt .len [.var 2]) (.int 0)
def ce_nodes_of : Ex := .tup [.bin .add (.var 3) (.tup [.bin .sub (.bin .sub (.var 5) (.int 1)) (.var 6)]), .idx (.idx (.idx (.var 4) (.int 2)) (.bin .sub (.bin .sub (.var 5) (.int 1)) (.var 6))) (.int 1)]
def wb_nodes_of : List Sx := [.unp (.tup [.nm 3, .nm 4]) (.mth .pop (.var 2) []), .expr (.mth .append (.var 1) [.tup [.var 3, .var 4]]), .ifs (.not (.call j_is_end [.var 4])) [.set 5 (.blt .len [.idx (.var 4) (.int 2)]), .expr (.mth .extend (.var 2) [.comp false (.nm 6) (.rng1 (.var 5)) [] ce_nodes_of [6]])] []]
def b_nodes_of : List Sx := [.set 1 (.lst true []), .set 2 (.lst true [.tup [.tup [], .var 0]]), .whl wc_nodes_of wb_nodes_of, .ret (.var 1)]
def ct_steps_in : List Ex := [.not (.call j_is_end [.var 2])]
def ce_steps_in : Ex := .var 1
def b_steps_in : List Sx := [.ret (.comp false (.tup [.nm 1, .nm 2]) (.call j_nodes_of [.var 0]) ct_steps_in ce_steps_in [1, 2])]
def ce_text_of : Ex := .fstr [.fmt (.var 1), .str ⟨#[58]⟩, .fmt (.call j_text_of [.var 2])]
def b_text_of : List Sx := [.ifs (.call j_is_end [.var 0]) [.ret (.fstr [.fmt (.idx (.var 0) (.int 1))])] [], .ret (.bin .add (.bin .add (.fstr [.fmt (.idx (.var 0) (.int 1)), .str ⟨#[91]⟩]) (.mth .join (.str ⟨#[32]⟩) [.comp false (.tup [.nm 1, .nm 2]) (.idx (.var 0) (.int 2)) [] ce_text_of [1, 2]])) (.str ⟨#[93]⟩))]
def ce_Offer_init : Ex := .var 2
def b_Offer_init : List Sx := [.ifs (.not (.call j_is_tree [.var 1, .glb 10])) [.never] [], .fld (.var 0) a_root (.var 1), .fld (.var 0) a_words (.call j_text_of [.var 1]), .fld (.var 0) a_all_paths (.blt .tuple [.comp false (.tup [.nm 2, .nm 3]) (.call j_nodes_of [.var 1]) [] ce_Offer_init [2, 3]]), .fld (.var 0) a_step_paths (.blt .tuple [.call j_steps_in [.var 1]])]
def b_Offer_tree : List Sx := [.ret (.fld (.var 0) a_root)]
def b_check_offer : List Sx := [.ifs (.not (.isc (.var 0) q_Offer)) [.never] []]
def ce_mean_above : Ex := .call j_times [.var 3, .call j_greater [.glb 0, .call j_less [.var 2, .var 1]]]
def b_mean_above : List Sx := [.ret (.call j_total [.comp false (.tup [.nm 2, .nm 3]) (.var 0) [] ce_mean_above [2, 3]])]
def ce_mixed : Ex := .var 3
def fb_mixed : List Sx := [.sub (.var 2) (.var 5) (.call j_add [.mth .get (.var 2) [.var 5, .glb 0], .call j_times [.var 6, .call j_lowest [.var 3, .var 1]]])]
def fb_mixed_1 : List Sx := [.for_ (.tup [.nm 5, .nm 6]) (.var 4) fb_mixed]
def ce_mixed_1 : Ex := .tup [.var 5, .idx (.var 2) (.var 5)]
def b_mixed : List Sx := [.set 1 (.blt .sum [.comp false (.tup [.nm 3, .nm 4]) (.var 0) [] ce_mixed [3, 4]]), .set 2 (.dic0), .for_ (.tup [.nm 3, .nm 4]) (.var 0) fb_mixed_1, .ret (.blt .tuple [.comp false (.nm 5) (.call j_ordered [.blt .list [.var 2]]) [] ce_mixed_1 [5]])]
def wc_strike_in : Ex := .cmp .gt (.var 4) (.int 0)
def wb_strike_in : List Sx := [.aug 4 .sub (.int 1), .set 2 (.call j_add [.var 2, .idx (.idx (.var 0) (.var 4)) (.int 1)]), .set 3 (.call j_add [.var 3, .call j_times [.idx (.idx (.var 0) (.var 4)) (.int 0), .idx (.idx (.var 0) (.var 4)) (.int 1)]]), .set 5 (.call j_over [.call j_less [.var 3, .var 1], .var 2]), .ifs (.or (.cmp .eq (.var 4) (.int 0)) (.not (.call j_is_below [.var 5, .idx (.idx (.var 0) (.bin .sub (.var 4) (.int 1))) (.int 0)]))) [.ret (.var 5)] []]
def b_strike_in : List Sx := [.ifs (.cmp .eq (.var 1) (.glb 0)) [.ret (.idx (.idx (.var 0) (.neg (.int 1))) (.int 0))] [], .set 2 (.glb 0), .set 3 (.glb 0), .set 4 (.blt .len [.var 0]), .whl wc_strike_in wb_strike_in, .ret (.glb 0)]
def fb_capped : List Sx := [.sub (.var 2) (.call j_lesser [.var 3, .var 1]) (.call j_add [.mth .get (.var 2) [.call j_lesser [.var 3, .var 1], .glb 0], .var 4])]
def ce_capped : Ex := .tup [.var 3, .idx (.var 2) (.var 3)]
def b_capped : List Sx := [.set 2 (.dic0), .for_ (.tup [.nm 3, .nm 4]) (.var 0) fb_capped, .ret (.blt .tuple [.comp false (.nm 3) (.call j_ordered [.blt .list [.var 2]]) [] ce_capped [3]])]
def ce_below : Ex := .tup [.var 1, .call j_table_of [.var 2]]
def b_below : List Sx := [.ret (.call j_mixed [.comp false (.tup [.nm 1, .nm 2]) (.idx (.var 0) (.int 2)) [] ce_below [1, 2]])]
def b_strike_of : List Sx := [.ifs (.call j_is_end [.var 0]) [.ret (.tup [.idx (.var 0) (.int 1), .int 1])] [], .ret (.call j_strike_in [.call j_below [.var 0], .tup [.idx (.var 0) (.int 1), .int 1]])]
def b_table_of : List Sx := [.ifs (.call j_is_end [.var 0]) [.ret (.tup [.tup [.tup [.idx (.var 0) (.int 1), .int 1], .glb 1]])] [], .ret (.call j_capped [.call j_below [.var 0], .call j_strike_of [.var 0]])]
def fb_places_of : List Sx := [.ifs (.call j_is_below [.glb 0, .var 4]) [.sub (.var 2) (.var 4) (.bl true)] []]
def fb_places_of_1 : List Sx := [.for_ (.tup [.nm 4, .nm 5]) (.var 3) fb_places_of]
def b_places_of : List Sx := [.set 2 (.dic1 (.glb 0) (.bl true)), .for_ (.nm 3) (.tup [.var 0, .var 1]) fb_places_of_1, .ret (.call j_ordered [.blt .list [.var 2]])]
def fb_first_unlike : List Sx := [.ifs (.cmp .ne (.call j_mean_above [.var 0, .var 2]) (.call j_mean_above [.var 1, .var 2])) [.ret (.var 2)] []]
def b_first_unlike : List Sx := [.for_ (.nm 2) (.call j_places_of [.var 0, .var 1]) fb_first_unlike, .ret (.non)]
def fb_first_less : List Sx := [.ifs (.call j_is_below [.call j_mean_above [.var 0, .var 2], .call j_mean_above [.var 1, .var 2]]) [.ret (.var 2)] []]
def b_first_less : List Sx := [.for_ (.nm 2) (.call j_places_of [.var 0, .var 1]) fb_first_less, .ret (.non)]
def b_tables : List Sx := [.expr (.call j_check_offer [.var 0]), .expr (.call j_check_offer [.var 1]), .ret (.tup [.call j_table_of [.prp (.var 0) p_tree], .call j_table_of [.prp (.var 1) p_tree]])]
def fb_chance_from : List Sx := [.ifs (.not (.call j_is_below [.var 3, .var 1])) [.set 2 (.call j_add [.var 2, .var 4])] []]
def b_chance_from : List Sx := [.set 2 (.glb 0), .for_ (.tup [.nm 3, .nm 4]) (.var 0) fb_chance_from, .ret (.var 2)]
def ce_mean_count : Ex := .call j_times [.var 10, .call j_less [.glb 1, .var 7]]
def ce_mean_count_1 : Ex := .call j_times [.var 10, .var 7]
def ce_mean_count_2 : Ex := .call j_add [.idx (.var 8) (.var 6), .idx (.var 9) (.var 6)]
def fb_mean_count : List Sx := [.set 7 (.call j_chance_from [.var 4, .var 1]), .set 8 (.bin .add (.comp false (.nm 10) (.var 3) [] ce_mean_count [10]) (.lst false [.glb 0])), .set 9 (.bin .add (.lst false [.glb 0]) (.comp false (.nm 10) (.var 3) [] ce_mean_count_1 [10])), .set 3 (.comp false (.nm 6) (.rng1 (.blt .len [.var 8])) [] ce_mean_count_2 [6])]
def fb_mean_count_1 : List Sx := [.set 5 (.call j_add [.var 5, .call j_times [.idx (.var 3) (.var 6), .tup [.blt .min [.var 6, .var 2], .int 1]]])]
def b_mean_count : List Sx := [.set 3 (.lst false [.glb 1]), .for_ (.nm 4) (.var 0) fb_mean_count, .set 5 (.glb 0), .for_ (.nm 6) (.rng1 (.blt .len [.var 3])) fb_mean_count_1, .ret (.var 5)]
def fb_topped : List Sx := [.ifs (.call j_is_below [.glb 0, .var 6]) [.sub (.var 2) (.var 6) (.bl true)] []]
def fb_topped_1 : List Sx := [.for_ (.tup [.nm 6, .nm 7]) (.var 3) fb_topped]
def fb_topped_2 : List Sx := [.set 4 (.call j_add [.var 4, .call j_times [.call j_less [.var 6, .var 5], .call j_mean_count [.var 0, .var 6, .var 1]]]), .set 5 (.var 6)]
def b_topped : List Sx := [.set 2 (.dic0), .for_ (.nm 3) (.var 0) fb_topped_1, .set 4 (.glb 0), .set 5 (.glb 0), .for_ (.nm 6) (.call j_ordered [.blt .list [.var 2]]) fb_topped_2, .ret (.var 4)]
def fb_chosen : List Sx := [.ifs (.and (.not (.call j_is_end [.var 6])) (.or (.isN (.var 3)) (.call j_is_below [.idx (.var 1) (.var 3), .idx (.var 1) (.var 5)]))) [.set 3 (.var 5)] []]
def ct_chosen : List Ex := [.and (.call j_is_end [.var 6]) (.not (.call j_is_below [.tup [.idx (.var 6) (.int 1), .int 1], .idx (.var 1) (.var 3)]))]
def ce_chosen : Ex := .var 6
def b_chosen : List Sx := [.set 3 (.non), .for_ (.tup [.nm 5, .nm 6]) (.enm (.var 0)) fb_chosen, .ifs (.or (.isN (.var 3)) (.not (.call j_is_below [.glb 0, .idx (.var 1) (.var 3)]))) [.ret (.non)] [], .set 4 (.comp false (.nm 6) (.var 0) ct_chosen ce_chosen [6]), .ret (.ife (.cmp .lt (.blt .len [.var 4]) (.var 2)) (.var 3) (.non))]
def ce_share : Ex := .var 2
def b_share : List Sx := [.ret (.call j_lowest [.var 0, .blt .sum [.comp false (.tup [.nm 2, .nm 3]) (.var 1) [] ce_share [2, 3]]])]
def b_certify_pair : List Sx := [.unp (.tup [.nm 3, .nm 4]) (.call j_tables [.var 0, .var 1]), .ifs (.isN (.call j_first_unlike [.var 3, .var 4])) [.ret (.tup [.tup [.str ⟨#[97, 108, 105, 107, 101]⟩, .prp (.var 0) p_tree, .prp (.var 1) p_tree], .non])] [], .set 2 (.call j_first_less [.var 3, .var 4]), .ifs (.isN (.var 2)) [.ret (.tup [.tup [.str ⟨#[110, 101, 118, 101, 114]⟩, .prp (.var 0) p_tree, .prp (.var 1) p_tree], .non])] [], .ret (.tup [.tup [.str ⟨#[97, 112, 97, 114, 116]⟩, .prp (.var 0) p_tree, .prp (.var 1) p_tree, .var 2], .non])]
def ce_is_row : Ex := .call j_is_fraction [.var 2]
def b_is_row : List Sx := [.ifs (.or (.not (.isi (.var 0) .tuple)) (.cmp .ne (.blt .len [.var 0]) (.blt .len [.call j_steps_in [.var 1]]))) [.ret (.bl false)] [], .ret (.blt .all [.comp false (.nm 2) (.var 0) [] ce_is_row [2]])]
def fb_first_bad_row : List Sx := [.ifs (.or (.cmp .ge (.var 2) (.blt .len [.var 1])) (.not (.call j_is_row [.var 3, .idx (.var 1) (.var 2)]))) [.ret (.var 2)] []]
def b_first_bad_row : List Sx := [.for_ (.tup [.nm 2, .nm 3]) (.enm (.var 0)) fb_first_bad_row, .ret (.non)]
def b_Walk_init : List Sx := [.fld (.var 0) a_places (.var 1), .fld (.var 0) a_stand (.var 2), .fld (.var 0) a_lists (.var 3), .fld (.var 0) a_chance (.var 4), .fld (.var 0) a_spent (.var 5), .fld (.var 0) a_many_gone (.var 6), .fld (.var 0) a_floors (.var 7)]
def ce_numbers_at : Ex := .ife (.call j_is_end [.var 2]) (.tup [.idx (.var 2) (.int 1), .int 1]) (.idx (.idx (.fld (.var 0) a_lists) (.var 1)) (.int 0))
def b_numbers_at : List Sx := [.ret (.comp false (.tup [.nm 1, .nm 2]) (.enm (.fld (.var 0) a_stand)) [] ce_numbers_at [1, 2])]
def fb_rows_below : List Sx := [.set 6 (.blt .len [.call j_steps_in [.var 5]]), .expr (.mth .append (.var 2) [.slc (.var 1) (some (.var 3)) (some (.bin .add (.var 3) (.var 6)))]), .aug 3 .add (.var 6)]
def b_rows_below : List Sx := [.set 2 (.lst true []), .set 3 (.int 1), .for_ (.tup [.nm 4, .nm 5]) (.idx (.var 0) (.int 2)) fb_rows_below, .ret (.var 2)]
def b_put : List Sx := [.ret (.bin .add (.bin .add (.slc (.var 0) none (some (.var 1))) (.lst false [.var 2])) (.slc (.var 0) (some (.bin .add (.var 1) (.int 1))) none))]
def fb_walks_on : List Sx := [.set 10 (.call j_times [.fld (.var 0) a_chance, .call j_share [.idx (.var 9) (.int 0), .idx (.var 2) (.int 2)]]), .set 11 (.call j_put [.fld (.var 0) a_places, .var 1, .bin .add (.idx (.fld (.var 0) a_places) (.var 1)) (.tup [.var 8])]), .set 12 (.call j_put [.fld (.var 0) a_stand, .var 1, .idx (.var 9) (.int 1)]), .set 13 (.call j_put [.fld (.var 0) a_lists, .var 1, .idx (.var 3) (.var 8)]), .expr (.mth .append (.var 7) [.new q_Walk [.var 11, .var 12, .var 13, .var 10, .bin .add (.fld (.var 0) a_spent) (.idx (.var 2) (.int 1)), .bin .add (.fld (.var 0) a_many_gone) (.int 1), .var 6]])]
def b_walks_on : List Sx := [.set 2 (.idx (.fld (.var 0) a_stand) (.var 1)), .set 3 (.call j_rows_below [.var 2, .idx (.fld (.var 0) a_lists) (.var 1)]), .set 4 (.call j_strike_of [.var 2]), .set 5 (.ife (.isN (.idx (.fld (.var 0) a_floors) (.var 1))) (.var 4) (.call j_lesser [.var 4, .idx (.fld (.var 0) a_floors) (.var 1)])), .set 6 (.call j_put [.fld (.var 0) a_floors, .var 1, .var 5]), .set 7 (.lst true []), .for_ (.tup [.nm 8, .nm 9]) (.enm (.idx (.var 2) (.int 2))) fb_walks_on, .ret (.var 7)]
def ce_all_walks : Ex := .non
def ce_all_walks_1 : Ex := .tup []
def wc_all_walks : Ex := .cmp .gt (.blt .len [.var 4]) (.int 0)
def wb_all_walks : List Sx := [.set 6 (.mth .pop (.var 4) []), .set 7 (.call j_chosen [.fld (.var 6) a_stand, .call j_numbers_at [.var 6], .var 2]), .expr (.mth .append (.var 5) [.tup [.var 6, .var 7]]), .ifs (.notN (.var 7)) [.expr (.mth .extend (.var 4) [.call j_walks_on [.var 6, .var 7]])] []]
def b_all_walks : List Sx := [.set 3 (.comp false (.nm 8) (.var 0) [] ce_all_walks [8]), .set 4 (.lst true [.new q_Walk [.comp false (.nm 8) (.var 0) [] ce_all_walks_1 [8], .blt .list [.var 0], .blt .list [.var 1], .glb 1, .int 0, .int 0, .var 3]]), .set 5 (.lst true []), .whl wc_all_walks wb_all_walks, .ret (.var 5)]
def ct_last_walks : List Ex := [.isN (.var 4)]
def ce_last_walks : Ex := .var 3
def b_last_walks : List Sx := [.ret (.comp false (.tup [.nm 3, .nm 4]) (.call j_all_walks [.var 0, .var 1, .var 2]) ct_last_walks ce_last_walks [3, 4])]
def ct_taken_in : List Ex := [.and (.call j_is_end [.var 4]) (.cmp .gt (.idx (.var 4) (.int 1)) (.int 0))]
def ce_taken_in : Ex := .tup [.neg (.idx (.var 4) (.int 1)), .var 3]
def ce_taken_in_1 : Ex := .var 3
def b_taken_in : List Sx := [.set 2 (.comp false (.tup [.nm 3, .nm 4]) (.enm (.var 0)) ct_taken_in ce_taken_in [3, 4]), .ret (.comp false (.tup [.nm 5, .nm 3]) (.slc (.blt .sorted [.var 2]) none (some (.var 1))) [] ce_taken_in_1 [5, 3])]
def ce_gain_in : Ex := .idx (.idx (.fld (.var 0) a_stand) (.var 2)) (.int 1)
def b_gain_in : List Sx := [.ret (.bin .sub (.blt .sum [.comp false (.nm 2) (.call j_taken_in [.fld (.var 0) a_stand, .var 1]) [] ce_gain_in [2]]) (.fld (.var 0) a_spent))]
def ce_gain_of : Ex := .call j_times [.fld (.var 3) a_chance, .tup [.call j_gain_in [.var 3, .var 2], .int 1]]
def b_gain_of : List Sx := [.ret (.call j_total [.comp false (.nm 3) (.call j_last_walks [.var 0, .var 1, .var 2]) [] ce_gain_of [3]])]
def ce_are_trees : Ex := .call j_is_tree [.var 1, .glb 10]
def b_are_trees : List Sx := [.ifs (.or (.not (.isi (.var 0) .tuple)) (.not (.chn .le .le (.int 1) (.blt .len [.var 0]) (.glb 7)))) [.ret (.bl false)] [], .ret (.blt .all [.comp false (.nm 1) (.var 0) [] ce_are_trees [1]])]
def b_is_about_two : List Sx := [.ifs (.or (.not (.call j_is_tree [.idx (.var 0) (.int 1), .glb 10])) (.not (.call j_is_tree [.idx (.var 0) (.int 2), .glb 10]))) [.ret (.bl false)] [], .ret (.or (.cmp .ne (.idx (.var 0) (.int 0)) (.str ⟨#[97, 112, 97, 114, 116]⟩)) (.and (.call j_is_fraction [.idx (.var 0) (.int 3)]) (.not (.call j_is_below [.idx (.var 0) (.int 3), .glb 0]))))]
def b_is_claim : List Sx := [.ifs (.or (.not (.isi (.var 0) .tuple)) (.or (.cmp .eq (.blt .len [.var 0]) (.int 0)) (.or (.not (.isi (.idx (.var 0) (.int 0)) .str)) (.cmp .ni (.idx (.var 0) (.int 0)) (.glb 9))))) [.ret (.bl false)] [], .ifs (.cmp .ne (.blt .len [.var 0]) (.idx (.glb 9) (.idx (.var 0) (.int 0)))) [.ret (.bl false)] [], .ifs (.cmp .in_ (.idx (.var 0) (.int 0)) (.tup [.str ⟨#[108, 101, 97, 115, 116]⟩, .str ⟨#[109, 111, 115, 116]⟩])) [.ret (.and (.call j_are_trees [.idx (.var 0) (.int 1)]) (.and (.call j_is_between [.idx (.var 0) (.int 2), .int 1, .glb 8]) (.call j_is_fraction [.idx (.var 0) (.int 3)])))] [], .ret (.call j_is_about_two [.var 0])]
def fb_bounded : List Sx := [.set 7 (.blt .len [.call j_steps_in [.var 6]]), .set 8 (.call j_bounded [.var 6, .slc (.var 1) (some (.var 3)) (some (.bin .add (.var 3) (.var 7)))]), .ifs (.isN (.var 8)) [.ret (.non)] [], .expr (.mth .append (.var 2) [.tup [.var 5, .var 8]]), .aug 3 .add (.var 7)]
def b_bounded : List Sx := [.ifs (.call j_is_end [.var 0]) [.ret (.tup [.tup [.tup [.idx (.var 0) (.int 1), .int 1], .glb 1]])] [], .set 2 (.lst true []), .set 3 (.int 1), .for_ (.tup [.nm 5, .nm 6]) (.idx (.var 0) (.int 2)) fb_bounded, .set 4 (.call j_mixed [.frz (.var 2)]), .ifs (.call j_is_below [.tup [.idx (.var 0) (.int 1), .int 1], .call j_mean_above [.var 4, .idx (.var 1) (.int 0)]]) [.ret (.non)] [], .ret (.call j_capped [.var 4, .idx (.var 1) (.int 0)])]
def ce_is_bound : Ex := .call j_bounded [.var 6, .idx (.var 3) (.var 5)]
def ce_is_bound_1 : Ex := .isN (.var 7)
def b_is_bound : List Sx := [.set 4 (.comp false (.tup [.nm 5, .nm 6]) (.enm (.var 0)) [] ce_is_bound [5, 6]), .ifs (.blt .any [.comp false (.nm 7) (.var 4) [] ce_is_bound_1 [7]]) [.ret (.bl false)] [], .ret (.not (.call j_is_below [.var 2, .call j_topped [.var 4, .var 1]]))]
def b_accepts : List Sx := [.ifs (.not (.call j_is_claim [.var 0])) [.ret (.bl false)] [], .ifs (.cmp .in_ (.idx (.var 0) (.int 0)) (.tup [.str ⟨#[108, 101, 97, 115, 116]⟩, .str ⟨#[109, 111, 115, 116]⟩])) [.ifs (.or (.not (.isi (.var 1) .tuple)) (.or (.cmp .ne (.blt .len [.var 1]) (.blt .len [.idx (.var 0) (.int 1)])) (.notN (.call j_first_bad_row [.var 1, .idx (.var 0) (.int 1)])))) [.ret (.bl false)] [], .ifs (.cmp .eq (.idx (.var 0) (.int 0)) (.str ⟨#[109, 111, 115, 116]⟩)) [.ret (.call j_is_bound [.idx (.var 0) (.int 1), .idx (.var 0) (.int 2), .idx (.var 0) (.int 3), .var 1])] [], .ret (.not (.call j_is_below [.call j_gain_of [.idx (.var 0) (.int 1), .var 1, .idx (.var 0) (.int 2)], .idx (.var 0) (.int 3)]))] [], .ifs (.notN (.var 1)) [.ret (.bl false)] [], .par 2 3 (.call j_table_of [.idx (.var 0) (.int 1)]) (.call j_table_of [.idx (.var 0) (.int 2)]), .ifs (.cmp .eq (.idx (.var 0) (.int 0)) (.str ⟨#[97, 108, 105, 107, 101]⟩)) [.ret (.isN (.call j_first_unlike [.var 2, .var 3]))] [], .ifs (.cmp .eq (.idx (.var 0) (.int 0)) (.str ⟨#[110, 101, 118, 101, 114]⟩)) [.ret (.isN (.call j_first_less [.var 2, .var 3]))] [], .ret (.call j_is_below [.call j_mean_above [.var 2, .idx (.var 0) (.int 3)], .call j_mean_above [.var 3, .idx (.var 0) (.int 3)]])]
def fb_l_tray : List Sx := [.set 3 (.bin .mod (.blt .int [.bin .add (.bin .mul (.var 3) (.int 31019)) (.blt .int [.var 4])]) (.int 2147483033))]
def b_l_tray : List Sx := [.set 2 (.ife (.cmp .lt (.var 1) (.blt .len [.var 0])) (.blt .int [.idx (.var 0) (.var 1)]) (.bin .add (.bin .mul (.int 2417) (.var 1)) (.int 89))), .set 3 (.bin .add (.int 70001) (.bin .mul (.int 463) (.var 1))), .for_ (.nm 4) (.bin .add (.slc (.var 0) none (some (.int 5))) (.lst false [.var 2])) fb_l_tray, .ret (.lst true [.ife (.or (.cmp .lt (.var 2) (.int 0)) (.cmp .ge (.var 2) (.bin .pow (.int 10) (.int 18)))) (.blt .abs [.var 2]) (.int 0), .var 3, .int 0])]
def b_l_spoon : List Sx := [.sub (.var 0) (.int 2) (.bin .add (.idx (.var 0) (.int 2)) (.int 1)), .set 2 (.blt .int [.idx (.var 0) (.int 1)]), .sub (.var 0) (.int 1) (.bin .mod (.blt .int [.bin .add (.bin .add (.bin .mul (.var 2) (.bin .add (.bin .mod (.blt .int [.var 2]) (.int 14009)) (.int 23003))) (.bin .mul (.int 10007) (.idx (.var 0) (.int 2)))) (.int 43)]) (.int 2147483033)), .ifs (.cmp .gt (.idx (.var 0) (.int 0)) (.int 0)) [.subn (.var 0) (.int 0) 3 (.blt .divmod [.idx (.var 0) (.int 0), .var 1]), .ret (.var 3)] [], .ret (.bin .mod (.blt .int [.bin .fdiv (.idx (.var 0) (.int 1)) (.int 98)]) (.var 1))]
def b_l_pick : List Sx := [.ret (.idx (.var 1) (.call j_l_spoon [.var 0, .blt .len [.var 1]]))]
def wc_l_low : Ex := .cmp .gt (.var 3) (.int 0)
def wb_l_low : List Sx := [.par 2 3 (.var 3) (.bin .mod (.blt .int [.var 2]) (.var 3))]
def b_l_low : List Sx := [.par 2 3 (.blt .abs [.var 0]) (.var 1), .whl wc_l_low wb_l_low, .ret (.tup [.bin .fdiv (.var 0) (.var 2), .bin .fdiv (.var 1) (.var 2)])]
def b_l_sum : List Sx := [.ret (.call j_l_low [.bin .add (.bin .mul (.idx (.var 0) (.int 0)) (.idx (.var 1) (.int 1))) (.bin .mul (.idx (.var 1) (.int 0)) (.idx (.var 0) (.int 1))), .bin .mul (.idx (.var 0) (.int 1)) (.idx (.var 1) (.int 1))])]
def b_l_gap : List Sx := [.ret (.call j_l_low [.bin .sub (.bin .mul (.idx (.var 0) (.int 0)) (.idx (.var 1) (.int 1))) (.bin .mul (.idx (.var 1) (.int 0)) (.idx (.var 0) (.int 1))), .bin .mul (.idx (.var 0) (.int 1)) (.idx (.var 1) (.int 1))])]
def b_l_times : List Sx := [.ret (.call j_l_low [.bin .mul (.idx (.var 0) (.int 0)) (.idx (.var 1) (.int 0)), .bin .mul (.idx (.var 0) (.int 1)) (.idx (.var 1) (.int 1))])]
def b_l_under : List Sx := [.ret (.cmp .lt (.bin .mul (.idx (.var 0) (.int 0)) (.idx (.var 1) (.int 1))) (.bin .mul (.idx (.var 1) (.int 0)) (.idx (.var 0) (.int 1))))]
def ce_l_bush : Ex := .tup [.bin .add (.int 1) (.call j_l_spoon [.var 0, .int 3]), .call j_l_bush [.var 0, .bin .sub (.var 1) (.int 1)]]
def b_l_bush : List Sx := [.ifs (.or (.cmp .eq (.var 1) (.int 0)) (.cmp .eq (.call j_l_spoon [.var 0, .int 5]) (.int 0))) [.ret (.tup [.str ⟨#[101, 110, 100]⟩, .call j_l_pick [.var 0, .lst false [.neg (.int 3), .int 0, .int 1, .int 2, .int 3, .int 4, .int 5, .int 6, .int 8, .int 10, .int 12]]])] [], .set 2 (.bin .add (.int 1) (.call j_l_spoon [.var 0, .ife (.cmp .eq (.var 1) (.int 1)) (.int 3) (.int 2)])), .set 3 (.blt .tuple [.comp false (.nm 4) (.rng1 (.var 2)) [] ce_l_bush [4]]), .ret (.tup [.str ⟨#[115, 116, 101, 112]⟩, .call j_l_pick [.var 0, .lst false [.int 0, .int 1, .int 1, .int 2, .int 2, .int 3, .int 4]], .var 3])]
def ce_l_mix : Ex := .var 3
def ce_l_mix_1 : Ex := .tup [.var 5, .call j_l_times [.var 6, .call j_l_low [.var 3, .var 1]]]
def fb_l_mix : List Sx := [.set 2 (.bin .add (.var 2) (.comp false (.tup [.nm 5, .nm 6]) (.call j_l_caps [.var 4]) [] ce_l_mix_1 [5, 6]))]
def b_l_mix : List Sx := [.unp (.tup [.nm 1, .nm 2]) (.tup [.blt .sum [.comp false (.tup [.nm 3, .nm 4]) (.idx (.var 0) (.int 2)) [] ce_l_mix [3, 4]], .lst false []]), .for_ (.tup [.nm 3, .nm 4]) (.idx (.var 0) (.int 2)) fb_l_mix, .ret (.var 2)]
def fb_l_strike : List Sx := [.ifs (.not (.call j_l_under [.var 8, .var 3])) [.par 6 7 (.call j_l_sum [.var 6, .call j_l_times [.var 8, .var 9]]) (.call j_l_sum [.var 7, .var 9])] []]
def fb_l_strike_1 : List Sx := [.par 6 7 (.tup [.neg (.idx (.var 0) (.int 1)), .int 1]) (.tup [.int 0, .int 1]), .for_ (.tup [.nm 8, .nm 9]) (.var 1) fb_l_strike, .set 5 (.call j_l_low [.bin .mul (.idx (.var 6) (.int 0)) (.idx (.var 7) (.int 1)), .bin .mul (.idx (.var 6) (.int 1)) (.idx (.var 7) (.int 0))]), .set 2 (.ife (.or (.isN (.var 2)) (.call j_l_under [.var 2, .var 5])) (.var 5) (.var 2))]
def b_l_strike : List Sx := [.ifs (.cmp .eq (.idx (.var 0) (.int 0)) (.str ⟨#[101, 110, 100]⟩)) [.ret (.tup [.idx (.var 0) (.int 1), .int 1])] [], .par 1 2 (.call j_l_mix [.var 0]) (.non), .for_ (.tup [.nm 3, .nm 4]) (.var 1) fb_l_strike_1, .ret (.var 2)]
def ce_l_caps : Ex := .tup [.ife (.call j_l_under [.var 1, .var 2]) (.var 1) (.var 2), .var 3]
def b_l_caps : List Sx := [.ifs (.cmp .eq (.idx (.var 0) (.int 0)) (.str ⟨#[101, 110, 100]⟩)) [.ret (.lst false [.tup [.tup [.idx (.var 0) (.int 1), .int 1], .tup [.int 1, .int 1]]])] [], .set 1 (.call j_l_strike [.var 0]), .ret (.comp false (.tup [.nm 2, .nm 3]) (.call j_l_mix [.var 0]) [] ce_l_caps [2, 3])]
def fb_l_above : List Sx := [.ifs (.call j_l_under [.var 1, .var 3]) [.set 2 (.call j_l_sum [.var 2, .call j_l_times [.call j_l_gap [.var 3, .var 1], .var 4]])] []]
def b_l_above : List Sx := [.set 2 (.tup [.int 0, .int 1]), .for_ (.tup [.nm 3, .nm 4]) (.var 0) fb_l_above, .ret (.var 2)]
def ce_l_near : Ex := .tup [.bin .mul (.int 2) (.var 3), .var 4]
def b_l_near : List Sx := [.ifs (.cmp .eq (.idx (.var 1) (.int 0)) (.str ⟨#[101, 110, 100]⟩)) [.ret (.call j_l_pick [.var 0, .lst false [.var 1, .tup [.str ⟨#[101, 110, 100]⟩, .bin .add (.idx (.var 1) (.int 1)) (.call j_l_pick [.var 0, .lst false [.neg (.int 1), .int 1]])], .tup [.str ⟨#[115, 116, 101, 112]⟩, .int 0, .tup [.tup [.int 1, .var 1]]]]])] [], .set 2 (.call j_l_spoon [.var 0, .int 4]), .ifs (.cmp .eq (.var 2) (.int 0)) [.ret (.tup [.str ⟨#[115, 116, 101, 112]⟩, .idx (.var 1) (.int 1), .rev (.idx (.var 1) (.int 2))])] [], .ifs (.cmp .eq (.var 2) (.int 1)) [.ret (.tup [.str ⟨#[115, 116, 101, 112]⟩, .bin .add (.idx (.var 1) (.int 1)) (.int 1), .idx (.var 1) (.int 2)])] [], .ifs (.cmp .eq (.var 2) (.int 2)) [.ret (.tup [.str ⟨#[115, 116, 101, 112]⟩, .idx (.var 1) (.int 1), .blt .tuple [.comp false (.tup [.nm 3, .nm 4]) (.idx (.var 1) (.int 2)) [] ce_l_near [3, 4]]])] [], .ret (.tup [.str ⟨#[115, 116, 101, 112]⟩, .blt .max [.int 0, .bin .sub (.idx (.var 1) (.int 1)) (.int 1)], .idx (.var 1) (.int 2)])]
def ct_l_due : List Ex := [.cmp .gt (.idx (.var 8) (.int 0)) (.int 0)]
def ce_l_due : Ex := .var 8
def ct_l_due_1 : List Ex := [.cmp .lt (.idx (.var 7) (.int 0)) (.int 0)]
def ce_l_due_1 : Ex := .var 2
def fb_l_due : List Sx := [.set 7 (.call j_l_gap [.call j_l_above [.idx (.var 4) (.int 0), .var 2], .call j_l_above [.idx (.var 4) (.int 1), .var 2]]), .set 6 (.and (.var 6) (.cmp .eq (.idx (.var 7) (.int 0)) (.int 0))), .set 5 (.bin .add (.var 5) (.comp false (.nm 10) (.rng1 (.int 1)) ct_l_due_1 ce_l_due_1 [10]))]
def fb_l_due_1 : List Sx := [.set 3 (.ife (.call j_l_under [.var 2, .var 3]) (.var 2) (.var 3))]
def b_l_due : List Sx := [.par3 4 5 6 (.lst false [.call j_l_caps [.var 0], .call j_l_caps [.var 1]]) (.lst false []) (.bl true), .for_ (.nm 2) (.bin .add (.lst false [.tup [.int 0, .int 1]]) (.comp false (.tup [.nm 8, .nm 9]) (.bin .add (.idx (.var 4) (.int 0)) (.idx (.var 4) (.int 1))) ct_l_due ce_l_due [8, 9])) fb_l_due, .ifs (.var 6) [.ret (.tup [.str ⟨#[97, 108, 105, 107, 101]⟩, .var 0, .var 1])] [], .ifs (.cmp .eq (.var 5) (.lst false [])) [.ret (.tup [.str ⟨#[110, 101, 118, 101, 114]⟩, .var 0, .var 1])] [], .set 3 (.idx (.var 5) (.int 0)), .for_ (.nm 2) (.var 5) fb_l_due_1, .ret (.tup [.str ⟨#[97, 112, 97, 114, 116]⟩, .var 0, .var 1, .var 3])]
def fb_l_right : List Sx := [.ifs (.or (.cmp .ne (.blt .repr [.var 7]) (.blt .repr [.tup [.var 6, .non]])) (.niB (.call j_accepts [.idx (.var 7) (.int 0), .idx (.var 7) (.int 1)]) true)) [.ret (.bl false)] []]
def fb_l_right_1 : List Sx := [.set 6 (.call j_l_due [.var 4, .var 5]), .par 8 9 (.new q_Offer [.var 4]) (.new q_Offer [.var 5]), .for_ (.nm 7) (.lst false [.call j_certify_pair [.var 8, .var 9], .callK j_certify_pair [1, 0] [.var 9, .var 8]]) fb_l_right]
def fb_l_right_2 : List Sx := [.set 2 (.call j_l_bush [.var 0, .int 2]), .set 3 (.call j_l_pick [.var 0, .lst false [.call j_l_near [.var 0, .var 2], .call j_l_near [.var 0, .var 2], .call j_l_bush [.var 0, .int 2]]]), .for_ (.tup [.nm 4, .nm 5]) (.lst false [.tup [.var 2, .var 3], .tup [.var 3, .var 2]]) fb_l_right_1]
def b_l_right : List Sx := [.for_ (.nm 1) (.rng1 (.int 4)) fb_l_right_2, .ret (.bl true)]
def ce_law : Ex := .call j_l_tray [.var 0, .var 2]
def ce_law_1 : Ex := .call j_l_right [.var 3]
def b_law : List Sx := [.set 1 (.comp false (.nm 2) (.rng1 (.blt .max [.int 2, .blt .min [.blt .len [.var 0], .int 5]])) [] ce_law [2]), .ret (.blt .all [.comp false (.nm 3) (.var 1) [] ce_law_1 [3]])]
def dfs : List Df := [⟨3, 3, true, b_is_between, []⟩,
  ⟨2, 2, true, b_common, []⟩,
  ⟨2, 3, true, b_lowest, []⟩,
  ⟨1, 1, true, b_is_fraction, []⟩,
  ⟨2, 2, true, b_add, []⟩,
  ⟨2, 2, true, b_less, []⟩,
  ⟨2, 2, true, b_times, []⟩,
  ⟨2, 2, true, b_over, []⟩,
  ⟨2, 2, true, b_is_below, []⟩,
  ⟨2, 2, true, b_lesser, []⟩,
  ⟨2, 2, true, b_greater, []⟩,
  ⟨1, 4, true, b_ordered, []⟩,
  ⟨1, 3, true, b_total, []⟩,
  ⟨1, 1, true, b_is_end, []⟩,
  ⟨1, 1, true, b_is_cost, []⟩,
  ⟨1, 1, true, b_is_pair, []⟩,
  ⟨1, 2, true, b_are_branches, []⟩,
  ⟨2, 2, true, b_is_node, []⟩,
  ⟨2, 6, true, b_is_tree, []⟩,
  ⟨1, 7, true, b_nodes_of, []⟩,
  ⟨1, 3, true, b_steps_in, []⟩,
  ⟨1, 3, true, b_text_of, []⟩,
  ⟨2, 4, false, b_Offer_init, []⟩,
  ⟨1, 1, true, b_Offer_tree, []⟩,
  ⟨1, 1, true, b_check_offer, []⟩,
  ⟨2, 4, true, b_mean_above, []⟩,
  ⟨1, 7, true, b_mixed, []⟩,
  ⟨2, 6, true, b_strike_in, []⟩,
  ⟨2, 5, true, b_capped, []⟩,
  ⟨1, 3, true, b_below, []⟩,
  ⟨1, 1, true, b_strike_of, []⟩,
  ⟨1, 1, true, b_table_of, []⟩,
  ⟨2, 6, true, b_places_of, []⟩,
  ⟨2, 3, true, b_first_unlike, []⟩,
  ⟨2, 3, true, b_first_less, []⟩,
  ⟨2, 2, true, b_tables, []⟩,
  ⟨2, 5, true, b_chance_from, []⟩,
  ⟨3, 11, true, b_mean_count, []⟩,
  ⟨2, 8, true, b_topped, []⟩,
  ⟨3, 7, true, b_chosen, []⟩,
  ⟨2, 4, true, b_share, []⟩,
  ⟨2, 5, true, b_certify_pair, []⟩,
  ⟨2, 3, true, b_is_row, []⟩,
  ⟨2, 4, true, b_first_bad_row, []⟩,
  ⟨8, 8, false, b_Walk_init, []⟩,
  ⟨1, 3, true, b_numbers_at, []⟩,
  ⟨2, 7, true, b_rows_below, []⟩,
  ⟨3, 3, true, b_put, []⟩,
  ⟨2, 14, true, b_walks_on, []⟩,
  ⟨3, 9, true, b_all_walks, []⟩,
  ⟨3, 5, true, b_last_walks, []⟩,
  ⟨2, 6, true, b_taken_in, []⟩,
  ⟨2, 3, true, b_gain_in, []⟩,
  ⟨3, 4, true, b_gain_of, []⟩,
  ⟨1, 2, true, b_are_trees, []⟩,
  ⟨1, 1, true, b_is_about_two, []⟩,
  ⟨1, 1, true, b_is_claim, []⟩,
  ⟨2, 9, true, b_bounded, []⟩,
  ⟨4, 8, true, b_is_bound, []⟩,
  ⟨2, 4, false, b_accepts, []⟩,
  ⟨2, 5, false, b_l_tray, []⟩,
  ⟨2, 4, false, b_l_spoon, []⟩,
  ⟨2, 2, false, b_l_pick, []⟩,
  ⟨2, 4, true, b_l_low, []⟩,
  ⟨2, 2, true, b_l_sum, []⟩,
  ⟨2, 2, true, b_l_gap, []⟩,
  ⟨2, 2, true, b_l_times, []⟩,
  ⟨2, 2, true, b_l_under, []⟩,
  ⟨2, 5, false, b_l_bush, []⟩,
  ⟨1, 7, true, b_l_mix, []⟩,
  ⟨1, 10, true, b_l_strike, []⟩,
  ⟨1, 4, true, b_l_caps, []⟩,
  ⟨2, 5, true, b_l_above, []⟩,
  ⟨2, 5, false, b_l_near, []⟩,
  ⟨2, 11, true, b_l_due, []⟩,
  ⟨1, 10, false, b_l_right, []⟩,
  ⟨1, 4, false, b_law, []⟩]
def glos : List MV := [.tup [.int 0, .int 1], .tup [.int 1, .int 1], .int 15, .int 5, .int 1000000, .int 1000000, .int 1000, .int 4, .int 3, .kd 0, .fn 14]
def kdss : List (List (Str × MV)) := [[(⟨#[108, 101, 97, 115, 116]⟩, .int 4), (⟨#[109, 111, 115, 116]⟩, .int 4), (⟨#[97, 108, 105, 107, 101]⟩, .int 3), (⟨#[110, 101, 118, 101, 114]⟩, .int 3), (⟨#[97, 112, 97, 114, 116]⟩, .int 4)]]
def clss : List Cl := [⟨[0, 1, 2, 3], 22⟩, ⟨[4, 5, 6, 7, 8, 9, 10], 44⟩]
def prss : List (Nat × Nat × Nat) := [(0, 0, 23)]
def GG : Gm := ⟨dfs, glos, kdss, clss, prss⟩
def gns : List Str := [("ZERO" : Str), ("ONE" : Str), ("MOST_NODES" : Str), ("MOST_BRANCHES" : Str), ("MOST_WORTH" : Str), ("MOST_COST" : Str), ("MOST_WEIGHT" : Str), ("MOST_OFFERS" : Str), ("MOST_PICKS" : Str), ("LENGTHS" : Str), ("is_cost" : Str)]
def dns : List Str := [("is_between" : Str), ("common" : Str), ("lowest" : Str), ("is_fraction" : Str), ("add" : Str), ("less" : Str), ("times" : Str), ("over" : Str), ("is_below" : Str), ("lesser" : Str), ("greater" : Str), ("ordered" : Str), ("total" : Str), ("is_end" : Str), ("is_cost" : Str), ("is_pair" : Str), ("are_branches" : Str), ("is_node" : Str), ("is_tree" : Str), ("nodes_of" : Str), ("steps_in" : Str), ("text_of" : Str), ("" : Str), ("" : Str), ("check_offer" : Str), ("mean_above" : Str), ("mixed" : Str), ("strike_in" : Str), ("capped" : Str), ("below" : Str), ("strike_of" : Str), ("table_of" : Str), ("places_of" : Str), ("first_unlike" : Str), ("first_less" : Str), ("tables" : Str), ("chance_from" : Str), ("mean_count" : Str), ("topped" : Str), ("chosen" : Str), ("share" : Str), ("certify_pair" : Str), ("is_row" : Str), ("first_bad_row" : Str), ("" : Str), ("numbers_at" : Str), ("rows_below" : Str), ("put" : Str), ("walks_on" : Str), ("all_walks" : Str), ("last_walks" : Str), ("taken_in" : Str), ("gain_in" : Str), ("gain_of" : Str), ("are_trees" : Str), ("is_about_two" : Str), ("is_claim" : Str), ("bounded" : Str), ("is_bound" : Str), ("accepts" : Str), ("_law_tray" : Str), ("_law_spoon" : Str), ("_law_pick" : Str), ("_law_low" : Str), ("_law_sum" : Str), ("_law_gap" : Str), ("_law_times" : Str), ("_law_under" : Str), ("_law_bush" : Str), ("_law_mix" : Str), ("_law_strike" : Str), ("_law_caps" : Str), ("_law_above" : Str), ("_law_near" : Str), ("_law_due" : Str), ("_law_right" : Str), ("law" : Str)]
def cns : List Str := [("Offer" : Str), ("Walk" : Str)]
def ans : List Str := [("root" : Str), ("words" : Str), ("all_paths" : Str), ("step_paths" : Str), ("places" : Str), ("stand" : Str), ("lists" : Str), ("chance" : Str), ("spent" : Str), ("many_gone" : Str), ("floors" : Str)]
def kwsS : List Kw := [(41, 0, [("other" : Str), ("one" : Str)], [1, 0])]
def pnsS : List Str := [("tree" : Str)]
def SG : Sig := ⟨gns, dns, cns, ans, kwsS, pnsS⟩
def ats : List (Str × Option Str) := [(("is_between" : Str), none), (("common" : Str), none), (("lowest" : Str), none), (("is_fraction" : Str), none), (("add" : Str), none), (("less" : Str), none), (("times" : Str), none), (("over" : Str), none), (("is_below" : Str), none), (("lesser" : Str), none), (("greater" : Str), none), (("ordered" : Str), none), (("total" : Str), none), (("is_end" : Str), none), (("is_cost" : Str), none), (("is_pair" : Str), none), (("are_branches" : Str), none), (("is_node" : Str), none), (("is_tree" : Str), none), (("nodes_of" : Str), none), (("steps_in" : Str), none), (("text_of" : Str), none), (("Offer" : Str), some ("__init__" : Str)), (("Offer" : Str), some ("tree" : Str)), (("check_offer" : Str), none), (("mean_above" : Str), none), (("mixed" : Str), none), (("strike_in" : Str), none), (("capped" : Str), none), (("below" : Str), none), (("strike_of" : Str), none), (("table_of" : Str), none), (("places_of" : Str), none), (("first_unlike" : Str), none), (("first_less" : Str), none), (("tables" : Str), none), (("chance_from" : Str), none), (("mean_count" : Str), none), (("topped" : Str), none), (("chosen" : Str), none), (("share" : Str), none), (("certify_pair" : Str), none), (("is_row" : Str), none), (("first_bad_row" : Str), none), (("Walk" : Str), some ("__init__" : Str)), (("numbers_at" : Str), none), (("rows_below" : Str), none), (("put" : Str), none), (("walks_on" : Str), none), (("all_walks" : Str), none), (("last_walks" : Str), none), (("taken_in" : Str), none), (("gain_in" : Str), none), (("gain_of" : Str), none), (("are_trees" : Str), none), (("is_about_two" : Str), none), (("is_claim" : Str), none), (("bounded" : Str), none), (("is_bound" : Str), none), (("accepts" : Str), none), (("_law_tray" : Str), none), (("_law_spoon" : Str), none), (("_law_pick" : Str), none), (("_law_low" : Str), none), (("_law_sum" : Str), none), (("_law_gap" : Str), none), (("_law_times" : Str), none), (("_law_under" : Str), none), (("_law_bush" : Str), none), (("_law_mix" : Str), none), (("_law_strike" : Str), none), (("_law_caps" : Str), none), (("_law_above" : Str), none), (("_law_near" : Str), none), (("_law_due" : Str), none), (("_law_right" : Str), none), (("law" : Str), none)]
def f0 : He.DefD := ⟨(("is_between" : Str), none), ("is_between" : Str), ("is_between" : Str), defArgs (top 10), defBody (top 10), defScope (top 10), [], []⟩
def f1 : He.DefD := ⟨(("common" : Str), none), ("common" : Str), ("common" : Str), defArgs (top 11), defBody (top 11), defScope (top 11), [], []⟩
def f2 : He.DefD := ⟨(("lowest" : Str), none), ("lowest" : Str), ("lowest" : Str), defArgs (top 12), defBody (top 12), defScope (top 12), [], []⟩
def f3 : He.DefD := ⟨(("is_fraction" : Str), none), ("is_fraction" : Str), ("is_fraction" : Str), defArgs (top 13), defBody (top 13), defScope (top 13), [], []⟩
def f4 : He.DefD := ⟨(("add" : Str), none), ("add" : Str), ("add" : Str), defArgs (top 14), defBody (top 14), defScope (top 14), [], []⟩
def f5 : He.DefD := ⟨(("less" : Str), none), ("less" : Str), ("less" : Str), defArgs (top 15), defBody (top 15), defScope (top 15), [], []⟩
def f6 : He.DefD := ⟨(("times" : Str), none), ("times" : Str), ("times" : Str), defArgs (top 16), defBody (top 16), defScope (top 16), [], []⟩
def f7 : He.DefD := ⟨(("over" : Str), none), ("over" : Str), ("over" : Str), defArgs (top 17), defBody (top 17), defScope (top 17), [], []⟩
def f8 : He.DefD := ⟨(("is_below" : Str), none), ("is_below" : Str), ("is_below" : Str), defArgs (top 18), defBody (top 18), defScope (top 18), [], []⟩
def f9 : He.DefD := ⟨(("lesser" : Str), none), ("lesser" : Str), ("lesser" : Str), defArgs (top 19), defBody (top 19), defScope (top 19), [], []⟩
def f10 : He.DefD := ⟨(("greater" : Str), none), ("greater" : Str), ("greater" : Str), defArgs (top 20), defBody (top 20), defScope (top 20), [], []⟩
def f11 : He.DefD := ⟨(("ordered" : Str), none), ("ordered" : Str), ("ordered" : Str), defArgs (top 21), defBody (top 21), defScope (top 21), [], []⟩
def f12 : He.DefD := ⟨(("total" : Str), none), ("total" : Str), ("total" : Str), defArgs (top 22), defBody (top 22), defScope (top 22), [], []⟩
def f13 : He.DefD := ⟨(("is_end" : Str), none), ("is_end" : Str), ("is_end" : Str), defArgs (top 32), defBody (top 32), defScope (top 32), [], []⟩
def f14 : He.DefD := ⟨(("is_cost" : Str), none), ("is_cost" : Str), ("is_cost" : Str), defArgs (top 33), defBody (top 33), defScope (top 33), [], []⟩
def f15 : He.DefD := ⟨(("is_pair" : Str), none), ("is_pair" : Str), ("is_pair" : Str), defArgs (top 34), defBody (top 34), defScope (top 34), [], []⟩
def f16 : He.DefD := ⟨(("are_branches" : Str), none), ("are_branches" : Str), ("are_branches" : Str), defArgs (top 35), defBody (top 35), defScope (top 35), [], []⟩
def f17 : He.DefD := ⟨(("is_node" : Str), none), ("is_node" : Str), ("is_node" : Str), defArgs (top 36), defBody (top 36), defScope (top 36), [], []⟩
def f18 : He.DefD := ⟨(("is_tree" : Str), none), ("is_tree" : Str), ("is_tree" : Str), defArgs (top 37), defBody (top 37), defScope (top 37), [], []⟩
def f19 : He.DefD := ⟨(("nodes_of" : Str), none), ("nodes_of" : Str), ("nodes_of" : Str), defArgs (top 38), defBody (top 38), defScope (top 38), [], []⟩
def f20 : He.DefD := ⟨(("steps_in" : Str), none), ("steps_in" : Str), ("steps_in" : Str), defArgs (top 39), defBody (top 39), defScope (top 39), [], []⟩
def f21 : He.DefD := ⟨(("text_of" : Str), none), ("text_of" : Str), ("text_of" : Str), defArgs (top 42), defBody (top 42), defScope (top 42), [], []⟩
def f22 : He.DefD := ⟨(("Offer" : Str), some ("__init__" : Str)), ("__init__" : Str), ("Offer.__init__" : Str), defArgs (mem 46 0), defBody (mem 46 0), defScope (mem 46 0), [], []⟩
def f23 : He.DefD := ⟨(("Offer" : Str), some ("tree" : Str)), ("tree" : Str), ("Offer.tree" : Str), defArgs (mem 46 2), defBody (mem 46 2), defScope (mem 46 2), [], []⟩
def f24 : He.DefD := ⟨(("check_offer" : Str), none), ("check_offer" : Str), ("check_offer" : Str), defArgs (top 47), defBody (top 47), defScope (top 47), [], []⟩
def f25 : He.DefD := ⟨(("mean_above" : Str), none), ("mean_above" : Str), ("mean_above" : Str), defArgs (top 49), defBody (top 49), defScope (top 49), [], []⟩
def f26 : He.DefD := ⟨(("mixed" : Str), none), ("mixed" : Str), ("mixed" : Str), defArgs (top 50), defBody (top 50), defScope (top 50), [], []⟩
def f27 : He.DefD := ⟨(("strike_in" : Str), none), ("strike_in" : Str), ("strike_in" : Str), defArgs (top 51), defBody (top 51), defScope (top 51), [], []⟩
def f28 : He.DefD := ⟨(("capped" : Str), none), ("capped" : Str), ("capped" : Str), defArgs (top 52), defBody (top 52), defScope (top 52), [], []⟩
def f29 : He.DefD := ⟨(("below" : Str), none), ("below" : Str), ("below" : Str), defArgs (top 53), defBody (top 53), defScope (top 53), [], []⟩
def f30 : He.DefD := ⟨(("strike_of" : Str), none), ("strike_of" : Str), ("strike_of" : Str), defArgs (top 54), defBody (top 54), defScope (top 54), [], []⟩
def f31 : He.DefD := ⟨(("table_of" : Str), none), ("table_of" : Str), ("table_of" : Str), defArgs (top 55), defBody (top 55), defScope (top 55), [], []⟩
def f32 : He.DefD := ⟨(("places_of" : Str), none), ("places_of" : Str), ("places_of" : Str), defArgs (top 57), defBody (top 57), defScope (top 57), [], []⟩
def f33 : He.DefD := ⟨(("first_unlike" : Str), none), ("first_unlike" : Str), ("first_unlike" : Str), defArgs (top 58), defBody (top 58), defScope (top 58), [], []⟩
def f34 : He.DefD := ⟨(("first_less" : Str), none), ("first_less" : Str), ("first_less" : Str), defArgs (top 59), defBody (top 59), defScope (top 59), [], []⟩
def f35 : He.DefD := ⟨(("tables" : Str), none), ("tables" : Str), ("tables" : Str), defArgs (top 60), defBody (top 60), defScope (top 60), [], []⟩
def f36 : He.DefD := ⟨(("chance_from" : Str), none), ("chance_from" : Str), ("chance_from" : Str), defArgs (top 62), defBody (top 62), defScope (top 62), [], []⟩
def f37 : He.DefD := ⟨(("mean_count" : Str), none), ("mean_count" : Str), ("mean_count" : Str), defArgs (top 63), defBody (top 63), defScope (top 63), [], []⟩
def f38 : He.DefD := ⟨(("topped" : Str), none), ("topped" : Str), ("topped" : Str), defArgs (top 64), defBody (top 64), defScope (top 64), [], []⟩
def f39 : He.DefD := ⟨(("chosen" : Str), none), ("chosen" : Str), ("chosen" : Str), defArgs (top 65), defBody (top 65), defScope (top 65), [], []⟩
def f40 : He.DefD := ⟨(("share" : Str), none), ("share" : Str), ("share" : Str), defArgs (top 66), defBody (top 66), defScope (top 66), [], []⟩
def f41 : He.DefD := ⟨(("certify_pair" : Str), none), ("certify_pair" : Str), ("certify_pair" : Str), defArgs (top 68), defBody (top 68), defScope (top 68), [], []⟩
def f42 : He.DefD := ⟨(("is_row" : Str), none), ("is_row" : Str), ("is_row" : Str), defArgs (top 70), defBody (top 70), defScope (top 70), [], []⟩
def f43 : He.DefD := ⟨(("first_bad_row" : Str), none), ("first_bad_row" : Str), ("first_bad_row" : Str), defArgs (top 71), defBody (top 71), defScope (top 71), [], []⟩
def f44 : He.DefD := ⟨(("Walk" : Str), some ("__init__" : Str)), ("__init__" : Str), ("Walk.__init__" : Str), defArgs (mem 72 0), defBody (mem 72 0), defScope (mem 72 0), [], []⟩
def f45 : He.DefD := ⟨(("numbers_at" : Str), none), ("numbers_at" : Str), ("numbers_at" : Str), defArgs (top 73), defBody (top 73), defScope (top 73), [], []⟩
def f46 : He.DefD := ⟨(("rows_below" : Str), none), ("rows_below" : Str), ("rows_below" : Str), defArgs (top 74), defBody (top 74), defScope (top 74), [], []⟩
def f47 : He.DefD := ⟨(("put" : Str), none), ("put" : Str), ("put" : Str), defArgs (top 75), defBody (top 75), defScope (top 75), [], []⟩
def f48 : He.DefD := ⟨(("walks_on" : Str), none), ("walks_on" : Str), ("walks_on" : Str), defArgs (top 76), defBody (top 76), defScope (top 76), [], []⟩
def f49 : He.DefD := ⟨(("all_walks" : Str), none), ("all_walks" : Str), ("all_walks" : Str), defArgs (top 77), defBody (top 77), defScope (top 77), [], []⟩
def f50 : He.DefD := ⟨(("last_walks" : Str), none), ("last_walks" : Str), ("last_walks" : Str), defArgs (top 78), defBody (top 78), defScope (top 78), [], []⟩
def f51 : He.DefD := ⟨(("taken_in" : Str), none), ("taken_in" : Str), ("taken_in" : Str), defArgs (top 79), defBody (top 79), defScope (top 79), [], []⟩
def f52 : He.DefD := ⟨(("gain_in" : Str), none), ("gain_in" : Str), ("gain_in" : Str), defArgs (top 80), defBody (top 80), defScope (top 80), [], []⟩
def f53 : He.DefD := ⟨(("gain_of" : Str), none), ("gain_of" : Str), ("gain_of" : Str), defArgs (top 81), defBody (top 81), defScope (top 81), [], []⟩
def f54 : He.DefD := ⟨(("are_trees" : Str), none), ("are_trees" : Str), ("are_trees" : Str), defArgs (top 84), defBody (top 84), defScope (top 84), [], []⟩
def f55 : He.DefD := ⟨(("is_about_two" : Str), none), ("is_about_two" : Str), ("is_about_two" : Str), defArgs (top 85), defBody (top 85), defScope (top 85), [], []⟩
def f56 : He.DefD := ⟨(("is_claim" : Str), none), ("is_claim" : Str), ("is_claim" : Str), defArgs (top 86), defBody (top 86), defScope (top 86), [], []⟩
def f57 : He.DefD := ⟨(("bounded" : Str), none), ("bounded" : Str), ("bounded" : Str), defArgs (top 87), defBody (top 87), defScope (top 87), [], []⟩
def f58 : He.DefD := ⟨(("is_bound" : Str), none), ("is_bound" : Str), ("is_bound" : Str), defArgs (top 88), defBody (top 88), defScope (top 88), [], []⟩
def f59 : He.DefD := ⟨(("accepts" : Str), none), ("accepts" : Str), ("accepts" : Str), defArgs (top 89), defBody (top 89), defScope (top 89), [], []⟩
def f60 : He.DefD := ⟨(("_law_tray" : Str), none), ("_law_tray" : Str), ("_law_tray" : Str), defArgs (top 91), defBody (top 91), defScope (top 91), [], []⟩
def f61 : He.DefD := ⟨(("_law_spoon" : Str), none), ("_law_spoon" : Str), ("_law_spoon" : Str), defArgs (top 92), defBody (top 92), defScope (top 92), [], []⟩
def f62 : He.DefD := ⟨(("_law_pick" : Str), none), ("_law_pick" : Str), ("_law_pick" : Str), defArgs (top 93), defBody (top 93), defScope (top 93), [], []⟩
def f63 : He.DefD := ⟨(("_law_low" : Str), none), ("_law_low" : Str), ("_law_low" : Str), defArgs (top 94), defBody (top 94), defScope (top 94), [], []⟩
def f64 : He.DefD := ⟨(("_law_sum" : Str), none), ("_law_sum" : Str), ("_law_sum" : Str), defArgs (top 95), defBody (top 95), defScope (top 95), [], []⟩
def f65 : He.DefD := ⟨(("_law_gap" : Str), none), ("_law_gap" : Str), ("_law_gap" : Str), defArgs (top 96), defBody (top 96), defScope (top 96), [], []⟩
def f66 : He.DefD := ⟨(("_law_times" : Str), none), ("_law_times" : Str), ("_law_times" : Str), defArgs (top 97), defBody (top 97), defScope (top 97), [], []⟩
def f67 : He.DefD := ⟨(("_law_under" : Str), none), ("_law_under" : Str), ("_law_under" : Str), defArgs (top 98), defBody (top 98), defScope (top 98), [], []⟩
def f68 : He.DefD := ⟨(("_law_bush" : Str), none), ("_law_bush" : Str), ("_law_bush" : Str), defArgs (top 99), defBody (top 99), defScope (top 99), [], []⟩
def f69 : He.DefD := ⟨(("_law_mix" : Str), none), ("_law_mix" : Str), ("_law_mix" : Str), defArgs (top 100), defBody (top 100), defScope (top 100), [], []⟩
def f70 : He.DefD := ⟨(("_law_strike" : Str), none), ("_law_strike" : Str), ("_law_strike" : Str), defArgs (top 101), defBody (top 101), defScope (top 101), [], []⟩
def f71 : He.DefD := ⟨(("_law_caps" : Str), none), ("_law_caps" : Str), ("_law_caps" : Str), defArgs (top 102), defBody (top 102), defScope (top 102), [], []⟩
def f72 : He.DefD := ⟨(("_law_above" : Str), none), ("_law_above" : Str), ("_law_above" : Str), defArgs (top 103), defBody (top 103), defScope (top 103), [], []⟩
def f73 : He.DefD := ⟨(("_law_near" : Str), none), ("_law_near" : Str), ("_law_near" : Str), defArgs (top 104), defBody (top 104), defScope (top 104), [], []⟩
def f74 : He.DefD := ⟨(("_law_due" : Str), none), ("_law_due" : Str), ("_law_due" : Str), defArgs (top 105), defBody (top 105), defScope (top 105), [], []⟩
def f75 : He.DefD := ⟨(("_law_right" : Str), none), ("_law_right" : Str), ("_law_right" : Str), defArgs (top 106), defBody (top 106), defScope (top 106), [], []⟩
def f76 : He.DefD := ⟨(("law" : Str), none), ("law" : Str), ("law" : Str), defArgs (top 107), defBody (top 107), defScope (top 107), [], []⟩
def fns : List He.DefD := [f0, f1, f2, f3, f4, f5, f6, f7, f8, f9, f10, f11, f12, f13, f14, f15, f16, f17, f18, f19, f20, f21, f22, f23, f24, f25, f26, f27, f28, f29, f30, f31, f32, f33, f34, f35, f36, f37, f38, f39, f40, f41, f42, f43, f44, f45, f46, f47, f48, f49, f50, f51, f52, f53, f54, f55, f56, f57, f58, f59, f60, f61, f62, f63, f64, f65, f66, f67, f68, f69, f70, f71, f72, f73, f74, f75, f76]
def nps : List (List Str × List Str) := [([("value" : Str), ("least" : Str), ("most" : Str)], [("value" : Str), ("least" : Str), ("most" : Str)]), ([("first" : Str), ("last" : Str)], [("first" : Str), ("last" : Str)]), ([("top" : Str), ("bottom" : Str), ("shared" : Str)], [("top" : Str), ("bottom" : Str)]), ([("value" : Str)], [("value" : Str)]), ([("one" : Str), ("other" : Str)], [("one" : Str), ("other" : Str)]), ([("one" : Str), ("other" : Str)], [("one" : Str), ("other" : Str)]), ([("one" : Str), ("other" : Str)], [("one" : Str), ("other" : Str)]), ([("one" : Str), ("other" : Str)], [("one" : Str), ("other" : Str)]), ([("one" : Str), ("other" : Str)], [("one" : Str), ("other" : Str)]), ([("one" : Str), ("other" : Str)], [("one" : Str), ("other" : Str)]), ([("one" : Str), ("other" : Str)], [("one" : Str), ("other" : Str)]), ([("some" : Str), ("found" : Str), ("one" : Str), ("place" : Str)], [("some" : Str)]), ([("some" : Str), ("found" : Str), ("one" : Str)], [("some" : Str)]), ([("tree" : Str)], [("tree" : Str)]), ([("value" : Str)], [("value" : Str)]), ([("value" : Str)], [("value" : Str)]), ([("value" : Str), ("pair" : Str)], [("value" : Str)]), ([("value" : Str), ("is_right_cost" : Str)], [("value" : Str), ("is_right_cost" : Str)]), ([("value" : Str), ("is_right_cost" : Str), ("line" : Str), ("place" : Str), ("weight" : Str), ("tree" : Str)], [("value" : Str), ("is_right_cost" : Str)]), ([("tree" : Str), ("found" : Str), ("line" : Str), ("path" : Str), ("node" : Str), ("many" : Str), ("place" : Str)], [("tree" : Str)]), ([("tree" : Str), ("path" : Str), ("node" : Str)], [("tree" : Str)]), ([("tree" : Str), ("weight" : Str), ("branch" : Str)], [("tree" : Str)]), ([("self" : Str), ("tree" : Str), ("path" : Str), ("node" : Str)], [("self" : Str), ("tree" : Str)]), ([("self" : Str)], [("self" : Str)]), ([("value" : Str)], [("value" : Str)]), ([("found" : Str), ("number" : Str), ("value" : Str), ("chance" : Str)], [("found" : Str), ("number" : Str)]), ([("parts" : Str), ("whole" : Str), ("chances" : Str), ("weight" : Str), ("found" : Str), ("value" : Str), ("chance" : Str)], [("parts" : Str)]), ([("found" : Str), ("cost" : Str), ("chance" : Str), ("mean" : Str), ("place" : Str), ("number" : Str)], [("found" : Str), ("cost" : Str)]), ([("found" : Str), ("number" : Str), ("chances" : Str), ("value" : Str), ("chance" : Str)], [("found" : Str), ("number" : Str)]), ([("tree" : Str), ("weight" : Str), ("branch" : Str)], [("tree" : Str)]), ([("tree" : Str)], [("tree" : Str)]), ([("tree" : Str)], [("tree" : Str)]), ([("one" : Str), ("other" : Str), ("values" : Str), ("found" : Str), ("value" : Str), ("chance" : Str)], [("one" : Str), ("other" : Str)]), ([("one" : Str), ("other" : Str), ("place" : Str)], [("one" : Str), ("other" : Str)]), ([("one" : Str), ("other" : Str), ("place" : Str)], [("one" : Str), ("other" : Str)]), ([("one" : Str), ("other" : Str)], [("one" : Str), ("other" : Str)]), ([("found" : Str), ("number" : Str), ("chance" : Str), ("value" : Str), ("part" : Str)], [("found" : Str), ("number" : Str)]), ([("tables" : Str), ("number" : Str), ("picks" : Str), ("counts" : Str), ("found" : Str), ("mean" : Str), ("place" : Str), ("chance" : Str), ("stay" : Str), ("come" : Str), ("part" : Str)], [("tables" : Str), ("number" : Str), ("picks" : Str)]), ([("tables" : Str), ("picks" : Str), ("values" : Str), ("found" : Str), ("mean" : Str), ("last" : Str), ("value" : Str), ("chance" : Str)], [("tables" : Str), ("picks" : Str)]), ([("nodes" : Str), ("numbers" : Str), ("picks" : Str), ("best" : Str), ("ends" : Str), ("index" : Str), ("node" : Str)], [("nodes" : Str), ("numbers" : Str), ("picks" : Str)]), ([("weight" : Str), ("branches" : Str), ("other" : Str), ("branch" : Str)], [("weight" : Str), ("branches" : Str)]), ([("one" : Str), ("other" : Str), ("place" : Str), ("first" : Str), ("last" : Str)], [("one" : Str), ("other" : Str)]), ([("value" : Str), ("tree" : Str), ("number" : Str)], [("value" : Str), ("tree" : Str)]), ([("value" : Str), ("trees" : Str), ("index" : Str), ("row" : Str)], [("value" : Str), ("trees" : Str)]), ([("self" : Str), ("places" : Str), ("stand" : Str), ("lists" : Str), ("chance" : Str), ("spent" : Str), ("many_gone" : Str), ("floors" : Str)], [("self" : Str), ("places" : Str), ("stand" : Str), ("lists" : Str), ("chance" : Str), ("spent" : Str), ("many_gone" : Str), ("floors" : Str)]), ([("walk" : Str), ("index" : Str), ("node" : Str)], [("walk" : Str)]), ([("tree" : Str), ("row" : Str), ("found" : Str), ("begin" : Str), ("weight" : Str), ("branch" : Str), ("many" : Str)], [("tree" : Str), ("row" : Str)]), ([("some" : Str), ("index" : Str), ("value" : Str)], [("some" : Str), ("index" : Str), ("value" : Str)]), ([("walk" : Str), ("index" : Str), ("node" : Str), ("rows" : Str), ("strike" : Str), ("floor" : Str), ("floors" : Str), ("found" : Str), ("place" : Str), ("branch" : Str), ("chance" : Str), ("places" : Str), ("stand" : Str), ("lists" : Str)], [("walk" : Str), ("index" : Str)]), ([("trees" : Str), ("rule" : Str), ("picks" : Str), ("none" : Str), ("line" : Str), ("found" : Str), ("walk" : Str), ("index" : Str), ("tree" : Str)], [("trees" : Str), ("rule" : Str), ("picks" : Str)]), ([("trees" : Str), ("rule" : Str), ("picks" : Str), ("walk" : Str), ("index" : Str)], [("trees" : Str), ("rule" : Str), ("picks" : Str)]), ([("nodes" : Str), ("picks" : Str), ("ends" : Str), ("index" : Str), ("node" : Str), ("worth" : Str)], [("nodes" : Str), ("picks" : Str)]), ([("walk" : Str), ("picks" : Str), ("index" : Str)], [("walk" : Str), ("picks" : Str)]), ([("trees" : Str), ("rule" : Str), ("picks" : Str), ("walk" : Str)], [("trees" : Str), ("rule" : Str), ("picks" : Str)]), ([("value" : Str), ("tree" : Str)], [("value" : Str)]), ([("claim" : Str)], [("claim" : Str)]), ([("claim" : Str)], [("claim" : Str)]), ([("tree" : Str), ("row" : Str), ("parts" : Str), ("begin" : Str), ("whole" : Str), ("weight" : Str), ("branch" : Str), ("many" : Str), ("found" : Str)], [("tree" : Str), ("row" : Str)]), ([("trees" : Str), ("picks" : Str), ("number" : Str), ("paper" : Str), ("tables" : Str), ("index" : Str), ("tree" : Str), ("found" : Str)], [("trees" : Str), ("picks" : Str), ("number" : Str), ("paper" : Str)]), ([("claim" : Str), ("paper" : Str), ("one" : Str), ("other" : Str)], [("claim" : Str), ("paper" : Str)]), ([("_law_script" : Str), ("_law_k" : Str), ("_law_cell" : Str), ("_law_mixed" : Str), ("_law_each" : Str)], [("_law_script" : Str), ("_law_k" : Str)]), ([("_law_tray_here" : Str), ("_law_top" : Str), ("_law_old" : Str), ("_law_figure" : Str)], [("_law_tray_here" : Str), ("_law_top" : Str)]), ([("_law_tray_here" : Str), ("_law_things" : Str)], [("_law_tray_here" : Str), ("_law_things" : Str)]), ([("_law_top" : Str), ("_law_bottom" : Str), ("_law_a" : Str), ("_law_b" : Str)], [("_law_top" : Str), ("_law_bottom" : Str)]), ([("_law_a" : Str), ("_law_b" : Str)], [("_law_a" : Str), ("_law_b" : Str)]), ([("_law_a" : Str), ("_law_b" : Str)], [("_law_a" : Str), ("_law_b" : Str)]), ([("_law_a" : Str), ("_law_b" : Str)], [("_law_a" : Str), ("_law_b" : Str)]), ([("_law_a" : Str), ("_law_b" : Str)], [("_law_a" : Str), ("_law_b" : Str)]), ([("_law_tray_here" : Str), ("_law_deep" : Str), ("_law_many" : Str), ("_law_twigs" : Str), ("_law_k" : Str)], [("_law_tray_here" : Str), ("_law_deep" : Str)]), ([("_law_bush_here" : Str), ("_law_whole" : Str), ("_law_found" : Str), ("_law_weight" : Str), ("_law_bud" : Str), ("_law_num" : Str), ("_law_chance" : Str)], [("_law_bush_here" : Str)]), ([("_law_bush_here" : Str), ("_law_pairs" : Str), ("_law_best" : Str), ("_law_low_here" : Str), ("_law_part" : Str), ("_law_here" : Str), ("_law_mean" : Str), ("_law_mass" : Str), ("_law_num" : Str), ("_law_chance" : Str)], [("_law_bush_here" : Str)]), ([("_law_bush_here" : Str), ("_law_most_here" : Str), ("_law_num" : Str), ("_law_chance" : Str)], [("_law_bush_here" : Str)]), ([("_law_pairs" : Str), ("_law_low_here" : Str), ("_law_found" : Str), ("_law_num" : Str), ("_law_chance" : Str)], [("_law_pairs" : Str), ("_law_low_here" : Str)]), ([("_law_tray_here" : Str), ("_law_bush_here" : Str), ("_law_way_here" : Str), ("_law_weight" : Str), ("_law_bud" : Str)], [("_law_tray_here" : Str), ("_law_bush_here" : Str)]), ([("_law_near_here" : Str), ("_law_far" : Str), ("_law_mark" : Str), ("_law_best" : Str), ("_law_pair" : Str), ("_law_lower" : Str), ("_law_is_alike" : Str), ("_law_gap_here" : Str), ("_law_num" : Str), ("_law_chance" : Str), ("_law_k" : Str)], [("_law_near_here" : Str), ("_law_far" : Str)]), ([("_law_tray_here" : Str), ("_law_lap" : Str), ("_law_bush_here" : Str), ("_law_mate" : Str), ("_law_near_here" : Str), ("_law_far" : Str), ("_law_due_here" : Str), ("_law_pair" : Str), ("_law_a" : Str), ("_law_b" : Str)], [("_law_tray_here" : Str)]), ([("_law_script" : Str), ("_law_trays" : Str), ("_law_k" : Str), ("_law_tray_here" : Str)], [("_law_script" : Str)])]
def kns : List Str := [("LENGTHS" : Str)]
def LL : Mi.Lw := ⟨GG, SG, ats, kns, fns, nps⟩
def loose : List PySem.Str := ([("_wall" : Str), ("__name__" : Str), ("WrongValue" : Str), ("InvalidTree" : Str), ("InvalidText" : Str), ("InvalidPath" : Str), ("NotAnOffer" : Str), ("ZERO" : Str), ("ONE" : Str), ("is_between" : Str), ("common" : Str), ("lowest" : Str), ("is_fraction" : Str), ("add" : Str), ("less" : Str), ("times" : Str), ("over" : Str), ("is_below" : Str), ("lesser" : Str), ("greater" : Str), ("ordered" : Str), ("total" : Str), ("MOST_NODES" : Str), ("MOST_BRANCHES" : Str), ("MOST_WORTH" : Str), ("MOST_COST" : Str), ("MOST_WEIGHT" : Str), ("MOST_OFFERS" : Str), ("MOST_PICKS" : Str), ("DIGITS" : Str)] : List PySem.Str) ++ ([("is_end" : Str), ("is_cost" : Str), ("is_pair" : Str), ("are_branches" : Str), ("is_node" : Str), ("is_tree" : Str), ("nodes_of" : Str), ("steps_in" : Str), ("node_at" : Str), ("is_path" : Str), ("text_of" : Str), ("Reader" : Str), ("tree_in" : Str), ("Offer" : Str), ("check_offer" : Str), ("mean_above" : Str), ("mixed" : Str), ("strike_in" : Str), ("capped" : Str), ("below" : Str), ("strike_of" : Str), ("table_of" : Str), ("places_of" : Str), ("first_unlike" : Str), ("first_less" : Str), ("tables" : Str), ("chance_from" : Str), ("mean_count" : Str), ("topped" : Str), ("chosen" : Str)] : List PySem.Str) ++ ([("share" : Str), ("certify_pair" : Str), ("is_row" : Str), ("first_bad_row" : Str), ("Walk" : Str), ("numbers_at" : Str), ("rows_below" : Str), ("put" : Str), ("walks_on" : Str), ("all_walks" : Str), ("last_walks" : Str), ("taken_in" : Str), ("gain_in" : Str), ("gain_of" : Str), ("LENGTHS" : Str), ("are_trees" : Str), ("is_about_two" : Str), ("is_claim" : Str), ("bounded" : Str), ("is_bound" : Str), ("accepts" : Str), ("_law_tray" : Str), ("_law_spoon" : Str), ("_law_pick" : Str), ("_law_low" : Str), ("_law_sum" : Str), ("_law_gap" : Str), ("_law_times" : Str), ("_law_under" : Str), ("_law_bush" : Str)] : List PySem.Str) ++ ([("_law_mix" : Str), ("_law_strike" : Str), ("_law_caps" : Str), ("_law_above" : Str), ("_law_near" : Str), ("_law_due" : Str), ("_law_right" : Str)] : List PySem.Str)
end Lw

namespace Lw
open PySem PySem.Spec PyProof.Rows L2 Mi
abbrev R : PySem.W.OpenRow := PySem.W.OpenLaw.row PySem.Challenge.rw_lookcosts_k80_whole_pairs_certified
abbrev V : Program := PySem.W.view R.prog [107]
abbrev hk : PySem.W.Hook := Mi.hookY 6 LL
def ob (s : PySem.W.SharedT) : Mi.AlY := Mi.obsY 6 LL (HandSHeadRun.getT s)
theorem ob_eq (s : PySem.W.SharedT) : ob s = hk.obs s.abs := Mi.obsY_eq s
theorem run1t (w : World) (os : OsState) : (endY R 6000 (w.withFollow "special-get-raises" true) os).map (looksY R (w.withFollow "special-get-raises" true)) = some true := by kernel_rfl
theorem run2t (w : World) (os : OsState) : (endY R 6000 (w.withFollow "special-get-raises" true) os).map (seenY R V loose) = some (PySem.W.openGood V loose) := by kernel_rfl
theorem run3t (w : World) (os : OsState) : (endY R 6000 (w.withFollow "special-get-raises" true) os).map ob = some (hk.val (w.withFollow "special-get-raises" true)) := by kernel_rfl
theorem run_t (w : World) : HandSHeadRun.RunEq R V hk ob 6000 loose (w.withFollow "special-get-raises" true) := Mi.runY (run1t w) (run2t w) (run3t w)
theorem run1f (w : World) (os : OsState) : (endY R 6000 (w.withFollow "special-get-raises" false) os).map (looksY R (w.withFollow "special-get-raises" false)) = some true := by kernel_rfl
theorem run2f (w : World) (os : OsState) : (endY R 6000 (w.withFollow "special-get-raises" false) os).map (seenY R V loose) = some (PySem.W.openGood V loose) := by kernel_rfl
theorem run3f (w : World) (os : OsState) : (endY R 6000 (w.withFollow "special-get-raises" false) os).map ob = some (hk.val (w.withFollow "special-get-raises" false)) := by kernel_rfl
theorem run_f (w : World) : HandSHeadRun.RunEq R V hk ob 6000 loose (w.withFollow "special-get-raises" false) := Mi.runY (run1f w) (run2f w) (run3f w)
theorem run (w : World) : HandSHeadRun.RunEq R V hk ob 6000 loose w := PySem.W.byRow2 "special-get-raises" run_f run_t w
end Lw

namespace Mi
open PySem PySem.Spec PyProof.Rows L2

structure Tb where
  K : PySem.W.Frag
  mg : Str → Option Value
  G : Gm
  fa : Nat → Addr
  ca : Nat → Addr
  ka : Nat → Addr
  an : Nat → Str

def mine (β : List Addr) (hm : MH) (a : Addr) : Prop := ∃ (i : Nat) (o : MO), β[i]? = some a ∧ hm[i]? = some o ∧ o ≠ MO.dead
def lv (Av : Addr → Prop) (β : List Addr) (hm : MH) (a : Addr) : Prop := Av a ∨ mine β hm a

/-- a list, a tuple of the written part -/
def KL (K : PySem.W.Frag) (a : Addr) (xs : List V) : Prop :=
  ∃ (o : Obj) (its : Array Value) (n : Nat), K.lookup a = some o ∧ o.cls = .type "list" ∧ o.dict = none ∧ o.data = .seq its n ∧ its.size ≤ sizeLine ∧ Vals xs its.toList
def KT (K : PySem.W.Frag) (a : Addr) (xs : List V) : Prop :=
  ∃ (o : Obj) (its : Array Value) (n : Nat), K.lookup a = some o ∧ o.cls = .type "tuple" ∧ o.data = .seq its n ∧ its.size ≤ sizeLine ∧ Vals xs its.toList

mutual
inductive RV (T : Tb) (L : Addr → Prop) (β : List Addr) (H : Hp) : MV → V → Prop
  | non : RV T L β H .non .non
  | bl (b : Bool) : RV T L β H (.bl b) (.bl b)
  | int (i : Int) : RV T L β H (.int i) (.int i)
  | str (s : Str) : RV T L β H (.str s) (.str s)
  | tup {a : Addr} {xs : List V} {l : List MV} : Rd H a (.tup xs) → ¬ L a → RVs T L β H l xs → RV T L β H (.tup l) (.ref a)
  | tupK {a : Addr} {xs : List V} {l : List MV} : KT T.K a xs → RVs T L β H l xs → RV T L β H (.tup l) (.ref a)
  | lst {a : Addr} {xs : List V} {l : List MV} : H a = some (.lst xs) → ¬ L a → RVs T L β H l xs → RV T L β H (.lst l) (.ref a)
  | scr {a : Addr} {xs : List V} {l : List MV} : Rd H a (.lst xs) → ¬ L a → RVs T L β H l xs → RV T L β H (.scr l) (.ref a)
  | scrK {a : Addr} {xs : List V} {l : List MV} : KL T.K a xs → RVs T L β H l xs → RV T L β H (.scr l) (.ref a)
  | obj {a dx : Addr} {c : Nat} {cl : Cl} {xs : List V} {l : List MV} : T.G.cls[c]? = some cl → H a = some (.ins (T.ca c) dx ((cl.flds.map T.an).zip xs)) → ¬ L a → l.length = cl.flds.length → RVs T L β H l xs → RV T L β H (.obj c l) (.ref a)
  | loc {i : Nat} {a : Addr} : β[i]? = some a → RV T L β H (.loc i) (.ref a)
  | fn (j : Nat) : RV T L β H (.fn j) (.ref (T.fa j))
  | kd (j : Nat) : RV T L β H (.kd j) (.ref (T.ka j))
inductive RVs (T : Tb) (L : Addr → Prop) (β : List Addr) (H : Hp) : List MV → List V → Prop
  | nil : RVs T L β H [] []
  | cons {m : MV} {v : V} {ms : List MV} {vs : List V} : RV T L β H m v → RVs T L β H ms vs → RVs T L β H (m :: ms) (v :: vs)
end

section
variable {T : Tb} {L L' : Addr → Prop} {β β' : List Addr} {H H' : Hp}
theorem RVs.length : ∀ {l : List MV} {xs : List V}, RVs T L β H l xs → l.length = xs.length
  | _, _, .nil => rfl
  | _, _, .cons _ r => by rw [List.length_cons, List.length_cons, RVs.length r]
theorem RVs.get : ∀ {l : List MV} {xs : List V} {i : Nat} {m : MV}, RVs T L β H l xs → l[i]? = some m → ∃ x, xs[i]? = some x ∧ RV T L β H m x
  | _, _, _, _, .nil, e => by simp at e
  | _, _, 0, _, .cons r _, e => by simp at e; subst e; exact ⟨_, rfl, r⟩
  | _, _, i + 1, m, .cons _ t, e => by
    obtain ⟨x, h1, h2⟩ := RVs.get (i := i) (m := m) t (by simpa using e)
    exact ⟨x, by simpa using h1, h2⟩
theorem RVs.get' : ∀ {l : List MV} {xs : List V} {i : Nat} {x : V}, RVs T L β H l xs → xs[i]? = some x → ∃ m, l[i]? = some m ∧ RV T L β H m x
  | _, _, _, _, .nil, e => by simp at e
  | _, _, 0, _, .cons r _, e => by simp at e; subst e; exact ⟨_, rfl, r⟩
  | _, _, i + 1, x, .cons _ t, e => by
    obtain ⟨m, h1, h2⟩ := RVs.get' (i := i) (x := x) t (by simpa using e)
    exact ⟨m, by simpa using h1, h2⟩
theorem RVs.append : ∀ {l l2 : List MV} {xs ys : List V}, RVs T L β H l xs → RVs T L β H l2 ys → RVs T L β H (l ++ l2) (xs ++ ys)
  | _, _, _, _, .nil, r => r
  | _, _, _, _, .cons a b, r => .cons a (RVs.append b r)
theorem RVs.take : ∀ {l : List MV} {xs : List V} (n : Nat), RVs T L β H l xs → RVs T L β H (l.take n) (xs.take n)
  | _, _, 0, _ => .nil
  | _, _, _ + 1, .nil => .nil
  | _, _, n + 1, .cons a b => .cons a (RVs.take n b)
theorem RVs.drop : ∀ {l : List MV} {xs : List V} (n : Nat), RVs T L β H l xs → RVs T L β H (l.drop n) (xs.drop n)
  | _, _, 0, r => r
  | _, _, _ + 1, .nil => .nil
  | _, _, n + 1, .cons _ b => RVs.drop n b
theorem RVs.set {m : MV} {x : V} (r : RV T L β H m x) : ∀ {l : List MV} {xs : List V} (i : Nat), RVs T L β H l xs → RVs T L β H (l.set i m) (xs.set i x)
  | _, _, _, .nil => .nil
  | _, _, 0, .cons _ b => .cons r b
  | _, _, i + 1, .cons a b => .cons a (RVs.set r i b)
theorem RVs.one {m : MV} {x : V} (r : RV T L β H m x) : RVs T L β H [m] [x] := .cons r .nil
theorem RVs.reverse : ∀ {l : List MV} {xs : List V}, RVs T L β H l xs → RVs T L β H l.reverse xs.reverse
  | _, _, .nil => .nil
  | _, _, .cons a b => by
    rw [List.reverse_cons, List.reverse_cons]
    exact RVs.append (RVs.reverse b) (RVs.one a)
theorem RVs.dropLast {l : List MV} {xs : List V} (r : RVs T L β H l xs) : RVs T L β H l.dropLast xs.dropLast := by
  rw [List.dropLast_eq_take, List.dropLast_eq_take, r.length]
  exact r.take _
/-- what is asked of the heap behind -/
structure Ex' (β : List Addr) (hm : MH) (H : Hp) (β' : List Addr) (hm' : MH) (H' : Hp) : Prop where
  pre : ∀ (i : Nat) (a : Addr), β[i]? = some a → β'[i]? = some a
  liv : ∀ a, mine β' hm' a → mine β hm a ∨ H a = none
  frm : ∀ a o, H a = some o → ¬ mine β hm a → H' a = some o
  thr : ∀ a, H a ≠ none → H' a ≠ none

mutual
theorem RV.imp {T : Tb} {L L' : Addr → Prop} {β β' : List Addr} {H H' : Hp} (hβ : ∀ (i : Nat) (a : Addr), β[i]? = some a → β'[i]? = some a) (hH : ∀ a o, H a = some o → ¬ L a → H' a = some o ∧ ¬ L' a) : ∀ {m : MV} {x : V}, RV T L β H m x → RV T L' β' H' m x
  | _, _, .non => .non
  | _, _, .bl b => .bl b
  | _, _, .int i => .int i
  | _, _, .str s => .str s
  | _, _, .tup h n r => by
    rcases h with h | ⟨o, h⟩
    · obtain ⟨h1, h2⟩ := hH _ _ h n
      exact .tup (.inl h1) h2 (RVs.imp hβ hH r)
    · obtain ⟨h1, h2⟩ := hH _ _ h n
      exact .tup (.inr ⟨o, h1⟩) h2 (RVs.imp hβ hH r)
  | _, _, .tupK h r => .tupK h (RVs.imp hβ hH r)
  | _, _, .lst h n r => by
    obtain ⟨h1, h2⟩ := hH _ _ h n
    exact .lst h1 h2 (RVs.imp hβ hH r)
  | _, _, .scr h n r => by
    rcases h with h | ⟨o, h⟩
    · obtain ⟨h1, h2⟩ := hH _ _ h n
      exact .scr (.inl h1) h2 (RVs.imp hβ hH r)
    · obtain ⟨h1, h2⟩ := hH _ _ h n
      exact .scr (.inr ⟨o, h1⟩) h2 (RVs.imp hβ hH r)
  | _, _, .scrK h r => .scrK h (RVs.imp hβ hH r)
  | _, _, .obj hc h n e r => by
    obtain ⟨h1, h2⟩ := hH _ _ h n
    exact .obj hc h1 h2 e (RVs.imp hβ hH r)
  | _, _, .loc h => .loc (hβ _ _ h)
  | _, _, .fn j => .fn j
  | _, _, .kd j => .kd j
theorem RVs.imp {T : Tb} {L L' : Addr → Prop} {β β' : List Addr} {H H' : Hp} (hβ : ∀ (i : Nat) (a : Addr), β[i]? = some a → β'[i]? = some a) (hH : ∀ a o, H a = some o → ¬ L a → H' a = some o ∧ ¬ L' a) : ∀ {m : List MV} {x : List V}, RVs T L β H m x → RVs T L' β' H' m x
  | _, _, .nil => .nil
  | _, _, .cons a b => .cons (RV.imp hβ hH a) (RVs.imp hβ hH b)
end
end

section
variable {T : Tb} {Av : Addr → Prop} {β β' β'' : List Addr} {hm hm' hm'' : MH} {H H' H'' : Hp}
theorem Ex'.frL (e : Ex' β hm H β' hm' H') : ∀ a o, H a = some o → ¬ lv Av β hm a → H' a = some o ∧ ¬ lv Av β' hm' a := fun a o h n => by
  refine ⟨e.frm a o h fun q => n (.inr q), fun q => ?_⟩
  rcases q with q | q
  · exact n (.inl q)
  · rcases e.liv a q with q | q
    · exact n (.inr q)
    · rw [h] at q; cases q
theorem RV.mono (e : Ex' β hm H β' hm' H') {m : MV} {x : V} (r : RV T (lv Av β hm) β H m x) : RV T (lv Av β' hm') β' H' m x := r.imp e.pre e.frL
theorem RVs.mono (e : Ex' β hm H β' hm' H') {m : List MV} {x : List V} (r : RVs T (lv Av β hm) β H m x) : RVs T (lv Av β' hm') β' H' m x := r.imp e.pre e.frL
theorem Ex'.refl : Ex' β hm H β hm H := ⟨fun _ _ h => h, fun _ h => .inl h, fun _ _ h _ => h, fun _ h => h⟩
theorem Ex'.trans (e : Ex' β hm H β' hm' H') (e2 : Ex' β' hm' H' β'' hm'' H'') : Ex' β hm H β'' hm'' H'' where
  pre := fun i a h => e2.pre i a (e.pre i a h)
  liv := fun a h => by
    rcases e2.liv a h with q | q
    · exact e.liv a q
    · refine .inr ?_
      cases z : H a with
      | none => rfl
      | some o => exact absurd q (e.thr a (by rw [z]; exact fun w => nomatch w))
  frm := fun a o h n => e2.frm a o (e.frm a o h n) fun q => by
    rcases e.liv a q with q | q
    · exact n q
    · rw [h] at q; cases q
  thr := fun a h => e2.thr a (e.thr a h)
end

mutual
theorem RV.any {T : Tb} {L L' : Addr → Prop} {β β' : List Addr} {H : Hp} (hL : ∀ a, L' a → L a) : ∀ {m : MV} {x : V}, m.fix = true → RV T L β H m x → RV T L' β' H m x
  | _, _, _, .non => .non
  | _, _, _, .bl b => .bl b
  | _, _, _, .int i => .int i
  | _, _, _, .str s => .str s
  | _, _, f, .tup h n r => .tup h (fun q => n (hL _ q)) (RVs.any hL (by simpa [MV.fix] using f) r)
  | _, _, f, .tupK h r => .tupK h (RVs.any hL (by simpa [MV.fix] using f) r)
  | _, _, f, .lst h n r => .lst h (fun q => n (hL _ q)) (RVs.any hL (by simpa [MV.fix] using f) r)
  | _, _, f, .scr h n r => .scr h (fun q => n (hL _ q)) (RVs.any hL (by simpa [MV.fix] using f) r)
  | _, _, f, .scrK h r => .scrK h (RVs.any hL (by simpa [MV.fix] using f) r)
  | _, _, f, .obj hc h n e r => .obj hc h (fun q => n (hL _ q)) e (RVs.any hL (by simpa [MV.fix] using f) r)
  | _, _, f, .loc h => by simp [MV.fix] at f
  | _, _, _, .fn j => .fn j
  | _, _, _, .kd j => .kd j
theorem RVs.any {T : Tb} {L L' : Addr → Prop} {β β' : List Addr} {H : Hp} (hL : ∀ a, L' a → L a) : ∀ {m : List MV} {x : List V}, fixL m = true → RVs T L β H m x → RVs T L' β' H m x
  | _, _, _, .nil => .nil
  | _, _, f, .cons a b => by
    rw [fixL, Bool.and_eq_true] at f
    exact .cons (RV.any hL f.1 a) (RVs.any hL f.2 b)
end

/-! ### objects -/
inductive RFs (T : Tb) (L : Addr → Prop) (β : List Addr) (H : Hp) : List (Nat × MV) → List (Str × V) → Prop
  | nil : RFs T L β H [] []
  | cons {f : Nat} {m : MV} {x : V} {fs : List (Nat × MV)} {gs : List (Str × V)} : RV T L β H m x → RFs T L β H fs gs → RFs T L β H ((f, m) :: fs) ((T.an f, x) :: gs)
/-- the entries of a dict with tuples as keys -/
inductive REs (T : Tb) (L : Addr → Prop) (β : List Addr) (H : Hp) : List (MV × MV) → List (NestedKey × Addr × Value) → Prop
  | nil : REs T L β H [] []
  | cons {k v : MV} {q : NestedKey} {a : Addr} {x : V} {u : Value} {kvs : List (MV × MV)} {es : List (NestedKey × Addr × Value)} : keyT k = some q → RV T L β H k (.ref a) → RV T L β H v x → RelV x u → REs T L β H kvs es → REs T L β H ((k, v) :: kvs) ((q, a, u) :: es)
def ent (hs : NestedKey → Int) (x : NestedKey × Addr × Value) : DictEntry := ⟨hs x.1, .ref x.2.1, x.2.2⟩
inductive RO (T : Tb) (L : Addr → Prop) (β : List Addr) (H : Hp) (hs : NestedKey → Int) : MO → Addr → HO → Prop
  | lst {l : List MV} {xs : List V} {a : Addr} : RVs T L β H l xs → RO T L β H hs (.lst l) a (.lst xs)
  | ins {c : Nat} {fs : List (Nat × MV)} {dx : Addr} {gs : List (Str × V)} {a : Addr} : RFs T L β H fs gs → RO T L β H hs (.ins c fs) a (.ins (T.ca c) dx gs)
  | dt {kvs : List (MV × MV)} {xs : List (NestedKey × Addr × Value)} {es : Array DictEntry} {n : Nat} {a : Addr} {o : Obj} : REs T L β H kvs xs → (xs.map (·.1)).Nodup → o.ExactDict → o.data = .dict es n → es.toList = xs.map (ent hs) → (a == sysModules) = false →
      RO T L β H hs (.dt kvs) a (.ext fun h => h.get? a = some o)
  | dead {a : Addr} {u : HO} : RO T L β H hs .dead a u

section
variable {T : Tb} {L L' : Addr → Prop} {β β' : List Addr} {H H' : Hp} {hs : NestedKey → Int}
theorem RFs.imp (h : ∀ m x, RV T L β H m x → RV T L' β' H' m x) : ∀ {fs : List (Nat × MV)} {gs : List (Str × V)}, RFs T L β H fs gs → RFs T L' β' H' fs gs
  | _, _, .nil => .nil
  | _, _, .cons a b => .cons (h _ _ a) (RFs.imp h b)
theorem REs.imp (h : ∀ m x, RV T L β H m x → RV T L' β' H' m x) : ∀ {fs : List (MV × MV)} {gs : List (NestedKey × Addr × Value)}, REs T L β H fs gs → REs T L' β' H' fs gs
  | _, _, .nil => .nil
  | _, _, .cons k a b r t => .cons k (h _ _ a) (h _ _ b) r (REs.imp h t)
theorem RVs.imp' (h : ∀ m x, RV T L β H m x → RV T L' β' H' m x) : ∀ {fs : List MV} {gs : List V}, RVs T L β H fs gs → RVs T L' β' H' fs gs
  | _, _, .nil => .nil
  | _, _, .cons a b => .cons (h _ _ a) (RVs.imp' h b)
theorem RO.imp (h : ∀ m x, RV T L β H m x → RV T L' β' H' m x) {o : MO} {a : Addr} {u : HO} (r : RO T L β H hs o a u) : RO T L' β' H' hs o a u := by
  cases r with
  | lst r => exact .lst (r.imp' h)
  | ins r => exact .ins (r.imp h)
  | dt r n x d e s => exact .dt (r.imp h) n x d e s
  | dead => exact .dead
end

structure HR (T : Tb) (hs : NestedKey → Int) (Av : Addr → Prop) (β : List Addr) (hm : MH) (H : Hp) : Prop where
  len : β.length = hm.length
  nd : β.Nodup
  av : ∀ a ∈ β, ¬ Av a
  thr : ∀ a ∈ β, H a ≠ none
  avt : ∀ a, Av a → H a ≠ none
  obj : ∀ (i : Nat) (a : Addr) (o : MO), β[i]? = some a → hm[i]? = some o → o ≠ .dead → ∃ u, H a = some u ∧ RO T (lv Av β hm) β H hs o a u

section
variable {T : Tb} {hs : NestedKey → Int} {Av : Addr → Prop} {β β' : List Addr} {hm hm' : MH} {H H' : Hp}
theorem HR.noL (h : HR T hs Av β hm H) {p : Addr} (hp : H p = none) : ¬ lv Av β hm p := fun q => by
  rcases q with q | ⟨i, o, e, _⟩
  · exact h.avt p q hp
  · exact h.thr p (List.mem_of_getElem? e) hp
theorem mineThere (h : HR T hs Av β hm H) {a : Addr} (q : mine β hm a) : a ∈ β := by
  obtain ⟨i, o, e, _⟩ := q
  exact List.mem_of_getElem? e
/-- a new thing that is not one of the numbered -/
theorem Ex'.new {p : Addr} {o : HO} (hp : H p = none) : Ex' β hm H β hm (upd H p o) := by
  refine ⟨fun _ _ h => h, fun _ h => .inl h, fun a u h _ => ?_, fun a h => ?_⟩
  · rw [upd_ne (ne_of_none h hp)]; exact h
  · by_cases e : a = p
    · subst e; exact absurd hp h
    · rw [upd_ne e]; exact h
theorem HR.ext (h : HR T hs Av β hm H) (e : Ex' β hm H β hm H') (k : ∀ a, mine β hm a → H' a = H a) : HR T hs Av β hm H' := by
  refine ⟨h.len, h.nd, h.av, fun a ha => e.thr a (h.thr a ha), fun a ha => e.thr a (h.avt a ha), fun i a o h1 h2 h3 => ?_⟩
  obtain ⟨u, hu, r⟩ := h.obj i a o h1 h2 h3
  refine ⟨u, by rw [k a ⟨i, o, h1, h2, h3⟩]; exact hu, r.imp fun _ _ q => q.mono e⟩
theorem HR.new (h : HR T hs Av β hm H) {p : Addr} {o : HO} (hp : H p = none) : HR T hs Av β hm (upd H p o) :=
  h.ext (Ex'.new hp) fun a q => by
    have hne : a ≠ p := fun e => by subst e; exact h.thr a (mineThere h q) hp
    exact upd_ne hne
/-- a new numbered thing -/
theorem Ex'.alloc (hl : β.length = hm.length) {p : Addr} {u : HO} {o : MO} (hp : H p = none) : Ex' β hm H (β ++ [p]) (hm ++ [o]) (upd H p u) := by
  refine ⟨fun i a h => ?_, fun a q => ?_, fun a v h _ => ?_, fun a h => ?_⟩
  · rw [List.getElem?_append_left (List.getElem?_eq_some_iff.mp h).1]; exact h
  · obtain ⟨i, m, h1, h2, h3⟩ := q
    by_cases hi : i < β.length
    · rw [List.getElem?_append_left hi] at h1
      rw [List.getElem?_append_left (by omega)] at h2
      exact .inl ⟨i, m, h1, h2, h3⟩
    · rw [List.getElem?_append_right (by omega)] at h1
      have e := List.mem_of_getElem? h1
      rw [List.mem_singleton] at e
      rw [e]
      exact .inr hp
  · rw [upd_ne (ne_of_none h hp)]; exact h
  · by_cases e : a = p
    · subst e; exact absurd hp h
    · rw [upd_ne e]; exact h
theorem HR.alloc (h : HR T hs Av β hm H) {p : Addr} {u : HO} {o : MO} (hp : H p = none) (r : RO T (lv Av (β ++ [p]) (hm ++ [o])) (β ++ [p]) (upd H p u) hs o p u) : HR T hs Av (β ++ [p]) (hm ++ [o]) (upd H p u) := by
  have e := Ex'.alloc (u := u) (o := o) h.len hp
  have hpn : p ∉ β := fun q => h.thr p q hp
  refine ⟨by simp [h.len], ?_, fun a ha => ?_, fun a ha => ?_, fun a ha => e.thr a (h.avt a ha), fun i a m h1 h2 h3 => ?_⟩
  · rw [List.nodup_append]
    refine ⟨h.nd, by simp, fun a ha b hb q => ?_⟩
    rw [List.mem_singleton] at hb
    subst hb q
    exact hpn ha
  · rcases List.mem_append.mp ha with q | q
    · exact h.av a q
    · rw [List.mem_singleton] at q
      subst q
      exact fun z => h.avt a z hp
  · rcases List.mem_append.mp ha with q | q
    · exact e.thr a (h.thr a q)
    · rw [List.mem_singleton] at q
      subst q
      rw [upd_same]
      exact fun z => nomatch z
  · by_cases hi : i < β.length
    · rw [List.getElem?_append_left hi] at h1
      rw [List.getElem?_append_left (by have := h.len; omega)] at h2
      obtain ⟨v, hv, rr⟩ := h.obj i a m h1 h2 h3
      have hne : a ≠ p := ne_of_none hv hp
      exact ⟨v, by rw [upd_ne hne]; exact hv, rr.imp fun _ _ q => q.mono e⟩
    · rw [List.getElem?_append_right (by omega)] at h1
      rw [List.getElem?_append_right (by have := h.len; omega)] at h2
      have e1 := List.mem_of_getElem? h1
      have e2 := List.mem_of_getElem? h2
      rw [List.mem_singleton] at e1 e2
      subst e1 e2
      exact ⟨u, upd_same, r⟩
theorem nodup_get {l : List Addr} (hn : l.Nodup) {i j : Nat} {a : Addr} (h1 : l[i]? = some a) (h2 : l[j]? = some a) : i = j := by
  obtain ⟨b1, e1⟩ := List.getElem?_eq_some_iff.mp h1
  obtain ⟨b2, e2⟩ := List.getElem?_eq_some_iff.mp h2
  exact (List.getElem_inj hn).mp (e1.trans e2.symm)
/-- a numbered thing is changed -/
theorem Ex'.write (h : HR T hs Av β hm H) {i : Nat} {a : Addr} {u : HO} {o o' : MO} (hi : β[i]? = some a) (ho : hm[i]? = some o) (hd : o ≠ .dead) : Ex' β hm H β (hm.set i o') (upd H a u) := by
  refine ⟨fun _ _ q => q, fun b q => ?_, fun b v q n => ?_, fun b q => ?_⟩
  · obtain ⟨j, m, h1, h2, h3⟩ := q
    by_cases e : i = j
    · subst e
      exact .inl ⟨i, o, h1, ho, hd⟩
    · rw [List.getElem?_set_ne e] at h2
      exact .inl ⟨j, m, h1, h2, h3⟩
  · have hne : b ≠ a := fun e => by subst e; exact n ⟨i, o, hi, ho, hd⟩
    rw [upd_ne hne]; exact q
  · by_cases e : b = a
    · subst e; rw [upd_same]; exact fun z => nomatch z
    · rw [upd_ne e]; exact q
theorem HR.write (h : HR T hs Av β hm H) {i : Nat} {a : Addr} {u : HO} {o o' : MO} (hi : β[i]? = some a) (ho : hm[i]? = some o) (hd : o ≠ .dead) (r : RO T (lv Av β (hm.set i o')) β (upd H a u) hs o' a u) : HR T hs Av β (hm.set i o') (upd H a u) := by
  have e := Ex'.write (u := u) (o' := o') h hi ho hd
  refine ⟨by simp [h.len], h.nd, h.av, fun b hb => e.thr b (h.thr b hb), fun b hb => e.thr b (h.avt b hb), fun j b m h1 h2 h3 => ?_⟩
  by_cases q : i = j
  · subst q
    have hlt := (List.getElem?_eq_some_iff.mp ho).1
    rw [List.getElem?_set_self hlt] at h2
    cases h2
    rw [hi] at h1; cases h1
    exact ⟨u, upd_same, r⟩
  · rw [List.getElem?_set_ne q] at h2
    obtain ⟨v, hv, rr⟩ := h.obj j b m h1 h2 h3
    have hne : b ≠ a := fun z => by subst z; exact q (nodup_get h.nd hi h1)
    exact ⟨v, by rw [upd_ne hne]; exact hv, rr.imp fun _ _ z => z.mono e⟩
/-- a numbered thing is given up -/
theorem Ex'.kill {i : Nat} : Ex' β hm H β (hm.set i .dead) H := by
  refine ⟨fun _ _ q => q, fun b q => ?_, fun _ _ q _ => q, fun _ q => q⟩
  obtain ⟨j, m, h1, h2, h3⟩ := q
  by_cases e : i = j
  · subst e
    have : m = .dead := by
      by_cases hlt : i < hm.length
      · rw [List.getElem?_set_self hlt] at h2; exact (Option.some.inj h2).symm
      · rw [List.getElem?_eq_none (by simp; omega)] at h2; cases h2
    exact absurd this h3
  · rw [List.getElem?_set_ne e] at h2
    exact .inl ⟨j, m, h1, h2, h3⟩
theorem HR.kill (h : HR T hs Av β hm H) {i : Nat} : HR T hs Av β (hm.set i .dead) H := by
  refine ⟨by simp [h.len], h.nd, h.av, h.thr, h.avt, fun j b m h1 h2 h3 => ?_⟩
  by_cases e : i = j
  · subst e
    have : m = .dead := by
      by_cases hlt : i < hm.length
      · rw [List.getElem?_set_self hlt] at h2; exact (Option.some.inj h2).symm
      · rw [List.getElem?_eq_none (by simp; omega)] at h2; cases h2
    exact absurd this h3
  · rw [List.getElem?_set_ne e] at h2
    obtain ⟨v, hv, rr⟩ := h.obj j b m h1 h2 h3
    exact ⟨v, hv, rr.imp fun _ _ z => z.mono Ex'.kill⟩
theorem notMine_kill (h : HR T hs Av β hm H) {i : Nat} {a : Addr} (hi : β[i]? = some a) : ¬ lv Av β (hm.set i .dead) a := fun q => by
  rcases q with q | ⟨j, m, h1, h2, h3⟩
  · exact h.av a (List.mem_of_getElem? hi) q
  · have e := nodup_get h.nd hi h1
    subst e
    by_cases hlt : i < hm.length
    · rw [List.getElem?_set_self hlt] at h2; exact h3 (Option.some.inj h2).symm
    · rw [List.getElem?_eq_none (by simp; omega)] at h2; cases h2
end

/-! ### slots -/
def SS (T : Tb) (L : Addr → Prop) (β : List Addr) (H : Hp) (σm : MS) (σ : L2.St) : Prop := σm.length = σ.length ∧ ∀ (i : Nat) (v : MV), σm[i]? = some (some v) → ∃ x, σ[i]? = some (some x) ∧ RV T L β H v x
section
variable {T : Tb} {Av : Addr → Prop} {L : Addr → Prop} {β β' : List Addr} {hm hm' : MH} {H H' : Hp} {σm : MS} {σ : L2.St}
theorem SS.mono (s : SS T (lv Av β hm) β H σm σ) (e : Ex' β hm H β' hm' H') : SS T (lv Av β' hm') β' H' σm σ :=
  ⟨s.1, fun i v h => let ⟨x, h1, h2⟩ := s.2 i v h; ⟨x, h1, h2.mono e⟩⟩
theorem SS.set (s : SS T L β H σm σ) {i : Nat} {v : MV} {x : V} (r : RV T L β H v x) : SS T L β H (σm.set i (some v)) (σ.set i (some x)) := by
  refine ⟨by simp [s.1], fun j u h => ?_⟩
  by_cases e : i = j
  · subst e
    by_cases hlt : i < σm.length
    · rw [List.getElem?_set_self hlt] at h
      cases h
      exact ⟨x, List.getElem?_set_self (by rw [← s.1]; exact hlt), r⟩
    · rw [List.getElem?_eq_none (by simp; omega)] at h; cases h
  · rw [List.getElem?_set_ne e] at h
    obtain ⟨y, h1, h2⟩ := s.2 j u h
    exact ⟨y, by rw [List.getElem?_set_ne e]; exact h1, h2⟩
theorem SS.none (s : SS T L β H σm σ) {i : Nat} : SS T L β H (σm.set i none) (σ.set i none) := by
  refine ⟨by simp [s.1], fun j u h => ?_⟩
  by_cases e : i = j
  · subst e
    by_cases hlt : i < σm.length
    · rw [List.getElem?_set_self hlt] at h; cases h
    · rw [List.getElem?_eq_none (by simp; omega)] at h; cases h
  · rw [List.getElem?_set_ne e] at h
    obtain ⟨y, h1, h2⟩ := s.2 j u h
    exact ⟨y, by rw [List.getElem?_set_ne e]; exact h1, h2⟩
theorem SS.wipe (s : SS T L β H σm σ) : ∀ vs : List Nat, SS T L β H (wipeM σm vs) (wipe σ vs)
  | [] => s
  | _ :: vs => (SS.wipe s vs).none
end
end Mi

namespace Mi
open PySem PySem.Spec PyProof.Rows L2

/-- what is wanted behind, of a value and what stands then -/
def Kp (T : Tb) (hs : NestedKey → Int) (Av : Addr → Prop) (β : List Addr) (hm : MH) (H : Hp) (v : MV) (hm' : MH) (Q : VK) : Prop :=
  ∀ (β' : List Addr) (H' : Hp) (x : V), Ex' β hm H β' hm' H' → HR T hs Av β' hm' H' → RV T (lv Av β' hm') β' H' v x → Q x H'
section
variable {T : Tb} {hs : NestedKey → Int} {Av : Addr → Prop} {β : List Addr} {hm hm' : MH} {H : Hp} {Q : VK} {v : MV} {l : List MV} {xs : List V}
theorem Kp.same {x : V} (k : Kp T hs Av β hm H v hm Q) (h : HR T hs Av β hm H) (r : RV T (lv Av β hm) β H v x) : Q x H := k β H x Ex'.refl h r
theorem Kp.tup (k : Kp T hs Av β hm H (.tup l) hm Q) (h : HR T hs Av β hm H) (r : RVs T (lv Av β hm) β H l xs) {p : Addr} (hp : H p = none) : Q (.ref p) (upd H p (.tup xs)) :=
  k β _ _ (Ex'.new hp) (h.new hp) (.tup (.inl upd_same) (fun q => (HR.noL h hp) q) (r.mono (Ex'.new hp)))
theorem Kp.lst (k : Kp T hs Av β hm H (.lst l) hm Q) (h : HR T hs Av β hm H) (r : RVs T (lv Av β hm) β H l xs) {p : Addr} (hp : H p = none) : Q (.ref p) (upd H p (.lst xs)) :=
  k β _ _ (Ex'.new hp) (h.new hp) (.lst upd_same (fun q => (HR.noL h hp) q) (r.mono (Ex'.new hp)))
theorem getLen {α : Type} {l : List α} {a : α} : (l ++ [a])[l.length]? = some a := by simp
theorem Kp.loc {o : MO} {u : HO} (k : Kp T hs Av β hm H (.loc hm.length) (hm ++ [o]) Q) (h : HR T hs Av β hm H) {p : Addr} (hp : H p = none) (r : RO T (lv Av (β ++ [p]) (hm ++ [o])) (β ++ [p]) (upd H p u) hs o p u) : Q (.ref p) (upd H p u) :=
  k _ _ _ (Ex'.alloc h.len hp) (h.alloc hp r) (.loc (by rw [← h.len]; exact getLen))
end

def rO2 (T : Tb) (hs : NestedKey → Int) (f : MV → MV → MH → Out MV) : R2 := fun x y H Q => ∃ (Av : Addr → Prop) (β : List Addr) (hm : MH) (a b v : MV) (hm' : MH),
  HR T hs Av β hm H ∧ RV T (lv Av β hm) β H a x ∧ RV T (lv Av β hm) β H b y ∧ f a b hm = .ok v hm' ∧ Kp T hs Av β hm H v hm' Q

theorem OpR.of {X : Cx} {f : Value → Value → Sem Value} {r r' : R2} (h : OpR X f r) (i : ∀ x y H Q, r' x y H Q → r x y H Q) : OpR X f r' :=
  fun pins s σ H x y v u Q I rx ry q => h pins s σ H x y v u Q I rx ry (i _ _ _ _ q)
theorem CallR.of {X : Cx} {f : Value} {r r' : List V → Hp → VK → Prop} (h : CallR X f r) (i : ∀ xs H Q, r' xs H Q → r xs H Q) : CallR X f r' :=
  fun pins s σ H xs us Q I rx q => h pins s σ H xs us Q I rx (i _ _ _ q)

def opOf : Bop → Operator
  | .add => .Add | .sub => .Sub | .mul => .Mult | .fdiv => .FloorDiv | .mod => .Mod | .pow => .Pow
def coOf : Cop → CmpOp
  | .eq => .Eq | .ne => .NotEq | .lt => .Lt | .le => .LtE | .gt => .Gt | .ge => .GtE | .in_ => .In | .ni => .NotIn

section
variable {T : Tb} {L : Addr → Prop} {β : List Addr} {H : Hp} {x : V} {l : List MV}
theorem RV.int' {i : Int} (r : RV T L β H (.int i) x) : x = .int i := by cases r; rfl
theorem RV.bl' {i : Bool} (r : RV T L β H (.bl i) x) : x = .bl i := by cases r; rfl
theorem RV.str' {i : Str} (r : RV T L β H (.str i) x) : x = .str i := by cases r; rfl
theorem RV.non' (r : RV T L β H .non x) : x = .non := by cases r; rfl
theorem RV.tup' (r : RV T L β H (.tup l) x) : ∃ a xs, x = .ref a ∧ SqT T.K H a xs ∧ RVs T L β H l xs := by
  cases r with
  | tup h n r => exact ⟨_, _, rfl, .inl h, r⟩
  | tupK h r => exact ⟨_, _, rfl, .inr h, r⟩
theorem RV.lst' (r : RV T L β H (.lst l) x) : ∃ a xs, x = .ref a ∧ H a = some (.lst xs) ∧ ¬ L a ∧ RVs T L β H l xs := by
  cases r with
  | lst h n r => exact ⟨_, _, rfl, h, n, r⟩
theorem RV.scr' (r : RV T L β H (.scr l) x) : ∃ a xs, x = .ref a ∧ SqL T.K H a xs ∧ RVs T L β H l xs := by
  cases r with
  | scr h n r => exact ⟨_, _, rfl, .inl h, r⟩
  | scrK h r => exact ⟨_, _, rfl, .inr h, r⟩
theorem RV.loc' {i : Nat} (r : RV T L β H (.loc i) x) : ∃ a, x = .ref a ∧ β[i]? = some a := by
  cases r with
  | loc h => exact ⟨_, rfl, h⟩
end

theorem small_log {i : Int} (h : small i = true) : i.natAbs.log2 < 9000 := by
  have h' : i.natAbs < 2 ^ 9000 := of_decide_eq_true h
  exact PySem.Flt.log2_lt_of (by decide) h'
theorem out_inj {α : Type} {a b : α} {h h' : MH} (e : Out.ok a h = Out.ok b h') : a = b ∧ h = h' := by cases e; exact ⟨rfl, rfl⟩
theorem n100 {n : Nat} (h : n ≤ 100000) : n ≤ sizeLine := by rw [sizeLine_eq]; omega

section
variable {T : Tb} {L : Addr → Prop} {β : List Addr} {H : Hp}
theorem RVs.nil_l {xs : List V} (r : RVs T L β H [] xs) : xs = [] := by cases r; rfl
theorem RVs.nil_r {l : List MV} (r : RVs T L β H l []) : l = [] := by cases r; rfl
end
section
variable {X : Cx} {T : Tb} {hs : NestedKey → Int}
theorem add_ok (hK : X.K = T.K) : OpR X (binaryOp .Add) (rO2 T hs (bop .add)) := by
  intro pins s σ H x y v u Q I rx ry h
  obtain ⟨Av, β, hm, a, b, w, hm', hr, ra, rb, e, k⟩ := h
  cases a with
  | int i =>
    cases b with
    | int j =>
      obtain ⟨rfl, rfl⟩ := out_inj (show Out.ok (MV.int (i + j)) hm = .ok w hm' from e)
      cases ra.int'; cases rb.int'
      exact op_add pins s σ H _ _ v u Q I rx ry ⟨i, j, rfl, rfl, k.same hr (.int _)⟩
    | _ => cases e
  | str i =>
    cases b with
    | str j =>
      have e' : (if decide (i.length + j.length ≤ 100000) = true then Out.ok (MV.str (i ++ j)) hm else .bad) = .ok w hm' := e
      split at e'
      · rename_i hl
        obtain ⟨rfl, rfl⟩ := out_inj e'
        cases ra.str'; cases rb.str'
        exact op_add_str pins s σ H _ _ v u Q I rx ry ⟨i, j, rfl, rfl, n100 (of_decide_eq_true hl), k.same hr (.str _)⟩
      · cases e'
    | _ => cases e
  | tup l =>
    cases b with
    | tup l2 =>
      have e' : (if decide (l.length + l2.length ≤ 100000) = true then Out.ok (MV.tup (l ++ l2)) hm else .bad) = .ok w hm' := e
      split at e'
      · rename_i hl
        obtain ⟨rfl, rfl⟩ := out_inj e'
        obtain ⟨p, xs, rfl, s1, q1⟩ := ra.tup'
        obtain ⟨p2, ys, rfl, s2, q2⟩ := rb.tup'
        rw [← hK] at s1 s2
        have hl := of_decide_eq_true hl
        refine op_catA pins s σ H _ _ v u Q I rx ry ⟨p, p2, xs, ys, rfl, rfl, s1, s2, n100 (by rw [← q1.length, ← q2.length]; exact hl), fun e1 => ?_, fun _ e2 => ?_, fun _ _ p hp => k.tup hr (q1.append q2) hp⟩
        · subst e1
          cases q1.nil_r
          exact k.same hr rb
        · subst e2
          cases q2.nil_r
          rw [List.append_nil] at k
          exact k.same hr ra
      · cases e'
    | _ => cases e
  | lst l =>
    cases b with
    | lst l2 =>
      have e' : (if decide (l.length + l2.length ≤ 100000) = true then Out.ok (MV.lst (l ++ l2)) hm else .bad) = .ok w hm' := e
      split at e'
      · rename_i hl
        obtain ⟨rfl, rfl⟩ := out_inj e'
        obtain ⟨p, xs, rfl, s1, _, q1⟩ := ra.lst'
        obtain ⟨p2, ys, rfl, s2, _, q2⟩ := rb.lst'
        have hl := of_decide_eq_true hl
        exact op_cat pins s σ H _ _ v u Q I rx ry ⟨p, p2, xs, ys, rfl, rfl, s1, s2, n100 (by rw [← q1.length, ← q2.length]; exact hl), fun p hp => k.lst hr (q1.append q2) hp⟩
      · cases e'
    | _ => cases e
  | _ => cases b <;> cases e
/-- two ints in, an int out, under a test -/
theorem int2_ok {o : Bop} {c : Int → Int → Bool} {g : Int → Int → Int} {C : Int → Int → Prop} (hop : OpR X (binaryOp (opOf o)) (rI C fun i j => .int (g i j))) (hC : ∀ i j, c i j = true → C i j)
    (he : ∀ a b hm w hm', bop o a b hm = .ok w hm' → ∃ i j, a = .int i ∧ b = .int j ∧ c i j = true ∧ w = .int (g i j) ∧ hm' = hm) : OpR X (binaryOp (opOf o)) (rO2 T hs (bop o)) := by
  intro pins s σ H x y v u Q I rx ry h
  obtain ⟨Av, β, hm, a, b, w, hm', hr, ra, rb, e, k⟩ := h
  obtain ⟨i, j, rfl, rfl, hc, rfl, rfl⟩ := he _ _ _ _ _ e
  cases ra.int'; cases rb.int'
  exact hop pins s σ H _ _ v u Q I rx ry ⟨i, j, rfl, rfl, hC i j hc, k.same hr (.int _)⟩
theorem ite_ok {α : Type} {c : Bool} {a b : α} {h h' : MH} (e : (if c = true then Out.ok a h else .bad) = .ok b h') : c = true ∧ a = b ∧ h = h' := by
  cases c with
  | true => exact ⟨rfl, out_inj e⟩
  | false => cases e
theorem RVs.rep {L : Addr → Prop} {β : List Addr} {H : Hp} {l : List MV} {xs : List V} (r : RVs T L β H l xs) : ∀ n : Nat, RVs T L β H (List.replicate n l).flatten (List.replicate n xs).flatten
  | 0 => .nil
  | n + 1 => by
    rw [List.replicate_succ, List.replicate_succ, List.flatten_cons, List.flatten_cons]
    exact r.append (RVs.rep r n)
theorem mul_ok (hK : X.K = T.K) : OpR X (binaryOp .Mult) (rO2 T hs (bop .mul)) := by
  intro pins s σ H x y v u Q I rx ry h
  obtain ⟨Av, β, hm, a, b, w, hm', hr, ra, rb, e, k⟩ := h
  cases a with
  | int i =>
    cases b with
    | int j =>
      obtain ⟨hc, rfl, rfl⟩ := ite_ok (show (if (small i && small j) = true then Out.ok (MV.int (i * j)) hm else .bad) = .ok w hm' from e)
      cases ra.int'; cases rb.int'
      have hc := Bool.and_eq_true_iff.mp hc
      have h1 := small_log hc.1
      have h2 := small_log hc.2
      exact op_mulW pins s σ H _ _ v u Q I rx ry ⟨i, j, rfl, rfl, (by show i.natAbs.log2 + j.natAbs.log2 < 1000000; omega), k.same hr (.int _)⟩
    | _ => cases e
  | tup l =>
    cases b with
    | int kk =>
      obtain ⟨hc, rfl, rfl⟩ := ite_ok (show (if (decide (2 ≤ kk) && (decide (kk ≤ 1000) && (!l.isEmpty && decide (l.length ≤ 1000)))) = true then Out.ok (MV.tup (List.replicate kk.toNat l).flatten) hm else .bad) = .ok w hm' from e)
      simp only [Bool.and_eq_true, decide_eq_true_eq] at hc
      obtain ⟨p, xs, rfl, s1, q1⟩ := ra.tup'
      cases rb.int'
      rw [← hK] at s1
      refine op_repT pins s σ H _ _ v u Q I rx ry ⟨p, kk, xs, rfl, rfl, s1, fun e1 => ?_, hc.1, hc.2.1, by rw [← q1.length]; exact hc.2.2.2, fun p hp => k.tup hr (q1.rep _) hp⟩
      subst e1
      cases q1.nil_r
      exact absurd hc.2.2.1 (by decide)
    | _ => cases e
  | _ => cases b <;> cases e
theorem bop_ok (hK : X.K = T.K) (o : Bop) : OpR X (binaryOp (opOf o)) (rO2 T hs (bop o)) := by
  cases o with
  | add => exact add_ok hK
  | sub =>
    refine int2_ok (c := fun _ _ => true) (C := fun _ _ => True) (g := fun i j => i - j) (OpR.of op_sub fun x y H Q ⟨i, j, a, b, _, q⟩ => ⟨i, j, a, b, q⟩) (fun _ _ _ => trivial) fun a b hm w hm' e => ?_
    cases a with
    | int i => cases b with
      | int j =>
        obtain ⟨rfl, rfl⟩ := out_inj (show Out.ok (MV.int (i - j)) hm = .ok w hm' from e)
        exact ⟨i, j, rfl, rfl, rfl, rfl, rfl⟩
      | _ => cases e
    | _ => cases b <;> cases e
  | mul => exact mul_ok hK
  | fdiv =>
    refine int2_ok (c := fun i j => decide (0 < j) && small j) (C := CDivW) (g := fun i j => i / j) op_fdivW (fun i j h => ?_) fun a b hm w hm' e => ?_
    · have h := Bool.and_eq_true_iff.mp h
      exact ⟨of_decide_eq_true h.1, small_log h.2⟩
    cases a with
    | int i => cases b with
      | int j =>
        obtain ⟨hc, rfl, rfl⟩ := ite_ok (show (if (decide (0 < j) && small j) = true then Out.ok (MV.int (i / j)) hm else .bad) = .ok w hm' from e)
        exact ⟨i, j, rfl, rfl, hc, rfl, rfl⟩
      | _ => cases e
    | _ => cases b <;> cases e
  | mod =>
    refine int2_ok (c := fun i j => decide (0 < j)) (C := fun _ j => 0 < j) (g := fun i j => i % j) op_mod (fun i j h => of_decide_eq_true h) fun a b hm w hm' e => ?_
    cases a with
    | int i => cases b with
      | int j =>
        obtain ⟨hc, rfl, rfl⟩ := ite_ok (show (if (decide (0 < j)) = true then Out.ok (MV.int (i % j)) hm else .bad) = .ok w hm' from e)
        exact ⟨i, j, rfl, rfl, hc, rfl, rfl⟩
      | _ => cases e
    | _ => cases b <;> cases e
  | pow =>
    refine int2_ok (c := fun i j => decide (0 ≤ j) && decide (j ≤ 1000) && decide (i.natAbs < 1000)) (C := CPow) (g := fun i j => i ^ j.toNat) op_pow (fun i j h => ?_) fun a b hm w hm' e => ?_
    · simp only [Bool.and_eq_true, decide_eq_true_eq] at h
      have h2 : i.natAbs < 2 ^ 64 := Nat.lt_trans h.2 (by decide)
      exact ⟨h.1.1, by omega, h2⟩
    cases a with
    | int i => cases b with
      | int j =>
        obtain ⟨hc, rfl, rfl⟩ := ite_ok (show (if (decide (0 ≤ j) && decide (j ≤ 1000) && decide (i.natAbs < 1000)) = true then Out.ok (MV.int (i ^ j.toNat)) hm else .bad) = .ok w hm' from e)
        exact ⟨i, j, rfl, rfl, hc, rfl, rfl⟩
      | _ => cases e
    | _ => cases b <;> cases e
end

/-! ### data -/
mutual
theorem RV.dp {T : Tb} {L : Addr → Prop} {β : List Addr} {H : Hp} : ∀ {m : MV} {x : V} {d : PyData}, RV T L β H m x → m.pd = some d → Dp T.K H x d
  | _, _, _, .non, e => by simp only [MV.pd, Option.some.injEq] at e; subst e; exact .non
  | _, _, _, .bl b, e => by simp only [MV.pd, Option.some.injEq] at e; subst e; exact .bl b
  | _, _, _, .int i, e => by simp only [MV.pd, Option.some.injEq] at e; subst e; exact .int i
  | _, _, _, .str s, e => by simp only [MV.pd, Option.some.injEq] at e; subst e; exact .str s
  | _, _, d, .tup h n r, e => by
    simp only [MV.pd, Option.map_eq_some_iff] at e
    obtain ⟨ds, e1, rfl⟩ := e
    exact .tup (.inl h) (RVs.dp r e1)
  | _, _, d, .tupK h r, e => by
    simp only [MV.pd, Option.map_eq_some_iff] at e
    obtain ⟨ds, e1, rfl⟩ := e
    exact .tup (.inr h) (RVs.dp r e1)
  | _, _, d, .lst h n r, e => by
    simp only [MV.pd, Option.map_eq_some_iff] at e
    obtain ⟨ds, e1, rfl⟩ := e
    exact .lst (.inl (.inl h)) (RVs.dp r e1)
  | _, _, _, .scr _ _ _, e => by simp only [MV.pd] at e; cases e
  | _, _, _, .scrK _ _, e => by simp only [MV.pd] at e; cases e
  | _, _, _, .obj _ _ _ _ _, e => by simp only [MV.pd] at e; cases e
  | _, _, _, .loc _, e => by simp only [MV.pd] at e; cases e
  | _, _, _, .fn _, e => by simp only [MV.pd] at e; cases e
  | _, _, _, .kd _, e => by simp only [MV.pd] at e; cases e
theorem RVs.dp {T : Tb} {L : Addr → Prop} {β : List Addr} {H : Hp} : ∀ {m : List MV} {x : List V} {d : List PyData}, RVs T L β H m x → pdL m = some d → DpAll T.K H x d
  | _, _, _, .nil, e => by simp only [pdL, Option.some.injEq] at e; subst e; exact .nil
  | _, _, d, .cons (m := m) (ms := ms) a b, e => by
    simp only [pdL] at e
    split at e
    · rename_i x y h1 h2
      cases e
      exact .cons (RV.dp a h1) (RVs.dp b h2)
    · cases e
end
theorem pyEq_some {a b : MV} {k : Bool} (h : pyEq a b = some k) : ∃ d e, a.pd = some d ∧ b.pd = some e ∧ SeqAt.shaped d = true ∧ SeqAt.shaped e = true ∧ k = PyData.eqv d e := by
  unfold pyEq at h
  split at h
  · rename_i d e h1 h2
    split at h
    · rename_i hc
      have hc := Bool.and_eq_true_iff.mp hc
      cases h
      exact ⟨d, e, h1, h2, hc.1, hc.2, rfl⟩
    · cases h
  · cases h
section
variable {X : Cx} {T : Tb} {hs : NestedKey → Int}
theorem eq_ok (hK : X.K = T.K) (hu : X.A.units + 64 < cLine) : OpR X (compareOp .Eq) (rO2 T hs (cop .eq)) := by
  refine OpR.of (op_eqD hu) fun x y H Q h => ?_
  obtain ⟨Av, β, hm, a, b, w, hm', hr, ra, rb, e, k⟩ := h
  have e' : (match pyEq a b with
    | some k => Out.ok (MV.bl k) hm
    | none => .bad) = .ok w hm' := by cases a <;> exact e
  split at e'
  · rename_i q hq
    obtain ⟨rfl, rfl⟩ := out_inj e'
    obtain ⟨d, d', h1, h2, h3, h4, rfl⟩ := pyEq_some hq
    exact ⟨d, d', hK ▸ ra.dp h1, hK ▸ rb.dp h2, h3, h4, k.same hr (.bl _)⟩
  · cases e'
theorem ne_ok (hK : X.K = T.K) (hu : X.A.units + 64 < cLine) : OpR X (compareOp .NotEq) (rO2 T hs (cop .ne)) := by
  refine OpR.of (op_neD hu) fun x y H Q h => ?_
  obtain ⟨Av, β, hm, a, b, w, hm', hr, ra, rb, e, k⟩ := h
  have e' : (match pyEq a b with
    | some k => Out.ok (MV.bl (!k)) hm
    | none => .bad) = .ok w hm' := by cases a <;> exact e
  split at e'
  · rename_i q hq
    obtain ⟨rfl, rfl⟩ := out_inj e'
    obtain ⟨d, d', h1, h2, h3, h4, rfl⟩ := pyEq_some hq
    exact ⟨d, d', hK ▸ ra.dp h1, hK ▸ rb.dp h2, h3, h4, k.same hr (.bl _)⟩
  · cases e'
theorem cmpI_ok {o : Cop} {g : Int → Int → Bool} (hop : OpR X (compareOp (coOf o)) (rI0 fun i j => .bl (g i j)))
    (he : ∀ a b hm w hm', cop o a b hm = .ok w hm' → ∃ i j, a = .int i ∧ b = .int j ∧ w = .bl (g i j) ∧ hm' = hm) : OpR X (compareOp (coOf o)) (rO2 T hs (cop o)) := by
  intro pins s σ H x y v u Q I rx ry h
  obtain ⟨Av, β, hm, a, b, w, hm', hr, ra, rb, e, k⟩ := h
  obtain ⟨i, j, rfl, rfl, rfl, rfl⟩ := he _ _ _ _ _ e
  cases ra.int'; cases rb.int'
  exact hop pins s σ H _ _ v u Q I rx ry ⟨i, j, rfl, rfl, k.same hr (.bl _)⟩
def baseOp : Cop → Bool
  | .in_ => false | .ni => false
  | _ => true
theorem cop_ok (hK : X.K = T.K) (hu : X.A.units + 64 < cLine) (o : Cop) : OpR X (compareOp (coOf o)) (rO2 T hs (cop o)) := by
  cases o with
  | eq => exact eq_ok hK hu
  | ne => exact ne_ok hK hu
  | lt =>
    refine cmpI_ok op_lt fun a b hm w hm' e => ?_
    cases a with
    | int i => cases b with
      | int j => obtain ⟨rfl, rfl⟩ := out_inj (show Out.ok (MV.bl (decide (i < j))) hm = .ok w hm' from e); exact ⟨i, j, rfl, rfl, rfl, rfl⟩
      | _ => cases e
    | _ => cases b <;> cases e
  | le =>
    refine cmpI_ok op_le fun a b hm w hm' e => ?_
    cases a with
    | int i => cases b with
      | int j => obtain ⟨rfl, rfl⟩ := out_inj (show Out.ok (MV.bl (decide (i ≤ j))) hm = .ok w hm' from e); exact ⟨i, j, rfl, rfl, rfl, rfl⟩
      | _ => cases e
    | _ => cases b <;> cases e
  | gt =>
    refine cmpI_ok op_gt fun a b hm w hm' e => ?_
    cases a with
    | int i => cases b with
      | int j => obtain ⟨rfl, rfl⟩ := out_inj (show Out.ok (MV.bl (decide (j < i))) hm = .ok w hm' from e); exact ⟨i, j, rfl, rfl, rfl, rfl⟩
      | _ => cases e
    | _ => cases b <;> cases e
  | ge =>
    refine cmpI_ok op_ge fun a b hm w hm' e => ?_
    cases a with
    | int i => cases b with
      | int j => obtain ⟨rfl, rfl⟩ := out_inj (show Out.ok (MV.bl (decide (j ≤ i))) hm = .ok w hm' from e); exact ⟨i, j, rfl, rfl, rfl, rfl⟩
      | _ => cases e
    | _ => cases b <;> cases e
  | in_ =>
    intro pins s σ H x y v u Q I rx ry h
    obtain ⟨Av, β, hm, a, b, w, hm', hr, ra, rb, e, k⟩ := h
    cases a <;> cases b <;> cases e
  | ni =>
    intro pins s σ H x y v u Q I rx ry h
    obtain ⟨Av, β, hm, a, b, w, hm', hr, ra, rb, e, k⟩ := h
    cases a <;> cases b <;> cases e
end

/-! ### in -/
section
variable {T : Tb} {L : Addr → Prop} {β : List Addr} {H : Hp}
theorem RV.flat {m : MV} {x : V} (r : RV T L β H m x) (h : flat m = true) : flatV x = true := by
  cases r <;> first | rfl | cases h
theorem RVs.flat : ∀ {l : List MV} {xs : List V}, RVs T L β H l xs → l.all Mi.flat = true → xs.all flatV = true
  | _, _, .nil, _ => rfl
  | _, _, .cons a b, h => by
    simp only [List.all_cons, Bool.and_eq_true] at h ⊢
    exact ⟨a.flat h.1, RVs.flat b h.2⟩
theorem RV.eqF {m n : MV} {x y : V} (r : RV T L β H m x) (r2 : RV T L β H n y) (h : Mi.flat m = true) (h2 : Mi.flat n = true) : eqV x y = Mi.eqF m n := by
  cases r <;> first | (cases h; done) | skip
  all_goals (cases r2 <;> first | (cases h2; done) | rfl)
theorem RVs.anyF {a : MV} {y : V} (r2 : RV T L β H a y) (h2 : Mi.flat a = true) : ∀ {l : List MV} {xs : List V}, RVs T L β H l xs → l.all Mi.flat = true → (xs.any fun z => eqV z y) = l.any fun z => Mi.eqF z a
  | _, _, .nil, _ => rfl
  | _, _, .cons a b, h => by
    simp only [List.all_cons, Bool.and_eq_true] at h
    simp only [List.any_cons]
    rw [a.eqF r2 h.1 h2, RVs.anyF r2 h2 b h.2]
end
theorem inT_some {a : MV} {l : List MV} {k : Bool} (h : inT a l = some k) : flat a = true ∧ l.all flat = true ∧ k = l.any fun y => eqF y a := by
  unfold inT at h
  split at h
  · rename_i hc
    have hc := Bool.and_eq_true_iff.mp hc
    cases h
    exact ⟨hc.1, hc.2, rfl⟩
  · cases h
theorem inL_some {a : MV} {l : List MV} {k : Bool} (h : inL a l = some k) : ∃ d ds, a.pd = some d ∧ pdL l = some ds ∧ SeqAt.shaped d = true ∧ SeqAt.shaped (.list ds) = true ∧ k = ds.any fun z => PyData.eqv z d := by
  unfold inL at h
  split at h
  · rename_i d ds h1 h2
    split at h
    · rename_i hc
      have hc := Bool.and_eq_true_iff.mp hc
      cases h
      exact ⟨d, ds, h1, h2, hc.1, hc.2, rfl⟩
    · cases h
  · cases h

/-- what the written tables hold -/
structure KdOk (T : Tb) (w : World) : Prop where
  at_ : ∀ (j : Nat) (t : List (Str × MV)), T.G.kds[j]? = some t → ∃ es n, KDict T.K w (T.ka j) es n
  none : ∀ (j : Nat) (t : List (Str × MV)) (z : Str), T.G.kds[j]? = some t → t.lookup z = none → PySem.W.nsIn T.K (T.ka j) z = some none
  some : ∀ (j : Nat) (t : List (Str × MV)) (z : Str) (m : MV), T.G.kds[j]? = some t → t.lookup z = some m → ∃ (i : Int) (u : Tok), m = .int i ∧ PySem.W.nsIn T.K (T.ka j) z = some (some (.int i u))

/-! ### keys that are tuples -/
section
variable {X : Cx} {pins : List (Addr × Obj)} {σ : L2.St} {H : Hp} {s : Shared} {T : Tb} {L : Addr → Prop} {β : List Addr}
mutual
theorem RV.key (I : Inv X pins σ H s) (hK : X.K = T.K) : ∀ {m : MV} {x : V} {u : Value} {q : NestedKey}, RV T L β H m x → RelV x u → m.nk = some q → NestedIs s.heap q u
  | _, _, u, q, .non, r, e => by simp only [MV.nk, Option.some.injEq] at e; subst e; cases r; exact .none
  | _, _, u, q, .bl b, r, e => by simp only [MV.nk, Option.some.injEq] at e; subst e; cases r; exact .bool rfl
  | _, _, u, q, .int i, r, e => by simp only [MV.nk, Option.some.injEq] at e; subst e; obtain ⟨t, rfl⟩ := r; exact .int i t
  | _, _, u, q, .str z, r, e => by simp only [MV.nk, Option.some.injEq] at e; subst e; obtain ⟨t, rfl⟩ := r; exact .text z t
  | _, _, u, q, .tup h n rr, r, e => by
    simp only [MV.nk, Option.map_eq_some_iff] at e
    obtain ⟨ks, e1, rfl⟩ := e
    cases r
    obtain ⟨its, rv, ⟨o, ho, hc, k, hd⟩, _⟩ := I.tuple (.inl h)
    exact .tup ho hc hd (by simpa using RVs.key I hK rr rv e1)
  | _, _, u, q, .tupK h rr, r, e => by
    simp only [MV.nk, Option.map_eq_some_iff] at e
    obtain ⟨ks, e1, rfl⟩ := e
    cases r
    obtain ⟨its, rv, ⟨o, ho, hc, k, hd⟩, _⟩ := I.tuple (show SqT X.K H _ _ from .inr (by rw [hK]; exact h))
    exact .tup ho hc hd (by simpa using RVs.key I hK rr rv e1)
  | _, _, _, _, .lst _ _ _, _, e => by simp only [MV.nk] at e; cases e
  | _, _, _, _, .scr _ _ _, _, e => by simp only [MV.nk] at e; cases e
  | _, _, _, _, .scrK _ _, _, e => by simp only [MV.nk] at e; cases e
  | _, _, _, _, .obj _ _ _ _ _, _, e => by simp only [MV.nk] at e; cases e
  | _, _, _, _, .loc _, _, e => by simp only [MV.nk] at e; cases e
  | _, _, _, _, .fn _, _, e => by simp only [MV.nk] at e; cases e
  | _, _, _, _, .kd _, _, e => by simp only [MV.nk] at e; cases e
theorem RVs.key (I : Inv X pins σ H s) (hK : X.K = T.K) : ∀ {m : List MV} {x : List V} {us : List Value} {q : List NestedKey}, RVs T L β H m x → Vals x us → nkL m = some q → NestedAll s.heap q us
  | _, _, _, q, .nil, .nil, e => by simp only [nkL, Option.some.injEq] at e; subst e; exact .nil
  | _, _, _, q, .cons a b, .cons r t, e => by
    simp only [nkL] at e
    split at e
    · rename_i k ks h1 h2
      cases e
      exact .cons (RV.key I hK a r h1) (RVs.key I hK b t h2)
    · cases e
end
theorem keyT_some {m : MV} {q : NestedKey} (h : keyT m = some q) : (∃ l, m = .tup l) ∧ m.nk = some q ∧ q.depth ≤ 8 := by
  unfold keyT at h
  split at h
  · rename_i l
    split at h
    · rename_i k hk
      split at h
      · rename_i hd
        cases h
        exact ⟨⟨l, rfl⟩, hk, of_decide_eq_true hd⟩
      · cases h
    · cases h
  · cases h
theorem RV.keyIs (I : Inv X pins σ H s) (hK : X.K = T.K) {m : MV} {x : V} {q : NestedKey} (r : RV T L β H m x) (h : keyT m = some q) : ∃ a, x = .ref a ∧ (nestedKind X.prog X.w).is s.heap q a := by
  obtain ⟨⟨l, rfl⟩, h1, h2⟩ := keyT_some h
  obtain ⟨a, xs, rfl, _, _⟩ := r.tup'
  exact ⟨a, rfl, RV.key I hK r rfl h1, h2⟩
theorem REs.keys (I : Inv X pins σ H s) (hK : X.K = T.K) : ∀ {kvs : List (MV × MV)} {xs : List (NestedKey × Addr × Value)}, REs T L β H kvs xs → ∀ x ∈ xs, (nestedKind X.prog X.w).is s.heap x.1 x.2.1
  | _, _, .nil, x, h => by cases h
  | _, _, .cons k a b r t, x, h => by
    rcases List.mem_cons.mp h with rfl | h
    · obtain ⟨a', e, q⟩ := RV.keyIs I hK a k
      cases e
      exact q
    · exact REs.keys I hK t x h
theorem REs.at : ∀ {kvs : List (MV × MV)} {xs : List (NestedKey × Addr × Value)} (q : NestedKey), REs T L β H kvs xs → (atKey xs q = none ∧ lkT kvs q = none) ∨ ∃ m x u b, atKey xs q = some (b, u) ∧ lkT kvs q = some m ∧ RV T L β H m x ∧ RelV x u
  | _, _, q, .nil => .inl ⟨rfl, rfl⟩
  | _, _, q, .cons (q := q') (k := km) (v := vm) (a := a) (x := x) (u := u) k ra rb r t => by
    obtain ⟨_, h1, _⟩ := keyT_some k
    by_cases e : q' = q
    · subst e
      refine .inr ⟨vm, x, u, a, ?_, ?_, rb, r⟩
      · simp [atKey]
      · simp [lkT, h1]
    · have e1 : ¬ (some q' = some q) := fun z => e (Option.some.inj z)
      rcases REs.at q t with ⟨a1, a2⟩ | ⟨m, x', u', b', a1, a2, a3, a4⟩
      · refine .inl ⟨?_, ?_⟩
        · simp only [atKey, List.find?_cons, e, decide_false] at a1 ⊢; exact a1
        · simp only [lkT, List.find?_cons, h1, e1, decide_false] at a2 ⊢; exact a2
      · refine .inr ⟨m, x', u', b', ?_, ?_, a3, a4⟩
        · simp only [atKey, List.find?_cons, e, decide_false] at a1 ⊢; exact a1
        · simp only [lkT, List.find?_cons, h1, e1, decide_false] at a2 ⊢; exact a2
theorem REs.length : ∀ {kvs : List (MV × MV)} {xs : List (NestedKey × Addr × Value)}, REs T L β H kvs xs → kvs.length = xs.length
  | _, _, .nil => rfl
  | _, _, .cons _ _ _ _ t => by rw [List.length_cons, List.length_cons, REs.length t]
theorem REs.append {k v : MV} {q : NestedKey} {a : Addr} {x : V} {u : Value} (hk : keyT k = some q) (ra : RV T L β H k (.ref a)) (rb : RV T L β H v x) (r : RelV x u) : ∀ {kvs : List (MV × MV)} {xs : List (NestedKey × Addr × Value)}, REs T L β H kvs xs → REs T L β H (kvs ++ [(k, v)]) (xs ++ [(q, a, u)])
  | _, _, .nil => .cons hk ra rb r .nil
  | _, _, .cons k' a' b' r' t => .cons k' a' b' r' (REs.append hk ra rb r t)
theorem REs.put {v : MV} {q : NestedKey} {x : V} {u : Value} (rb : RV T L β H v x) (r : RelV x u) : ∀ {kvs : List (MV × MV)} {xs : List (NestedKey × Addr × Value)}, REs T L β H kvs xs → REs T L β H (kvs.map fun p => if p.1.nk = some q then (p.1, v) else p) (xs.map (putAt q u))
  | _, _, .nil => .nil
  | _, _, .cons (q := q') k' a' b' r' t => by
    obtain ⟨_, h1, _⟩ := keyT_some k'
    by_cases e : q' = q
    · subst e
      simp only [List.map_cons, h1, putAt, if_true]
      exact .cons k' a' rb r (REs.put rb r t)
    · have e1 : ¬ (some q' = some q) := fun z => e (Option.some.inj z)
      simp only [List.map_cons, h1, putAt, e1, e, if_false]
      exact .cons k' a' b' r' (REs.put rb r t)
theorem any_lkT : ∀ (kvs : List (MV × MV)) (q : NestedKey), (kvs.any fun p => decide (p.1.nk = some q)) = (lkT kvs q).isSome
  | [], _ => rfl
  | p :: kvs, q => by
    have ih := any_lkT kvs q
    unfold lkT at ih ⊢
    simp only [List.any_cons, List.find?_cons]
    by_cases e : p.1.nk = some q
    · simp [e]
    · simp only [e, decide_false, Bool.false_or]
      exact ih
theorem REs.stored {k v : MV} {q : NestedKey} {a : Addr} {x : V} {u : Value} (hk : keyT k = some q) (ra : RV T L β H k (.ref a)) (rb : RV T L β H v x) (r : RelV x u) {kvs : List (MV × MV)} {xs : List (NestedKey × Addr × Value)} (t : REs T L β H kvs xs) : REs T L β H (putT kvs q k v) (storedH xs q a u) := by
  unfold putT storedH
  rw [any_lkT]
  rcases REs.at q t with ⟨a1, a2⟩ | ⟨m, x', u', b', a1, a2, _, _⟩
  · rw [a1, a2]
    exact REs.append hk ra rb r t
  · rw [a1, a2]
    exact REs.put rb r t
theorem ent_eq (w : World) (P : Program) (x : NestedKey × Addr × Value) : ent (fun q => q.hash w) x = entryOfKey (nestedKind P w) x := rfl
end

section
variable {X : Cx} {T : Tb} {hs : NestedKey → Int} {w : World}
abbrev hsOf (w : World) : NestedKey → Int := fun q => q.hash w
variable {pins : List (Addr × Obj)} {σ : L2.St} {H : Hp} {s : Shared} {Av : Addr → Prop} {β : List Addr} {hm : MH}
/-- a dict of ours in the heap -/
theorem HR.dict (I : Inv X pins σ H s) (hK : X.K = T.K) (h : HR T (hsOf X.w) Av β hm H) {i : Nat} {a : Addr} {kvs : List (MV × MV)} (hi : β[i]? = some a) (ho : hm[i]? = some (.dt kvs)) :
    ∃ xs o, REs T (lv Av β hm) β H kvs xs ∧ s.heap.DictOfH (nestedKind X.prog X.w) a xs ∧ (a == sysModules) = false ∧ H a = some (.ext fun h => h.get? a = some o) ∧ s.heap.get? a = some o ∧ o.ExactDict := by
  obtain ⟨u, hu, r⟩ := h.obj i a _ hi ho (fun z => nomatch z)
  cases r with
  | @dt _ xs es n _ o re nd ed dat ent low =>
    obtain ⟨q, _, _⟩ := (show ObjOk X.prog X.w H s.heap a (.ext fun h => h.get? a = some o) from I.hok a _ hu)
    exact ⟨xs, o, re, ⟨o, es, n, q, ed, dat, by rw [ent]; rfl, REs.keys I hK re, nd⟩, low, hu, q, ed⟩
theorem inG_ok (hK : X.K = T.K) (hw : X.w = w) (kd : KdOk T w) (hu : X.A.units + 65 < cLine) : OpR X (compareOp .In) (rO2 T (hsOf w) (copG T.G .in_)) := by
  subst hw
  intro pins s σ H x y v u Q I rx ry h
  obtain ⟨Av, β, hm, a, b, w', hm', hr, ra, rb, e, k⟩ := h
  cases b with
  | kd j =>
    cases rb
    cases a with
    | str z =>
      cases ra.str'
      cases ht : T.G.kds[j]? with
      | none =>
        have e' : (match T.G.kds[j]? with | some t => Out.ok (MV.bl (t.lookup z).isSome) hm | none => .bad) = .ok w' hm' := e
        rw [ht] at e'; cases e'
      | some t =>
        have e' : (match T.G.kds[j]? with | some t => Out.ok (MV.bl (t.lookup z).isSome) hm | none => .bad) = .ok w' hm' := e
        rw [ht] at e'
        obtain ⟨rfl, rfl⟩ := out_inj e'
        obtain ⟨es, n, D⟩ := kd.at_ j t ht
        rw [← hK] at D
        refine op_in_kd D pins s σ H _ _ v u Q I rx ry ?_
        cases hl : t.lookup z with
        | none =>
          rw [hl] at k
          exact ⟨z, none, rfl, rfl, hK ▸ kd.none j t z ht hl, k.same hr (.bl _)⟩
        | some m =>
          rw [hl] at k
          obtain ⟨i, uu, _, q⟩ := kd.some j t z m ht hl
          exact ⟨z, some (.int i uu), rfl, rfl, hK ▸ q, k.same hr (.bl _)⟩
    | _ => cases e
  | loc d =>
    obtain ⟨da, rfl, hd⟩ := rb.loc'
    have e' : (match hm[d]?, keyT a with | some (.dt kvs), some q => Out.ok (MV.bl (lkT kvs q).isSome) hm | _, _ => .bad) = .ok w' hm' := by cases a <;> exact e
    split at e'
    · rename_i kvs q h1 h2
      obtain ⟨rfl, rfl⟩ := out_inj e'
      obtain ⟨xs, o, re, dk, low, hx, _, _⟩ := hr.dict I hK hd h1
      obtain ⟨ka, rfl, hk⟩ := RV.keyIs I hK ra h2
      cases rx; cases ry
      refine wpAny_in_heap (by show X.A.units + 1 + 8 < cLine; omega) hk low dk ?_
      refine ⟨.bl (lkT kvs q).isSome, H, I.tok _, ?_, k.same hr (.bl _)⟩
      rcases REs.at q re with ⟨a1, a2⟩ | ⟨m, x', u', b', a1, a2, _, _⟩
      · rw [a1, a2]; rfl
      · rw [a1, a2]; rfl
    · cases e'
  | tup l =>
    have e' : (match inT a l with | some k => Out.ok (MV.bl k) hm | none => .bad) = .ok w' hm' := by cases a <;> exact e
    split at e'
    · rename_i k' hk'
      obtain ⟨rfl, rfl⟩ := out_inj e'
      obtain ⟨f1, f2, rfl⟩ := inT_some hk'
      obtain ⟨p, xs, rfl, sq, rr⟩ := rb.tup'
      refine op_in_seq pins s σ H _ _ v u Q I rx ry ⟨p, xs, rfl, .inr (hK ▸ sq), ra.flat f1, rr.flat f2, ?_⟩
      show Q (.bl (inV x xs)) H
      unfold inV
      rw [RVs.anyF ra f1 rr f2]
      exact k.same hr (.bl _)
    · cases e'
  | lst l =>
    have e' : (match inL a l with | some k => Out.ok (MV.bl k) hm | none => .bad) = .ok w' hm' := by cases a <;> exact e
    split at e'
    · rename_i k' hk'
      obtain ⟨rfl, rfl⟩ := out_inj e'
      obtain ⟨d, ds, h1, h2, h3, h4, rfl⟩ := inL_some hk'
      refine op_inD hu pins s σ H _ _ v u Q I rx ry ⟨d, ds, hK ▸ ra.dp h1, hK ▸ rb.dp (by simp [MV.pd, h2]), h3, h4, k.same hr (.bl _)⟩
    · cases e'
  | _ => cases a <;> cases e
theorem niG_ok (hK : X.K = T.K) (hw : X.w = w) (kd : KdOk T w) (hu : X.A.units + 65 < cLine) : OpR X (compareOp .NotIn) (rO2 T (hsOf w) (copG T.G .ni)) := by
  subst hw
  intro pins s σ H x y v u Q I rx ry h
  obtain ⟨Av, β, hm, a, b, w', hm', hr, ra, rb, e, k⟩ := h
  cases b with
  | kd j =>
    cases rb
    cases a with
    | str z =>
      cases ra.str'
      cases ht : T.G.kds[j]? with
      | none =>
        have e' : (match T.G.kds[j]? with | some t => Out.ok (MV.bl (!(t.lookup z).isSome)) hm | none => .bad) = .ok w' hm' := e
        rw [ht] at e'; cases e'
      | some t =>
        have e' : (match T.G.kds[j]? with | some t => Out.ok (MV.bl (!(t.lookup z).isSome)) hm | none => .bad) = .ok w' hm' := e
        rw [ht] at e'
        obtain ⟨rfl, rfl⟩ := out_inj e'
        obtain ⟨es, n, D⟩ := kd.at_ j t ht
        rw [← hK] at D
        refine op_notIn_kd D pins s σ H _ _ v u Q I rx ry ?_
        cases hl : t.lookup z with
        | none =>
          rw [hl] at k
          exact ⟨z, none, rfl, rfl, hK ▸ kd.none j t z ht hl, k.same hr (.bl _)⟩
        | some m =>
          rw [hl] at k
          obtain ⟨i, uu, _, q⟩ := kd.some j t z m ht hl
          exact ⟨z, some (.int i uu), rfl, rfl, hK ▸ q, k.same hr (.bl _)⟩
    | _ => cases e
  | tup l =>
    have e' : (match inT a l with | some k => Out.ok (MV.bl (!k)) hm | none => .bad) = .ok w' hm' := by cases a <;> exact e
    split at e'
    · rename_i k' hk'
      obtain ⟨rfl, rfl⟩ := out_inj e'
      obtain ⟨f1, f2, rfl⟩ := inT_some hk'
      obtain ⟨p, xs, rfl, sq, rr⟩ := rb.tup'
      refine op_notIn_seq pins s σ H _ _ v u Q I rx ry ⟨p, xs, rfl, .inr (hK ▸ sq), ra.flat f1, rr.flat f2, ?_⟩
      show Q (.bl (!inV x xs)) H
      unfold inV
      rw [RVs.anyF ra f1 rr f2]
      exact k.same hr (.bl _)
    · cases e'
  | lst l =>
    have e' : (match inL a l with | some k => Out.ok (MV.bl (!k)) hm | none => .bad) = .ok w' hm' := by cases a <;> exact e
    split at e'
    · rename_i k' hk'
      obtain ⟨rfl, rfl⟩ := out_inj e'
      obtain ⟨d, ds, h1, h2, h3, h4, rfl⟩ := inL_some hk'
      refine op_notInD hu pins s σ H _ _ v u Q I rx ry ⟨d, ds, hK ▸ ra.dp h1, hK ▸ rb.dp (by simp [MV.pd, h2]), h3, h4, k.same hr (.bl _)⟩
    · cases e'
  | _ => cases a <;> cases e
theorem copG_ok (hK : X.K = T.K) (hw : X.w = w) (kd : KdOk T w) (hu : X.A.units + 65 < cLine) (o : Cop) : OpR X (compareOp (coOf o)) (rO2 T (hsOf w) (copG T.G o)) := by
  cases o with
  | in_ => exact inG_ok hK hw kd hu
  | ni => exact niG_ok hK hw kd hu
  | _ => exact cop_ok hK (by omega) _
end
end Mi

namespace Mi
open PySem PySem.Spec PyProof.Rows L2

section
variable {T : Tb} {L : Addr → Prop} {β : List Addr} {H : Hp} {hs : NestedKey → Int} {Av : Addr → Prop} {hm hm' : MH}
theorem RVs.isEmpty {l : List MV} {xs : List V} (r : RVs T L β H l xs) : l.isEmpty = xs.isEmpty := by cases r <;> rfl
theorem RV.truth {m : MV} {x : V} {k : Bool} {K : PySem.W.Frag} (hK : K = T.K) (r : RV T L β H m x) (h : Mi.truth hm m = some k) : TruV K x H k := by
  subst hK
  cases r with
  | non => cases h; rfl
  | bl b => cases h; rfl
  | int i => cases h; rfl
  | tup h1 _ r => cases h; exact .inr (.inl ⟨_, .inl h1, by rw [r.isEmpty]⟩)
  | tupK h1 r => cases h; exact .inr (.inl ⟨_, .inr h1, by rw [r.isEmpty]⟩)
  | lst h1 _ r => cases h; exact .inl ⟨_, .inl (.inl h1), by rw [r.isEmpty]⟩
  | _ => cases h
/-- a numbered list -/
theorem HR.list (h : HR T hs Av β hm H) {i : Nat} {a : Addr} {l : List MV} (hi : β[i]? = some a) (ho : hm[i]? = some (.lst l)) : ∃ xs, H a = some (.lst xs) ∧ RVs T (lv Av β hm) β H l xs := by
  obtain ⟨u, hu, r⟩ := h.obj i a _ hi ho (fun z => nomatch z)
  cases r with
  | lst r => exact ⟨_, hu, r⟩
/-- a sequence that is read -/
theorem asSeq_ok (h : HR T hs Av β hm H) {m : MV} {x : V} {l : List MV} (r : RV T (lv Av β hm) β H m x) (e : asSeq hm m = some l) : ∃ a xs, x = .ref a ∧ (SqL T.K H a xs ∨ SqT T.K H a xs) ∧ RVs T (lv Av β hm) β H l xs := by
  cases m with
  | tup l' => cases e; obtain ⟨a, xs, rfl, s, q⟩ := r.tup'; exact ⟨a, xs, rfl, .inr s, q⟩
  | lst l' => cases e; obtain ⟨a, xs, rfl, s, _, q⟩ := r.lst'; exact ⟨a, xs, rfl, .inl (.inl (.inl s)), q⟩
  | scr l' => cases e; obtain ⟨a, xs, rfl, s, q⟩ := r.scr'; exact ⟨a, xs, rfl, .inl s, q⟩
  | loc i =>
    obtain ⟨a, rfl, hi⟩ := r.loc'
    have e' : (match hm[i]? with | some (.lst l) => some l | _ => none) = some l := e
    split at e'
    · rename_i l' ho
      cases e'
      obtain ⟨xs, s, q⟩ := h.list hi ho
      exact ⟨a, xs, rfl, .inl (.inl (.inl s)), q⟩
    · cases e'
  | _ => cases e
theorem RVs.atI {l : List MV} {xs : List V} (r : RVs T L β H l xs) {k : Int} {v : MV} (h : L2.atI l k = some v) : ∃ x, L2.atI xs k = some x ∧ RV T L β H v x := by
  unfold L2.atI at h ⊢
  rw [← r.length]
  cases e : ixN l.length k with
  | none => rw [e] at h; cases h
  | some j =>
    rw [e] at h
    exact r.get h
end

section
variable {X : Cx} {T : Tb} {w : World}
theorem getIx_ok (hK : X.K = T.K) (hw : X.w = w) (kd : KdOk T w) (hu : X.A.units + 65 < cLine) : IxR X (rO2 T (hsOf w) (getIx T.G)) := by
  subst hw
  intro value slice pins s σ H x y v u Q I rx ry h hsub
  obtain ⟨Av, β, hm, a, b, w', hm', hr, ra, rb, e, k⟩ := h
  have seq : ∀ i : Int, b = .int i → (match asSeq hm a with | some l => (match atI l i with | some v => Out.ok v hm | none => .bad) | none => .bad) = .ok w' hm' → wpAny (model X.prog X.w) X.A (subscriptTail value slice v u) (EP X pins σ Q) X.xe s := by
    intro i hb e'
    subst hb
    cases rb.int'
    split at e'
    · rename_i l hl
      split at e'
      · rename_i m hat
        obtain ⟨rfl, rfl⟩ := out_inj e'
        obtain ⟨p, xs, rfl, sq, q⟩ := asSeq_ok hr ra hl
        obtain ⟨z, hz, rz⟩ := q.atI hat
        rw [← hK] at sq
        rcases sq with sq | sq
        · exact ix_list value slice pins s σ H _ _ v u Q I rx ry ⟨p, xs, i, z, rfl, rfl, sq, hz, k.same hr rz⟩ hsub
        · exact ix_tup value slice pins s σ H _ _ v u Q I rx ry ⟨p, xs, i, z, rfl, rfl, sq, hz, k.same hr rz⟩ hsub
      · cases e'
    · cases e'
  cases a with
  | kd j =>
    cases ra
    cases b with
    | str z =>
      cases rb.str'
      have e' : (match atKd T.G.kds j z with | some v => Out.ok v hm | none => .bad) = .ok w' hm' := e
      split at e'
      · rename_i m hat
        obtain ⟨rfl, rfl⟩ := out_inj e'
        unfold atKd at hat
        split at hat
        · rename_i t ht
          obtain ⟨es, n, D⟩ := kd.at_ j t ht
          rw [← hK] at D
          obtain ⟨i, uu, rfl, q⟩ := kd.some j t z m ht hat
          exact ix_kdict value slice pins s σ H _ _ v u Q I rx ry ⟨T.ka j, z, .int i, rfl, rfl, ⟨es, n, .int i uu, D.at_, D.lit, hK ▸ q, ⟨uu, rfl⟩⟩, k.same hr (.int i)⟩ hsub
        · cases hat
      · cases e'
    | int i => cases e
    | _ => cases e
  | loc d =>
    cases b with
    | int i => exact seq i rfl e
    | tup l =>
      obtain ⟨da, rfl, hd⟩ := ra.loc'
      have e' : (match hm[d]?, keyT (.tup l) with
        | some (.dt kvs), some q => (match lkT kvs q with
          | some v => Out.ok v hm
          | none => .bad)
        | _, _ => .bad) = .ok w' hm' := e
      split at e'
      · rename_i kvs q h1 h2
        split at e'
        · rename_i m hl
          obtain ⟨rfl, rfl⟩ := out_inj e'
          obtain ⟨xs, o, re, dk, low, hx, _, _⟩ := hr.dict I hK hd h1
          obtain ⟨ka, rfl, hk⟩ := RV.keyIs I hK rb h2
          cases rx; cases ry
          rcases REs.at q re with ⟨a1, a2⟩ | ⟨m', x', u', b', a1, a2, a3, a4⟩
          · rw [a2] at hl; cases hl
          · rw [a2] at hl; cases hl
            exact tail_any dk.typeIs slot_dict_getitem.lookup (wpAny_getItem_heap (by show X.A.units + 1 + 8 < cLine; omega) hk dk a1 ⟨x', H, I.tok _, a4, k.same hr a3⟩) hsub
        · cases e'
      · cases e'
    | _ => cases e
  | _ =>
    cases b with
    | int i => exact seq i rfl e
    | _ => cases e
end

/-! ### stores to items -/
def rSet (T : Tb) (hs : NestedKey → Int) : TSet := fun o i v H Q => ∃ (Av : Addr → Prop) (β : List Addr) (hm : MH) (a b m : MV) (hm' : MH),
  HR T hs Av β hm H ∧ RV T (lv Av β hm) β H a o ∧ RV T (lv Av β hm) β H b i ∧ RV T (lv Av β hm) β H m v ∧ setIx a b m hm = some hm' ∧ ∀ H', Ex' β hm H β hm' H' → HR T hs Av β hm' H' → Q H'
section
variable {X : Cx} {T : Tb} {w : World}
theorem setIx_ok (hK : X.K = T.K) (hw : X.w = w) (hu : X.A.units + 65 < cLine) : PSet X (rSet T (hsOf w)) := by
  subst hw
  intro pins s σ H o i v ov iv u Q I ro ri rv h
  obtain ⟨Av, β, hm, a, b, m, hm', hr, ra, rb, rm, e, k⟩ := h
  cases a with
  | loc d =>
    obtain ⟨da, rfl, hd⟩ := ra.loc'
    have e' := e
    unfold setIx at e'
    dsimp only at e'
    split at e'
    · rename_i l hl
      obtain ⟨xs, s1, q1⟩ := hr.list hd hl
      split at e'
      · rename_i k'
        cases rb.int'
        split at e'
        · rename_i j hj
          have e2 := Option.some.inj e'
          subst e2
          have ew := Ex'.write (u := .lst (xs.set j v)) (o' := .lst (l.set j m)) hr hd hl (fun z => nomatch z)
          refine set_list pins s σ H _ _ v ov iv u Q I ro ri rv ⟨da, xs, k', j, rfl, rfl, s1, by rw [← q1.length]; exact hj, k _ ew (hr.write hd hl (fun z => nomatch z) (.lst ?_))⟩
          exact (q1.set rm j).mono ew
        · cases e'
      · cases e'
    · rename_i kvs hl
      split at e'
      · rename_i q hq
        split at e'
        · rename_i hz
          have e2 := Option.some.inj e'
          subst e2
          have hz := of_decide_eq_true hz
          obtain ⟨xs, ob, re, dk, low, hx, hob, ed⟩ := hr.dict I hK hd hl
          obtain ⟨ka, rfl, hk⟩ := RV.keyIs I hK rb hq
          cases ro; cases ri
          refine wpAny_setItem_heap (by show X.A.units + 1 + 8 < cLine; omega) hk dk (fun h' dk' sb => ?_) (by rw [← re.length]; exact n100 (by omega))
          obtain ⟨ob', es', ep', ho', ed', dat', ent', _, nd'⟩ := dk'
          have ew := Ex'.write (u := .ext fun h => h.get? da = some ob') (o' := .dt (putT kvs q b m)) hr hd hl (fun z => nomatch z)
          refine ⟨_, I.write (x := da) (e := da) (o := .ext fun h => h.get? da = some ob') (by rw [hx]; trivial) (.inl rfl) (fun c w hc z => (sb.2 c hc).trans z) ⟨ob', ho'⟩ ⟨ho', ⟨ob', ho'⟩, fun h1 h2 z1 z2 => z2 _ z1⟩, k _ ew (hr.write hd hl (fun z => nomatch z) ?_)⟩
          exact .dt ((re.stored hq rb rm rv).imp fun _ _ z => z.mono ew) nd' ed' dat' (by rw [ent']; rfl) low
        · cases e'
      · cases e'
    · cases e'
  | _ => cases e
end

/-! ### slices -/
theorem cutM_len (l : List MV) (lo hi : Option Int) : (cutM l lo hi).length ≤ l.length := by
  unfold cutM
  rw [List.length_take, List.length_drop]
  omega
section
variable {T : Tb} {L : Addr → Prop} {β : List Addr} {H : Hp}
theorem RVs.cut {l : List MV} {xs : List V} (r : RVs T L β H l xs) (lo hi : Option Int) : RVs T L β H (cutM l lo hi) (cutV xs lo hi) := by
  unfold cutM cutV
  rw [r.length]
  exact (r.drop _).take _
theorem cut_all {l : List MV} {lo hi : Option Int} (h : HT.sIx l.length 0 lo = 0 ∧ HT.sIx l.length l.length hi = l.length) : cutM l lo hi = l := by
  unfold cutM
  rw [h.1, h.2]
  simp
end
def rSl (T : Tb) (hs : NestedKey → Int) : V → Option Int → Option Int → Hp → VK → Prop := fun x lo hi H Q => ∃ (Av : Addr → Prop) (β : List Addr) (hm : MH) (a v : MV) (hm' : MH),
  HR T hs Av β hm H ∧ RV T (lv Av β hm) β H a x ∧ slcV a lo hi hm = .ok v hm' ∧ Kp T hs Av β hm H v hm' Q
section
variable {X : Cx} {T : Tb} {hs : NestedKey → Int}
theorem slc_ok (hK : X.K = T.K) : SlR X (rSl T hs) := by
  intro pins s σ H x v vl vu lo hi sl Q I rx hsl pl pu h
  obtain ⟨Av, β, hm, a, m, hm', hr, ra, e, k⟩ := h
  cases a with
  | tup l =>
    obtain ⟨rfl, rfl⟩ := out_inj (show Out.ok (MV.tup (cutM l lo hi)) hm = .ok m hm' from e)
    obtain ⟨p, xs, rfl, sq, q⟩ := ra.tup'
    rw [← hK] at sq
    refine sl_tupA pins s σ H _ v vl vu lo hi sl Q I rx hsl pl pu ⟨p, xs, rfl, sq, fun hc => ?_, fun _ p' hp => k.tup hr (q.cut lo hi) hp⟩
    rw [← q.length] at hc
    rw [cut_all hc] at k
    exact k.same hr ra
  | lst l =>
    obtain ⟨rfl, rfl⟩ := out_inj (show Out.ok (MV.lst (cutM l lo hi)) hm = .ok m hm' from e)
    obtain ⟨p, xs, rfl, sq, _, q⟩ := ra.lst'
    exact sl_list pins s σ H _ v vl vu lo hi sl Q I rx hsl pl pu ⟨p, xs, rfl, .inl (.inl sq), fun p' hp => k.lst hr (q.cut lo hi) hp⟩
  | scr l =>
    obtain ⟨rfl, rfl⟩ := out_inj (show Out.ok (MV.lst (cutM l lo hi)) hm = .ok m hm' from e)
    obtain ⟨p, xs, rfl, sq, q⟩ := ra.scr'
    rw [← hK] at sq
    exact sl_list pins s σ H _ v vl vu lo hi sl Q I rx hsl pl pu ⟨p, xs, rfl, sq, fun p' hp => k.lst hr (q.cut lo hi) hp⟩
  | loc i =>
    obtain ⟨p, rfl, hi'⟩ := ra.loc'
    have e' : (match hm[i]? with | some (.lst l) => Out.ok (MV.lst (cutM l lo hi)) hm | _ => .bad) = .ok m hm' := e
    split at e'
    · rename_i l ho
      obtain ⟨rfl, rfl⟩ := out_inj e'
      obtain ⟨xs, sq, q⟩ := hr.list hi' ho
      exact sl_list pins s σ H _ v vl vu lo hi sl Q I rx hsl pl pu ⟨p, xs, rfl, .inl (.inl sq), fun p' hp => k.lst hr (q.cut lo hi) hp⟩
    · cases e'
  | _ => cases e
end

/-! ### built-ins -/
def bval : Blt → Value
  | .len => .builtin "len" | .int => .type "int" | .list => .type "list" | .tuple => .type "tuple" | .abs => .builtin "abs" | .sum => .builtin "sum" | .all => .builtin "all" | .any => .builtin "any"
  | .min => .builtin "min" | .max => .builtin "max" | .divmod => .builtin "divmod" | .sorted => .builtin "sorted" | .repr => .builtin "repr"
def rB (T : Tb) (hs : NestedKey → Int) (f : List MV → MH → Out MV) : List V → Hp → VK → Prop := fun xs H Q => ∃ (Av : Addr → Prop) (β : List Addr) (hm : MH) (l : List MV) (v : MV) (hm' : MH),
  HR T hs Av β hm H ∧ RVs T (lv Av β hm) β H l xs ∧ f l hm = .ok v hm' ∧ Kp T hs Av β hm H v hm' Q
section
variable {T : Tb} {L : Addr → Prop} {β : List Addr} {H : Hp}
theorem RVs.one' {m : MV} {xs : List V} (r : RVs T L β H [m] xs) : ∃ x, xs = [x] ∧ RV T L β H m x := by
  cases r with
  | cons a b => cases b; exact ⟨_, rfl, a⟩
theorem RVs.two' {m n : MV} {xs : List V} (r : RVs T L β H [m, n] xs) : ∃ x y, xs = [x, y] ∧ RV T L β H m x ∧ RV T L β H n y := by
  cases r with
  | cons a b =>
    obtain ⟨y, rfl, q⟩ := b.one'
    exact ⟨_, y, rfl, a, q⟩
theorem RVs.ints : ∀ {l : List MV} {xs : List V} {ns : List Int}, RVs T L β H l xs → intsM l = some ns → xs = ns.map V.int ∧ l = ns.map MV.int
  | _, _, ns, .nil, e => by cases e; exact ⟨rfl, rfl⟩
  | _, _, ns, .cons (m := m) (ms := ms) a b, e => by
    cases m with
    | int i =>
      have e' : (intsM ms).map (i :: ·) = some ns := e
      cases h : intsM ms with
      | none => rw [h] at e'; cases e'
      | some ks =>
        rw [h] at e'; cases e'
        cases a.int'
        obtain ⟨h1, h2⟩ := RVs.ints b h
        exact ⟨by rw [h1]; rfl, by rw [h2]; rfl⟩
    | _ => cases e
theorem RVs.ofInts : ∀ ns : List Int, RVs T L β H (ns.map MV.int) (ns.map V.int)
  | [] => .nil
  | n :: ns => .cons (.int n) (RVs.ofInts ns)
theorem RVs.bools : ∀ {l : List MV} {xs : List V} {ns : List Bool}, RVs T L β H l xs → boolsM l = some ns → xs = ns.map V.bl
  | _, _, ns, .nil, e => by cases e; rfl
  | _, _, ns, .cons (m := m) (ms := ms) a b, e => by
    cases m with
    | bl i =>
      have e' : (boolsM ms).map (i :: ·) = some ns := e
      cases h : boolsM ms with
      | none => rw [h] at e'; cases e'
      | some ks =>
        rw [h] at e'; cases e'
        cases a.bl'
        rw [RVs.bools b h]
        rfl
    | _ => cases e
end
/-! #### sorting -/
theorem insI_perm (a : Int) : ∀ l : List Int, (insI a l).Perm (a :: l)
  | [] => .refl _
  | b :: l => by
    unfold insI
    split
    · exact .refl _
    · exact ((insI_perm a l).cons b).trans (.swap a b l)
theorem sortI_perm : ∀ l : List Int, (sortI l).Perm l
  | [] => .refl _
  | a :: l => (insI_perm a (sortI l)).trans ((sortI_perm l).cons a)
theorem insI_pair (a : Int) : ∀ l : List Int, l.Pairwise (· ≤ ·) → (insI a l).Pairwise (· ≤ ·)
  | [], _ => by simp [insI]
  | b :: l, h => by
    unfold insI
    rw [List.pairwise_cons] at h
    split
    · rename_i q
      refine List.pairwise_cons.mpr ⟨fun c hc => ?_, List.pairwise_cons.mpr h⟩
      rcases List.mem_cons.mp hc with rfl | hc
      · exact q
      · exact Int.le_trans q (h.1 c hc)
    · rename_i q
      refine List.pairwise_cons.mpr ⟨fun c hc => ?_, insI_pair a l h.2⟩
      rcases List.mem_cons.mp ((insI_perm a l).mem_iff.mp hc) with rfl | hc
      · omega
      · exact h.1 c hc
theorem sortI_pair : ∀ l : List Int, (sortI l).Pairwise (· ≤ ·)
  | [] => .nil
  | a :: l => insI_pair a _ (sortI_pair l)
def leP (p q : Int × Int) : Bool := decide (p.1 < q.1 ∨ (p.1 = q.1 ∧ p.2 ≤ q.2))
theorem leP_trans (a b c : Int × Int) (h1 : leP a b = true) (h2 : leP b c = true) : leP a c = true := by
  unfold leP at *
  rw [decide_eq_true_eq] at *
  omega
theorem leP_total (a b : Int × Int) : leP a b = true ∨ leP b a = true := by
  unfold leP
  rw [decide_eq_true_eq, decide_eq_true_eq]
  omega
theorem leP_anti (a b : Int × Int) (h1 : leP a b = true) (h2 : leP b a = true) : a = b := by
  unfold leP at *
  rw [decide_eq_true_eq] at *
  exact Prod.ext (by omega) (by omega)
theorem ltPr_not {a b : Int × Int} (h : ltPr b a = false) : leP a b = true := by
  unfold ltPr at h
  unfold leP
  rw [decide_eq_true_eq]
  split at h
  · have := of_decide_eq_false h; omega
  · have := of_decide_eq_false h; omega
theorem ltPr_le {a b : Int × Int} (h : ltPr a b = true) : leP a b = true := by
  unfold ltPr at h
  unfold leP
  rw [decide_eq_true_eq]
  split at h
  · have := of_decide_eq_true h; omega
  · have := of_decide_eq_true h; omega
theorem insP_perm (a : Int × Int) : ∀ l : List (Int × Int), (insP a l).Perm (a :: l)
  | [] => .refl _
  | b :: l => by
    unfold insP
    split
    · exact ((insP_perm a l).cons b).trans (.swap a b l)
    · exact .refl _
theorem sortP_perm : ∀ l : List (Int × Int), (sortP l).Perm l
  | [] => .refl _
  | a :: l => (insP_perm a (sortP l)).trans ((sortP_perm l).cons a)
theorem insP_pair (a : Int × Int) : ∀ l : List (Int × Int), l.Pairwise (fun x y => leP x y = true) → (insP a l).Pairwise (fun x y => leP x y = true)
  | [], _ => by simp [insP]
  | b :: l, h => by
    unfold insP
    rw [List.pairwise_cons] at h
    split
    · rename_i q
      refine List.pairwise_cons.mpr ⟨fun c hc => ?_, insP_pair a l h.2⟩
      rcases List.mem_cons.mp ((insP_perm a l).mem_iff.mp hc) with rfl | hc
      · exact ltPr_le q
      · exact h.1 c hc
    · rename_i q
      have q : ltPr b a = false := by simpa using q
      refine List.pairwise_cons.mpr ⟨fun c hc => ?_, List.pairwise_cons.mpr h⟩
      rcases List.mem_cons.mp hc with rfl | hc
      · exact ltPr_not q
      · exact leP_trans _ _ _ (ltPr_not q) (h.1 c hc)
theorem sortP_pair : ∀ l : List (Int × Int), (sortP l).Pairwise (fun x y => leP x y = true)
  | [] => .nil
  | a :: l => insP_pair a _ (sortP_pair l)
theorem sortP_eq (l : List (Int × Int)) : sortP l = l.mergeSort leP := by
  refine (sortP_perm l).trans (List.mergeSort_perm l leP).symm |>.eq_of_pairwise (fun x y _ _ h1 h2 => leP_anti x y h1 h2) (sortP_pair l) ?_
  exact List.pairwise_mergeSort (le := leP) (fun a b c h1 h2 => leP_trans a b c h1 h2) (fun a b => Bool.or_eq_true_iff.mpr (leP_total a b)) l
end Mi

namespace Mi
open PySem PySem.Spec PyProof.Rows L2

section
variable {T : Tb} {L : Addr → Prop} {β : List Addr} {H : Hp}
theorem REs.keysRV : ∀ {kvs : List (MV × MV)} {xs : List (NestedKey × Addr × Value)}, REs T L β H kvs xs → RVs T L β H (kvs.map (·.1)) (xs.map fun x => V.ref x.2.1)
  | _, _, .nil => .nil
  | _, _, .cons _ a _ _ t => .cons a (REs.keysRV t)
end
theorem vals_refs : ∀ {us : List Value} {xs : List (NestedKey × Addr × Value)}, us.length = xs.length → (∀ (j : Nat) (v : Value), us[j]? = some v → ∃ y, xs[j]? = some y ∧ v = .ref y.2.1) → Vals (xs.map fun x => V.ref x.2.1) us
  | [], [], _, _ => .nil
  | [], _ :: _, h, _ => by simp at h
  | _ :: _, [], h, _ => by simp at h
  | u :: us, x :: xs, h, q => by
    obtain ⟨y, h1, h2⟩ := q 0 u rfl
    have e : x = y := Option.some.inj h1
    subst e
    exact .cons h2 (vals_refs (by simpa using h) fun j v e => q (j + 1) v (by simpa using e))
/-- every item's truth -/
theorem bools_at {bs : List Bool} {us : List Value} (r : Vals (bs.map V.bl) us) {i : Nat} {v : Value} (h : us[i]? = some v) : v = .bool (bs.getD i false) := by
  have e : us = bs.map Value.bool := r.bls
  subst e
  rw [List.getElem?_map] at h
  cases q : bs[i]? with
  | none => rw [q] at h; cases h
  | some b =>
    rw [q] at h
    cases h
    rw [List.getD_eq_getElem?_getD, q]
    rfl
theorem range_all (bs : List Bool) : ((List.range bs.length).all fun i => bs.getD i false) = bs.all id := by
  rw [Bool.eq_iff_iff, List.all_eq_true, List.all_eq_true]
  constructor
  · intro h b hb
    obtain ⟨i, hi, e⟩ := List.getElem_of_mem hb
    have := h i (List.mem_range.mpr hi)
    rw [List.getD_eq_getElem?_getD, List.getElem?_eq_getElem hi] at this
    rw [← e]
    exact this
  · intro h i hi
    have hi := List.mem_range.mp hi
    rw [List.getD_eq_getElem?_getD, List.getElem?_eq_getElem hi]
    exact h _ (List.getElem_mem hi)
theorem range_any (bs : List Bool) : ((List.range bs.length).any fun i => bs.getD i false) = bs.any id := by
  rw [Bool.eq_iff_iff, List.any_eq_true, List.any_eq_true]
  constructor
  · rintro ⟨i, hi, h⟩
    have hi := List.mem_range.mp hi
    rw [List.getD_eq_getElem?_getD, List.getElem?_eq_getElem hi] at h
    exact ⟨_, List.getElem_mem hi, h⟩
  · rintro ⟨b, hb, h⟩
    obtain ⟨i, hi, e⟩ := List.getElem_of_mem hb
    refine ⟨i, List.mem_range.mpr hi, ?_⟩
    rw [List.getD_eq_getElem?_getD, List.getElem?_eq_getElem hi]
    rw [← e] at h
    exact h

section
variable {X : Cx} {T : Tb} {w : World}
/-- a list of bools is walked by all, any -/
theorem allB_ok (hc : X.calm = true) : CallR X (.builtin "all") (fun xs H Q => ∃ (a : Addr) (bs : List Bool), xs = [.ref a] ∧ SqL X.K H a (bs.map V.bl) ∧ Q (.bl (bs.all id)) H) := by
  intro pins s σ H xs us Q I r h
  obtain ⟨a, bs, rfl, hs, q⟩ := h
  obtain ⟨its, rv, hl, hz⟩ := I.list hs
  rw [Vals.ref1 r]
  have hh := I.ok.hd hc
  refine PySem.call_all_walk (wpAny_pyIter_list hl.isList ?_)
  have hlt : a < s.heap.objs.size := by obtain ⟨o, n, e, _⟩ := hl; exact Heap.lt_size e
  have hne : a ≠ s.heap.objs.size := Nat.ne_of_lt hlt
  obtain ⟨o, e1, e2, n, e4⟩ := hl.isList
  refine ⟨s.heap.objs.size, _, _, _, _, _, fun i => bs.getD i false, rfl, Walks.list (A := X.A.in1) (show X.A.in1.handled = none from hh) _ a hne its.toArray, ⟨⟨_, Heap.get?_push_size _ rfl, rfl, rfl⟩, ⟨o, Heap.get?_push_of_some _ e1, e2, n, e4⟩⟩, fun i v s' Q' E' hp hq => ?_, fun h' tk hk => ?_⟩
  · have e : v = .bool (bs.getD i false) := bools_at rv (by simpa using hp)
    rw [e]
    exact wpAny_truthy_bool hq
  · have hlen : its.toArray.size = bs.length := by have := rv.length; simp at this; simp [this]
    rw [hlen, range_all]
    exact ⟨.bl _, H, I.kept (t' := tk) fun b u e => hk b u (by simpa using Nat.ne_of_lt (Heap.lt_size e)) (Heap.get?_push_of_some _ e), rfl, q⟩
theorem anyB_ok (hc : X.calm = true) : CallR X (.builtin "any") (fun xs H Q => ∃ (a : Addr) (bs : List Bool), xs = [.ref a] ∧ SqL X.K H a (bs.map V.bl) ∧ Q (.bl (bs.any id)) H) := by
  intro pins s σ H xs us Q I r h
  obtain ⟨a, bs, rfl, hs, q⟩ := h
  obtain ⟨its, rv, hl, hz⟩ := I.list hs
  rw [Vals.ref1 r]
  have hh := I.ok.hd hc
  refine PySem.call_any_walk (wpAny_pyIter_list hl.isList ?_)
  have hlt : a < s.heap.objs.size := by obtain ⟨o, n, e, _⟩ := hl; exact Heap.lt_size e
  have hne : a ≠ s.heap.objs.size := Nat.ne_of_lt hlt
  obtain ⟨o, e1, e2, n, e4⟩ := hl.isList
  refine ⟨s.heap.objs.size, _, _, _, _, _, fun i => bs.getD i false, rfl, Walks.list (A := X.A.in1) (show X.A.in1.handled = none from hh) _ a hne its.toArray, ⟨⟨_, Heap.get?_push_size _ rfl, rfl, rfl⟩, ⟨o, Heap.get?_push_of_some _ e1, e2, n, e4⟩⟩, fun i v s' Q' E' hp hq => ?_, fun h' tk hk => ?_⟩
  · have e : v = .bool (bs.getD i false) := bools_at rv (by simpa using hp)
    rw [e]
    exact wpAny_truthy_bool hq
  · have hlen : its.toArray.size = bs.length := by have := rv.length; simp at this; simp [this]
    rw [hlen, range_any]
    exact ⟨.bl _, H, I.kept (t' := tk) fun b u e => hk b u (by simpa using Nat.ne_of_lt (Heap.lt_size e)) (Heap.get?_push_of_some _ e), rfl, q⟩
/-- repr of data -/
theorem reprD_ok (hg : X.A.guards = some []) (hu : X.A.units + 66 < cLine) : CallR X (.builtin "repr") (fun xs H Q => ∃ (a : Addr) (d : PyData), xs = [.ref a] ∧ Dp X.K H (.ref a) d ∧ SeqAt.shaped d = true ∧ d.showable = true ∧ d.shown.length ≤ sizeLine ∧ Q (.str d.shown) H) := by
  intro pins s σ H xs us Q I r h
  obtain ⟨a, d, rfl, hd, hsh, hw, hz, q⟩ := h
  rw [Vals.ref1 r]
  obtain ⟨as, rr⟩ := Dp.reads I d (.ref a) (.ref a) hd rfl
  have hdep := SeqAt.depth_of_shaped hsh
  refine repr_of_reads' rr hw (PyData.noDict_hsm (PyData.hasDict_of_canLay d (SeqAt.canLay_of_shaped hsh))) hg (by omega) (fun b o e => e) (fun h' u tk hk => ?_) hz
  exact ⟨.str d.shown, H, I.kept (t' := tk) hk, ⟨u, rfl⟩, q⟩
end
end Mi

namespace Mi
open PySem PySem.Spec PyProof.Rows L2

abbrev PV := Int × Int × V
def leB (a b : PV) : Bool := decide (a.1 < b.1 ∨ (a.1 = b.1 ∧ a.2.1 ≤ b.2.1))
def encP (b : PV) : PyData := .tuple [.int b.1, .int b.2.1]
theorem each_vals {xs : List V} {us : List Value} : ∀ {bs : List PV}, Vals (bs.map (·.2.2)) us → PySem.W.EachIs (fun v (b : PV) => RelV b.2.2 v) us bs := by
  intro bs
  induction bs generalizing us with
  | nil => intro h; cases h; exact .nil
  | cons b bs ih => intro h; cases h with | cons a t => exact .cons a (ih t)
theorem vals_each {us : List Value} : ∀ {bs : List PV}, PySem.W.EachIs (fun v (b : PV) => RelV b.2.2 v) us bs → Vals (bs.map (·.2.2)) us := by
  intro bs
  induction bs generalizing us with
  | nil => intro h; cases h; exact .nil
  | cons b bs ih => intro h; cases h with | cons a t => exact .cons a (ih t)
theorem each_reads {X : Cx} {pins : List (Addr × Obj)} {σ : L2.St} {H : Hp} {s : Shared} (I : Inv X pins σ H s) : ∀ {us : List Value} {bs : List PV}, (∀ b ∈ bs, Dp X.K H b.2.2 (encP b)) → Vals (bs.map (·.2.2)) us → PySem.W.EachIs (fun v (b : PV) => ∃ as, Reads s.heap v (encP b) as) us bs := by
  intro us bs
  induction bs generalizing us with
  | nil => intro _ h; cases h; exact .nil
  | cons b bs ih =>
    intro hd h
    cases h with
    | cons a t => exact .cons (Dp.reads I _ _ _ (hd b (List.mem_cons_self ..)) a) (ih (fun c hc => hd c (List.mem_cons_of_mem _ hc)) t)
theorem encP_depth (b : PV) : (encP b).depth ≤ 3 := by
  show PyData.depth (.tuple [.int b.1, .int b.2.1]) ≤ 3
  simp [PyData.depth, PyData.depthAll]
theorem encP_room {n : Nat} (hu : n + 66 < cLine) (b : PV) : n + 2 + (encP b).depth < cLine := by
  have := encP_depth b
  omega
section
variable {X : Cx} {T : Tb}
theorem sortedP_ok (hu : X.A.units + 66 < cLine) : CallR X (.builtin "sorted") (fun vs H Q => ∃ (a : Addr) (bs : List PV), vs = [.ref a] ∧ SqL X.K H a (bs.map (·.2.2)) ∧ (∀ b ∈ bs, Dp X.K H b.2.2 (encP b)) ∧
    ∀ p, H p = none → Q (.ref p) (upd H p (.lst ((bs.mergeSort leB).map (·.2.2))))) := by
  intro pins s σ H vs us Q I r h
  obtain ⟨a, bs, rfl, hs, hd, q⟩ := h
  obtain ⟨its, rv, hl, hz⟩ := I.list hs
  rw [Vals.ref1 r]
  have hlen : its.length = bs.length := by have := rv.length; simpa using this.symm
  rw [List.length_map] at hz
  refine PySem.W.sorted_data (enc := encP) (bs := bs) (R := fun v (b : PV) => RelV b.2.2 v) (vs := its) hl.isList (each_vals (xs := []) rv) (each_reads I hd rv)
    (PySem.W.AllAlike.of fun _ _ => rfl) (PySem.W.Sortable.tuples fun b => ⟨_, _, rfl⟩) hz (fun b _ => encP_room hu b) fun out ho eo => ?_
  obtain ⟨ep, he'⟩ := PyProof.Rows.sortedAll_at s.heap its out.toArray
  have e1 : PySem.W.dataLe false encP = leB := by
    unfold encP
    rw [PySem.W.dataLe_ii]
    rfl
  rw [e1] at eo
  have hl2 : ((bs.mergeSort leB).map (·.2.2)).length ≤ sizeLine := by
    rw [List.length_map, List.length_mergeSort]; exact hz
  exact ⟨.ref _, upd H (s.heap.objs.size + 1) (.lst ((bs.mergeSort leB).map (·.2.2))), I.laid (t' := s.toks) (fun _ _ => PyProof.Rows.sortedAll_old) (Nat.le_succ _) ⟨hl2, out, ep, vals_each eo, he'⟩, rfl, q _ (I.hok.fresh (Nat.le_succ _))⟩
end
section
variable {T : Tb} {L : Addr → Prop} {β : List Addr} {H : Hp}
theorem RVs.pairs : ∀ {l : List MV} {xs : List V} {ps : List (Int × Int)}, RVs T L β H l xs → pairsM l = some ps → ∃ bs : List PV, xs = bs.map (·.2.2) ∧ ps = bs.map (fun b => (b.1, b.2.1)) ∧ ∀ b ∈ bs, RV T L β H (.tup [.int b.1, .int b.2.1]) b.2.2
  | _, _, ps, .nil, e => by cases e; exact ⟨[], rfl, rfl, by simp⟩
  | _, _, ps, .cons (m := m) (ms := ms) (v := v) a b, e => by
    unfold pairsM at e
    split at e
    · cases ‹_ :: _ = []›
    · rename_i p q l' heq
      cases heq
      rw [Option.map_eq_some_iff] at e
      obtain ⟨ps', e1, rfl⟩ := e
      obtain ⟨bs, h1, h2, h3⟩ := RVs.pairs b e1
      refine ⟨(p, q, v) :: bs, by rw [h1]; rfl, by rw [h2]; rfl, fun c hc => ?_⟩
      rcases List.mem_cons.mp hc with rfl | hc
      · exact a
      · exact h3 c hc
    · cases e
theorem RVs.sorted {bs : List PV} (h : ∀ b ∈ bs, RV T L β H (.tup [.int b.1, .int b.2.1]) b.2.2) : RVs T L β H (bs.map fun b => .tup [.int b.1, .int b.2.1]) (bs.map (·.2.2)) := by
  induction bs with
  | nil => exact .nil
  | cons b bs ih => exact .cons (h b (List.mem_cons_self ..)) (ih fun c hc => h c (List.mem_cons_of_mem _ hc))
end
theorem sortP_map (bs : List PV) : (sortP (bs.map fun b => (b.1, b.2.1))).map (fun p => MV.tup [.int p.1, .int p.2]) = (bs.mergeSort leB).map fun b => .tup [.int b.1, .int b.2.1] := by
  have h : (bs.mergeSort leB).map (fun b => (b.1, b.2.1)) = (bs.map fun b => (b.1, b.2.1)).mergeSort leP := List.map_mergeSort (r := leB) (s := leP) (fun a _ b _ => rfl)
  rw [sortP_eq, ← h, List.map_map]
  rfl
section
variable {X : Cx} {T : Tb} {w : World}
/-- a list that is read by all, any, sum, sorted -/
theorem SqL.of_lst {H : Hp} {a : Addr} {xs : List V} {K : PySem.W.Frag} (h : H a = some (.lst xs)) : SqL K H a xs := .inl (.inl h)
theorem bLen_ok (hK : X.K = T.K) {hs : NestedKey → Int} : CallR X (.builtin "len") (rB T hs bLen) := by
  refine CallR.of call_len fun xs H Q h => ?_
  obtain ⟨Av, β, hm, l, v, hm', hr, rl, e, k⟩ := h
  unfold bLen at e
  split at e
  · obtain ⟨x, rfl, rx⟩ := rl.one'
    cases rx.str'
    obtain ⟨h1, rfl, rfl⟩ := ite_ok e
    exact ⟨_, _, rfl, ⟨n100 (of_decide_eq_true h1), rfl⟩, k.same hr (.int _)⟩
  · obtain ⟨x, rfl, rx⟩ := rl.one'
    split at e
    · rename_i l' h1
      obtain ⟨rfl, rfl⟩ := out_inj e
      obtain ⟨a, ys, rfl, sq, q⟩ := asSeq_ok hr rx h1
      refine ⟨.ref a, ys.length, rfl, ?_, by rw [← q.length]; exact k.same hr (.int _)⟩
      rw [hK]
      rcases sq with sq | sq
      · exact .inl ⟨ys, sq, rfl⟩
      · exact .inr ⟨ys, sq, rfl⟩
    · cases e
  · cases e
theorem bInt_ok {hs : NestedKey → Int} : CallR X (.type "int") (rB T hs bInt) := by
  refine CallR.of call_int1 fun xs H Q h => ?_
  obtain ⟨Av, β, hm, l, v, hm', hr, rl, e, k⟩ := h
  unfold bInt at e
  split at e
  · obtain ⟨x, rfl, rx⟩ := rl.one'
    cases rx.int'
    obtain ⟨rfl, rfl⟩ := out_inj e
    exact .inl ⟨_, rfl, k.same hr (.int _)⟩
  · obtain ⟨x, rfl, rx⟩ := rl.one'
    cases rx.bl'
    obtain ⟨rfl, rfl⟩ := out_inj e
    exact .inr ⟨_, rfl, k.same hr (.int _)⟩
  · cases e
theorem bList_ok (hK : X.K = T.K) (hc : X.calm = true) : CallR X (.type "list") (rB T (hsOf X.w) bList) := by
  intro pins s σ H xs us Q I r h
  obtain ⟨Av, β, hm, l, v, hm', hr, rl, e, k⟩ := h
  have gen : ∀ m l', l = [m] → asSeq hm m = some l' → v = .lst l' → hm = hm' → wpAny (model X.prog X.w) X.A (call (.type "list") us) (EP X pins σ Q) X.xe s := fun m l' hl e1 e2 e3 => by
    subst hl e2 e3
    obtain ⟨x, rfl, rx⟩ := rl.one'
    obtain ⟨a, ys, rfl, sq, q⟩ := asSeq_ok hr rx e1
    exact call_list_of pins s σ H _ us Q I r ⟨a, ys, rfl, by rw [hK]; exact sq, fun p hp => k.lst hr q hp⟩
  unfold bList at e
  split at e
  · rename_i i
    split at e
    · rename_i kvs ho
      obtain ⟨h1, rfl, rfl⟩ := ite_ok e
      obtain ⟨x, rfl, rx⟩ := rl.one'
      obtain ⟨a, rfl, hi⟩ := rx.loc'
      obtain ⟨ys, o, re, dk, low, hx, _, _⟩ := hr.dict I hK hi ho
      obtain ⟨o', es, ep, g1, g2, g3, g4, g5, g6⟩ := dk
      rw [Vals.ref1 r]
      have hsz : es.size = ys.length := size_of_entries g4
      have hlen : kvs.length ≤ 100000 := of_decide_eq_true h1
      refine PySem.W.kdl_call (PySem.KdlSrc.rawDict low) (I.ok.hd hc) ⟨o', g1, g2, g3⟩ (by rw [hsz, ← re.length]; exact n100 hlen) fun h' tk acc' c' hk hS hit => ?_
      have vv : Vals (ys.map fun x => V.ref x.2.1) acc'.toList := by
        refine vals_refs (by rw [Array.length_toList, hit.1, hsz]) fun j u hu' => ?_
        obtain ⟨hlt, e2⟩ := hit.2 j u (by rw [← Array.getElem?_toList]; exact hu')
        have e3 := entry_at g4 j
        rw [Array.getElem?_eq_getElem hlt] at e3
        cases hy : ys[j]? with
        | none => rw [hy] at e3; cases e3
        | some y =>
          rw [hy] at e3
          have e4 := Option.some.inj e3
          exact ⟨y, rfl, by rw [e2, e4]; rfl⟩
      have hfr : H s.heap.objs.size = none := I.hok.fresh (Nat.le_refl _)
      refine ⟨.ref _, upd H s.heap.objs.size (.lst (ys.map fun x => V.ref x.2.1)), I.laid (t' := tk) hk (Nat.le_refl _) ⟨by rw [List.length_map, ← re.length]; exact n100 hlen, acc'.toList, c', vv, hS⟩, rfl, k.lst hr re.keysRV hfr⟩
    · rename_i l' ho
      obtain ⟨rfl, rfl⟩ := out_inj e
      exact gen (.loc i) l' rfl (by show (match hm[i]? with | some (.lst l) => some l | _ => none) = some l'; rw [ho]) rfl rfl
    · cases e
  · obtain ⟨rfl, rfl⟩ := out_inj e
    exact gen (.tup _) _ rfl rfl rfl rfl
  · obtain ⟨rfl, rfl⟩ := out_inj e
    exact gen (.lst _) _ rfl rfl rfl rfl
  · cases e
theorem bTuple_ok (hK : X.K = T.K) {hs : NestedKey → Int} : CallR X (.type "tuple") (rB T hs bTuple) := by
  refine CallR.of call_tuple_of fun xs H Q h => ?_
  obtain ⟨Av, β, hm, l, v, hm', hr, rl, e, k⟩ := h
  unfold bTuple at e
  split at e
  · rename_i m
    obtain ⟨x, rfl, rx⟩ := rl.one'
    split at e
    · rename_i l' h1
      obtain ⟨rfl, rfl⟩ := out_inj e
      cases m with
      | tup l2 =>
        cases h1
        obtain ⟨a, ys, rfl, sq, q⟩ := id rx.tup'
        exact ⟨a, ys, rfl, .inr ⟨by rw [hK]; exact sq, k.same hr rx⟩⟩
      | lst l2 =>
        cases h1
        obtain ⟨a, ys, rfl, sq, _, q⟩ := rx.lst'
        exact ⟨a, ys, rfl, .inl ⟨SqL.of_lst sq, fun p hp => k.tup hr q hp⟩⟩
      | scr l2 =>
        cases h1
        obtain ⟨a, ys, rfl, sq, q⟩ := rx.scr'
        exact ⟨a, ys, rfl, .inl ⟨by rw [hK]; exact sq, fun p hp => k.tup hr q hp⟩⟩
      | loc i =>
        obtain ⟨a, rfl, hi⟩ := rx.loc'
        have h2 : (match hm[i]? with | some (.lst l) => some l | _ => none) = some l' := h1
        split at h2
        · rename_i l3 ho
          cases h2
          obtain ⟨ys, sq, q⟩ := hr.list hi ho
          exact ⟨a, ys, rfl, .inl ⟨SqL.of_lst sq, fun p hp => k.tup hr q hp⟩⟩
        · cases h2
      | _ => cases h1
    · cases e
  · cases e
theorem bAbs_ok {hs : NestedKey → Int} : CallR X (.builtin "abs") (rB T hs bAbs) := by
  refine CallR.of call_abs fun xs H Q h => ?_
  obtain ⟨Av, β, hm, l, v, hm', hr, rl, e, k⟩ := h
  unfold bAbs at e
  split at e
  · obtain ⟨x, rfl, rx⟩ := rl.one'
    cases rx.int'
    obtain ⟨rfl, rfl⟩ := out_inj e
    exact ⟨_, rfl, k.same hr (.int _)⟩
  · cases e
theorem bSum_ok (hc : X.calm = true) {hs : NestedKey → Int} : CallR X (.builtin "sum") (rB T hs bSum) := by
  refine CallR.of (cr_sum hc) fun xs H Q h => ?_
  obtain ⟨Av, β, hm, l, v, hm', hr, rl, e, k⟩ := h
  unfold bSum at e
  split at e
  · split at e
    · rename_i ns h1
      obtain ⟨rfl, rfl⟩ := out_inj e
      obtain ⟨x, rfl, rx⟩ := rl.one'
      obtain ⟨a, ys, rfl, sq, _, q⟩ := rx.lst'
      obtain ⟨rfl, _⟩ := q.ints h1
      exact ⟨a, ns, rfl, SqL.of_lst sq, k.same hr (.int _)⟩
    · cases e
  · cases e
theorem bAll_ok (hc : X.calm = true) {hs : NestedKey → Int} : CallR X (.builtin "all") (rB T hs bAll) := by
  refine CallR.of (allB_ok hc) fun xs H Q h => ?_
  obtain ⟨Av, β, hm, l, v, hm', hr, rl, e, k⟩ := h
  unfold bAll at e
  split at e
  · split at e
    · rename_i ns h1
      obtain ⟨rfl, rfl⟩ := out_inj e
      obtain ⟨x, rfl, rx⟩ := rl.one'
      obtain ⟨a, ys, rfl, sq, _, q⟩ := rx.lst'
      cases q.bools h1
      exact ⟨a, ns, rfl, SqL.of_lst sq, k.same hr (.bl _)⟩
    · cases e
  · cases e
theorem bAny_ok (hc : X.calm = true) {hs : NestedKey → Int} : CallR X (.builtin "any") (rB T hs bAny) := by
  refine CallR.of (anyB_ok hc) fun xs H Q h => ?_
  obtain ⟨Av, β, hm, l, v, hm', hr, rl, e, k⟩ := h
  unfold bAny at e
  split at e
  · split at e
    · rename_i ns h1
      obtain ⟨rfl, rfl⟩ := out_inj e
      obtain ⟨x, rfl, rx⟩ := rl.one'
      obtain ⟨a, ys, rfl, sq, _, q⟩ := rx.lst'
      cases q.bools h1
      exact ⟨a, ns, rfl, SqL.of_lst sq, k.same hr (.bl _)⟩
    · cases e
  · cases e
theorem bMin_ok (hc : X.calm = true) {hs : NestedKey → Int} : CallR X (.builtin "min") (rB T hs bMin) := by
  refine CallR.of (call_min2 hc) fun xs H Q h => ?_
  obtain ⟨Av, β, hm, l, v, hm', hr, rl, e, k⟩ := h
  unfold bMin at e
  split at e
  · obtain ⟨x, y, rfl, rx, ry⟩ := rl.two'
    cases rx.int'; cases ry.int'
    obtain ⟨rfl, rfl⟩ := out_inj e
    exact ⟨_, _, rfl, k.same hr (.int _)⟩
  · cases e
theorem bMax_ok (hc : X.calm = true) {hs : NestedKey → Int} : CallR X (.builtin "max") (rB T hs bMax) := by
  refine CallR.of (call_max2 hc) fun xs H Q h => ?_
  obtain ⟨Av, β, hm, l, v, hm', hr, rl, e, k⟩ := h
  unfold bMax at e
  split at e
  · obtain ⟨x, y, rfl, rx, ry⟩ := rl.two'
    cases rx.int'; cases ry.int'
    obtain ⟨rfl, rfl⟩ := out_inj e
    exact ⟨_, _, rfl, k.same hr (.int _)⟩
  · cases e
theorem bDivmod_ok {hs : NestedKey → Int} : CallR X (.builtin "divmod") (rB T hs bDivmod) := by
  refine CallR.of call_divmodW fun xs H Q h => ?_
  obtain ⟨Av, β, hm, l, v, hm', hr, rl, e, k⟩ := h
  unfold bDivmod at e
  split at e
  · obtain ⟨x, y, rfl, rx, ry⟩ := rl.two'
    cases rx.int'; cases ry.int'
    obtain ⟨h1, rfl, rfl⟩ := ite_ok e
    simp only [Bool.and_eq_true, decide_eq_true_eq] at h1
    exact ⟨_, _, rfl, ⟨h1.1, PyProof.noPylong_small (by omega)⟩, fun p hp => k.tup hr (.cons (.int _) (.cons (.int _) .nil)) hp⟩
  · cases e
theorem bSorted_ok (hK : X.K = T.K) (hu : X.A.units + 66 < cLine) {hs : NestedKey → Int} : CallR X (.builtin "sorted") (rB T hs bSorted) := by
  intro pins s σ H xs us Q I r h
  obtain ⟨Av, β, hm, l, v, hm', hr, rl, e, k⟩ := h
  unfold bSorted at e
  split at e
  · rename_i l'
    obtain ⟨x, rfl, rx⟩ := rl.one'
    obtain ⟨a, ys, rfl, sq, _, q⟩ := rx.lst'
    split at e
    · rename_i ns h1
      obtain ⟨rfl, rfl⟩ := out_inj e
      obtain ⟨rfl, _⟩ := q.ints h1
      refine cr_sortedI pins s σ H _ us Q I r ⟨a, ns, rfl, SqL.of_lst sq, fun ns' p hp hs hn => ?_⟩
      have e2 : ns' = sortI ns := (hp.trans (sortI_perm ns).symm).eq_of_pairwise (fun x y _ _ h1 h2 => Int.le_antisymm h1 h2) hs (sortI_pair ns)
      rw [e2]
      exact k.lst hr (RVs.ofInts _) hn
    · split at e
      · rename_i ps h2
        obtain ⟨rfl, rfl⟩ := out_inj e
        obtain ⟨bs, rfl, rfl, hb⟩ := q.pairs h2
        refine sortedP_ok hu pins s σ H _ us Q I r ⟨a, bs, rfl, SqL.of_lst sq, fun b hb' => ?_, fun p hp => ?_⟩
        · rw [hK]; exact (hb b hb').dp rfl
        · rw [sortP_map] at k
          exact k.lst hr (RVs.sorted fun b hb' => hb b (List.mem_mergeSort.mp hb')) hp
      · cases e
  · cases e
theorem bRepr_ok (hK : X.K = T.K) (hg : X.A.guards = some []) (hu : X.A.units + 66 < cLine) {hs : NestedKey → Int} : CallR X (.builtin "repr") (rB T hs bRepr) := by
  refine CallR.of (reprD_ok hg hu) fun xs H Q h => ?_
  obtain ⟨Av, β, hm, l, v, hm', hr, rl, e, k⟩ := h
  unfold bRepr at e
  split at e
  · obtain ⟨x, rfl, rx⟩ := rl.one'
    obtain ⟨a, ys, rfl, sq, q⟩ := id rx.tup'
    split at e
    · rename_i d hd
      obtain ⟨h1, rfl, rfl⟩ := ite_ok e
      simp only [Bool.and_eq_true, decide_eq_true_eq] at h1
      exact ⟨a, d, rfl, by rw [hK]; exact rx.dp hd, h1.1.1, h1.1.2, n100 h1.2, k.same hr (.str _)⟩
    · cases e
  · obtain ⟨x, rfl, rx⟩ := rl.one'
    obtain ⟨a, ys, rfl, sq, _, q⟩ := id rx.lst'
    split at e
    · rename_i d hd
      obtain ⟨h1, rfl, rfl⟩ := ite_ok e
      simp only [Bool.and_eq_true, decide_eq_true_eq] at h1
      exact ⟨a, d, rfl, by rw [hK]; exact rx.dp hd, h1.1.1, h1.1.2, n100 h1.2, k.same hr (.str _)⟩
    · cases e
  · cases e
theorem blt_ok (hK : X.K = T.K) (hw : X.w = w) (hc : X.calm = true) (hg : X.A.guards = some []) (hu : X.A.units + 66 < cLine) (b : Blt) : CallR X (bval b) (rB T (hsOf w) (blt b)) := by
  subst hw
  cases b with
  | len => exact bLen_ok hK
  | int => exact bInt_ok
  | list => exact bList_ok hK hc
  | tuple => exact bTuple_ok hK
  | abs => exact bAbs_ok
  | sum => exact bSum_ok hc
  | all => exact bAll_ok hc
  | any => exact bAny_ok hc
  | min => exact bMin_ok hc
  | max => exact bMax_ok hc
  | divmod => exact bDivmod_ok
  | sorted => exact bSorted_ok hK hu
  | repr => exact bRepr_ok hK hg hu
end
end Mi

namespace Mi
open PySem PySem.Spec PyProof.Rows L2

/-- a promise without exceptions -/
abbrev SpG := List V → Hp → VK → Prop
def noE : XK := fun _ _ _ => False
/-- what a code may lean on: room, no repr under way -/
structure Roo (k : Nat) (A : Around) : Prop where
  room : Room k A
  gd : A.guards = some []
theorem Roo.mono {j k : Nat} {A : Around} (r : Roo k A) (h : j ≤ k) : Roo j A := ⟨r.room.mono h, r.gd⟩
theorem Roo.deeper {k : Nat} {A : Around} (r : Roo (k + 1) A) (env : Env) : Roo k (A.deeper env) := ⟨r.room.deeper env, r.gd⟩
theorem Roo.make {k : Nat} {A : Around} (r : Roo (k + 1) A) (C : Addr) (us : List Value) (kw : List (Str × Value)) : Roo k (A.under (.builtin "type.__call__" ⟨.ref C :: us, kw⟩)) := by
  refine ⟨r.room.make C us kw, ?_⟩
  have e : Code.guards (.builtin "type.__call__" ⟨.ref C :: us, kw⟩) = [] := by
    unfold Code.guards
    rw [if_neg]
    simp [Code.isGuard, guardIds]
  simp only [Around.under, e, r.gd]
  rfl

structure FnG (P : Program) (w : World) (K : PySem.W.Frag) (mg : Str → Option Value) (base : Heap) (k : Nat) (f : Addr) (fd : FuncData) (ps : List Str) (sp : SpG) : Prop where
  len : ∀ vs H Q, sp vs H Q → vs.length = ps.length
  run : ∀ (A : Around) (outer : List Env) (s : Shared) (H : Hp) (args : Args) (us : List Value) (vs : List V) (Q : VK), Roo k A → Env0 P w K mg base A outer s H → BindsTo s fd args (ps.zip us) → Vals vs us → sp vs H Q →
    codeAny (model P w) A (.call (.ref f) args) (CR CX0 outer P w H s Q noE) s

section
variable {P : Program} {w : World} {K : PySem.W.Frag} {mg : Str → Option Value} {base : Heap}
/-- the context of a body -/
abbrev cxG (P : Program) (w : World) (K : PySem.W.Frag) (mg : Str → Option Value) (base : Heap) (N : List Str) (qual : Str) (scope : Scope) (f : Addr) (cd : Value) (A : Around) (outer : List Env) (s : Shared) (H : Hp) : Cx := cxOf CX0 P w K mg base N qual scope f cd A outer s H noE
theorem fnG_of {k : Nat} {f : Addr} {x qual : Str} {params : Arguments} {body : List Stmt} {scope : Scope} {dvs : List V} {kws : List (Str × V)} {fd : FuncData} {N ps : List Str} {sp : SpG}
    (D : FunD K x qual params body scope dvs kws f fd) (S : FnScope N ps scope) (len : ∀ vs H Q, sp vs H Q → vs.length = ps.length)
    (hb : ∀ (cdv : Value) (A : Around) (outer : List Env) (s : Shared) (H : Hp) (vs : List V) (Q : VK), Roo k (A.deeper (envOfC qual scope s.heap.objs.size f cdv)) → sp vs H Q →
      ∃ t, PSs (cxG P w K mg base N qual scope f cdv A outer s H) body t ∧ t { nx := fun _ H' => Q .non H', rt := Q } (start N vs) H) :
    FnG P w K mg base (k + 1) f fd ps sp := by
  obtain ⟨oc, od, dV, kV, doc, pm, an, cdv, ct, osl, hfd, hlook, hcode, _, _⟩ := D.ex
  subst hfd
  constructor
  · exact len
  intro A outer s H args us vs Q room env binds rel promise
  have inHeap : K.In s.heap := PySem.W.Frag.In.keeps env.mod.kin fun b o e => (env.bs b o e).1
  have noLimit : s.heap.NoLimit := env.mod.nolimit.keeps fun b o e => (env.bs b o e).1
  have places : ∀ y ∈ ps.zip us, scope.names.lookup y.1 = some .local ∨ (scope.names.lookup y.1 = some .cell ∧ ((cellsFrom (s.heap.objs.size + 1) scope.names []).lookup y.1).isSome = true) := by
    rintro ⟨n, v⟩ hmem
    have hn := S.par n (List.of_mem_zip hmem).1
    exact hn.imp id fun isCell => ⟨isCell, PySem.W.cellsFrom_some _ _ _ (.inl isCell)⟩
  apply codeAny_call_function room.room.depth (inHeap _ _ hlook) rfl S.co S.gen rfl (PySem.W.codeRec_of inHeap hcode)
  apply binds
  apply wpAny_newFunctionEnv_cells S.kind places
  rintro env' rfl s1 started
  obtain ⟨t, walk, goal⟩ := hb cdv A outer s H vs Q (room.deeper _) promise
  have begin_ := inv_start (CX := CX0) (E := noE) S room.room.hd env (len _ _ _ promise) rel started
  refine ⟨noLimit.keeps started.toInCall.keep, codeAny_func (wpAny_mono (walk.run [] s1 _ H _ begin_ goal) ?_ fun _ _ z => z)⟩
  intro flow s' after
  cases flow with
  | next =>
    obtain ⟨σ', H', J, q⟩ := after
    exact ⟨V.non, H', J.os, J.bare, J.base, J.hok, rfl, q⟩
  | ret u =>
    obtain ⟨v, σ', H', J, rv, q⟩ := after
    exact ⟨v, H', J.os, J.bare, J.base, J.hok, rv, q⟩
  | brk => exact after.choose_spec.choose_spec.2.elim
  | cont => exact after.choose_spec.choose_spec.2.elim
end

section
variable {X : Cx} {k : Nat} {f C : Addr} {fd : FuncData} {ps : List Str} {sp : SpG}
/-- no exception comes out -/
theorem CR.back {pins : List (Addr × Obj)} {σ : L2.St} {H : Hp} {s : Shared} {Q : VK} (I : Inv X pins σ H s) {r : Result} {s' : Shared} (h : CR CX0 X.stack X.prog X.w H s Q noE r s') : ∃ u, r = .ok (.ret u) ∧ EP X pins σ Q u s' := by
  cases r with
  | error e => exact (show False from h).elim
  | ok fl =>
    cases fl with
    | ret u => exact ⟨u, rfl, I.after h⟩
    | _ => exact (show False from h).elim
theorem callG {pins : List (Addr × Obj)} {σ : L2.St} {H : Hp} {s : Shared} {Q : VK} {us all : List Value} {vs : List V} {kw : List (Str × Value)} (F : FnG X.prog X.w X.K X.mg X.base k f fd ps sp) (hr : Roo k X.A)
    (I : Inv X pins σ H s) (hb : BindsTo s fd ⟨us, kw⟩ (ps.zip all)) (r : Vals vs all) (h : sp vs H Q) : wpAny (model X.prog X.w) X.A (call (.ref f) us kw) (EP X pins σ Q) X.xe s := by
  refine wpAny_call (codeAny_mono (F.run X.A X.stack s H ⟨us, kw⟩ all vs Q hr I.env0 hb r h) fun res s' hq => ?_)
  obtain ⟨u, rfl, e⟩ := CR.back I hq
  exact e
/-- C(..) -/
theorem makeG {pins : List (Addr × Obj)} {σ : L2.St} {H : Hp} {s : Shared} {Q : VK} {us : List Value} {vs : List V} (M : Mk X.K C f) (F : FnG X.prog X.w X.K X.mg X.base k f fd ps sp) (hr : Roo (k + 1) X.A) (hb : Binds X.K fd ps [])
    (I : Inv X pins σ H s) (r : Vals vs us)
    (h : ∀ x dx, H x = none → H dx = none → dx ≠ x → sp (.ref x :: vs) (upd (upd H dx (.own x)) x (.ins C dx [])) (fun v H2 => v = .non ∧ Q (.ref x) H2)) :
    wpAny (model X.prog X.w) X.A (call (.ref C) us) (EP X pins σ Q) X.xe s := by
  have want := h (s.heap.objs.size + 1) s.heap.objs.size (I.hok.fresh (Nat.le_succ _)) (I.hok.fresh (Nat.le_refl _)) (Nat.ne_of_lt (Nat.lt_succ_self _))
  have made := Inv.made (C := C) I
  have vals : Vals (V.ref (s.heap.objs.size + 1) :: vs) (Value.ref (s.heap.objs.size + 1) :: us) := .cons rfl r
  have bound := hb _ (Value.ref (s.heap.objs.size + 1) :: us) made.kIn (by rw [List.append_nil, ← vals.length]; exact F.len _ _ _ want)
  rw [List.append_nil] at bound
  apply wpAny_call
  apply make_map (f := f) I.kIn M.makes M.init (beq_iff_eq.mp M.fn)
  refine codeAny_mono (F.run _ X.stack _ _ _ _ _ _ (hr.make C us []) (made.env0.make C us []) bound vals want) fun res s' hq => ?_
  obtain ⟨u, rfl, v, H', I3, rv, ev, q3⟩ := CR.back made hq
  subst ev
  exact ⟨rv, V.ref (s.heap.objs.size + 1), H', I3, rfl, q3⟩
end

/-- the law's end: the promise of its def, from the state behind the top -/
theorem law_callG {P : Program} {w : World} {K : PySem.W.Frag} {mg mb : Str → Option Value} {k : Nat} {fa a : Addr} {sp : SpG} {s₁ : Shared} {vs : List Value} {ns : List Int}
    (inK : K.In s₁.heap) (glob : s₁.heap.Ns mainGlobals mg) (blts : s₁.heap.Ns builtinsNs mb) (hblt : ∀ x : Str, x ≠ "__name__" → mb x = bootBuiltins x) (lim : s₁.heap.NoLimit) (nogens : s₁.gens = #[])
    (script : s₁.heap.get? a = some { cls := .type "list", data := .seq vs.toArray }) (intsAre : IntsAre vs ns) (short : ns.length ≤ sizeLine) (room : Roo k callerA)
    (F : ∀ base : Heap, K.In base → base.Ns mainGlobals mg → ∃ (fd : FuncData) (ps : List Str), ps.length = 1 ∧ FnG P w K mg base k fa fd ps sp ∧ Binds K fd ps [])
    (hsp : ∀ H : Hp, Only H → SqL K H a (ns.map V.int) → sp [.ref a] H (fun v _ => v = .bl true)) :
    codeAny (model P w) callerA (.call (.ref fa) ⟨[.ref a], []⟩) (fun r s' => r = .ok (.ret (.bool true)) ∧ OldK s₁.heap s'.heap ∧ s'.os = s₁.os ∧ AllBare s'.gens) s₁ := by
  have scriptVals := vals_ints intsAre
  have main : ∀ H : Hp, Only H → SqL K H a (ns.map V.int) → HOk P w H s₁.heap → (∀ b u, H b = some u → b = a ∧ K.lookup a = none) →
      codeAny (model P w) callerA (.call (.ref fa) ⟨[.ref a], []⟩) (fun r s' => r = .ok (.ret (.bool true)) ∧ OldK s₁.heap s'.heap ∧ s'.os = s₁.os ∧ AllBare s'.gens) s₁ := by
    intro H only sq held sole
    have nsFree : ∀ {b : Addr} {m : Str → Option Value}, s₁.heap.Ns b m → (hidT s₁.heap H).Ns b m := by
      rintro b m ⟨o, es, ep, at_, isDict, rest⟩
      refine ⟨o, es, ep, hidT_get at_ ?_, isDict, rest⟩
      rcases free : H b with _ | u
      · rfl
      · obtain ⟨rfl, _⟩ := sole b u free
        rw [script] at at_
        cases at_
        exact absurd isDict (by intro q; injection q)
    have inBase : K.In (hidT s₁.heap H) := by
      intro b o at_
      refine hidT_get (inK b o at_) ?_
      rcases free : H b with _ | u
      · rfl
      · obtain ⟨rfl, no⟩ := sole b u free
        rw [no] at at_
        cases at_
    obtain ⟨mc, lim1, lim2⟩ := id lim
    have start_ : Env0 P w K mg (hidT s₁.heap H) callerA [] s₁ H :=
      { frames := rfl, mod := ⟨inBase, nsFree glob, ⟨mb, nsFree blts, hblt⟩, mc, nsFree lim1, lim2⟩, bs := fun _ _ e => of_hidT e, bsz := Nat.le_of_eq (hidT_size _ _), funs := trivial, frf := (fun _ z => nomatch z), hok := held, bare := .of_eq nogens }
    obtain ⟨fd, ps, one, fn, binds⟩ := F _ inBase (nsFree glob)
    have bound := binds s₁ [.ref a] inK (by rw [one]; rfl)
    refine codeAny_mono (fn.run callerA [] s₁ H ⟨[.ref a], []⟩ [.ref a] [.ref a] _ room start_ bound (.cons rfl .nil) (hsp H only sq)) ?_
    intro r s' back
    cases r with
    | error e => exact (show False from back).elim
    | ok fl =>
      cases fl with
      | ret u =>
        obtain ⟨v, H', os, bare, un, held', rel, isTrue_⟩ := back
        subst isTrue_
        cases (show u = Value.bool true from rel)
        refine ⟨rfl, OldK.of_keep ?_, os, bare⟩
        intro b o at_
        rcases only b with free | ⟨ob, xs, frozen⟩
        · exact un.keep b o at_ free (fun z => nomatch z) (fun z => nomatch z)
        · have here := (held b _ frozen).1
          have there := (held' b _ (un.frzs b ob _ frozen)).1
          exact (at_.symm.trans here) ▸ there
      | _ => exact (show False from back).elim
  by_cases inText : K.lookup a = none
  · have spot : ∀ b, (if b = a then some (HO.frz { cls := .type "list", data := .seq vs.toArray } (.lst (ns.map V.int))) else none) = none ∨ b = a := by
      intro b
      by_cases e : b = a
      · exact .inr e
      · exact .inl (if_neg e)
    refine main (fun b => if b = a then some (.frz { cls := .type "list", data := .seq vs.toArray } (.lst (ns.map V.int))) else none) (fun b => ?_) (.inl (.inr ⟨_, if_pos rfl⟩)) (fun b u at_ => ?_) (fun b u at_ => ?_)
    · exact (spot b).imp id fun e => ⟨_, _, if_pos e⟩
    · rcases spot b with no | rfl
      · cases no.symm.trans at_
      · cases (if_pos rfl).symm.trans at_
        exact ⟨script, by rw [List.length_map]; exact short, vs, _, scriptVals, script⟩
    · rcases spot b with no | rfl
      · cases no.symm.trans at_
      · exact ⟨rfl, inText⟩
  · obtain ⟨o, at_⟩ := Option.ne_none_iff_exists'.mp inText
    have e := inK a o at_
    rw [script] at e
    cases e
    refine main (fun _ => none) (fun _ => .inl rfl) (.inr ⟨_, vs.toArray, _, at_, rfl, rfl, rfl, ?_, by simpa using scriptVals⟩) (fun _ _ z => nomatch z) (fun _ _ z => nomatch z)
    rw [List.size_toArray, intsAre.length]
    exact short

theorem walkG {l : PySem.W.OpenLaw} {n k : Nat} {q : Program} {loose : List Str} {XP : (Str → Option Value) → Heap → Prop} {YP : World → Heap → Prop} {d : DefRec}
    (most : l.most = some n) (le : n ≤ sizeLine) (nodf : d.params.defaults = []) (room : Roo k callerA)
    (F : ∀ (w : World) (mg : Str → Option Value) (fa : Addr) (h : Heap), YP w h → h.Ns mainGlobals mg → mg d.name = some (.ref fa) →
      ∃ (K : PySem.W.Frag) (sp : SpG), K.In h ∧
        (∀ (H : Hp) (a : Addr) (ns : List Int), ns.length ≤ n → Only H → SqL K H a (ns.map V.int) → sp [.ref a] H (fun v _ => v = .bl true)) ∧
        ∀ base : Heap, K.In base → base.Ns mainGlobals mg → ∃ (fd : FuncData) (ps : List Str), ps.length = 1 ∧ FnG l.prog w K mg base k fa fd ps sp ∧ Binds K fd ps []) :
    PySem.W.WalkO q loose XP YP l.row.toRowW d [] (fun f vs => PySem.call f vs) := by
  apply Att.attach_call most nodf
  intro w s₀ s₁ mg mb fa o pm cd doc a vs ns G Y _ _ _ named script intsAre len nogens
  obtain ⟨K, sp, inK, promise, fn⟩ := F w mg fa _ Y G.T.g named
  exact law_callG inK G.T.g G.T.b G.T.builtins G.T.nolimit nogens script intsAre (Nat.le_trans len le) room fn fun H only sq => promise H a ns len only sq
end Mi

namespace Mi
open PySem PySem.Spec PyProof.Rows L2

/-- a state of the interpreter for one of the layer -/
structure Sg (T : Tb) (w : World) (Av : Addr → Prop) (β : List Addr) (hm : MH) (H : Hp) (σm : MS) (σ : L2.St) : Prop where
  hr : HR T (hsOf w) Av β hm H
  ss : SS T (lv Av β hm) β H σm σ
section
variable {T : Tb} {w : World} {Av : Addr → Prop} {β β' : List Addr} {hm hm' hm2 : MH} {H H' : Hp} {σm : MS} {σ : L2.St} {Q : VK} {v : MV}
theorem Sg.mono (g : Sg T w Av β hm H σm σ) (e : Ex' β hm H β' hm' H') (h : HR T (hsOf w) Av β' hm' H') : Sg T w Av β' hm' H' σm σ := ⟨h, g.ss.mono e⟩
theorem Kp.after {hs : NestedKey → Int} (k : Kp T hs Av β hm H v hm2 Q) (e : Ex' β hm H β' hm' H') : Kp T hs Av β' hm' H' v hm2 Q := fun β2 H2 x e2 => k β2 H2 x (e.trans e2)
end
/-- behind a list of values, a test, a store -/
def Kps (T : Tb) (w : World) (Av : Addr → Prop) (β : List Addr) (hm : MH) (H : Hp) (vs : List MV) (hm' : MH) (Q : List V → Hp → Prop) : Prop :=
  ∀ (β' : List Addr) (H' : Hp) (xs : List V), Ex' β hm H β' hm' H' → HR T (hsOf w) Av β' hm' H' → RVs T (lv Av β' hm') β' H' vs xs → Q xs H'
def Kpt (T : Tb) (w : World) (Av : Addr → Prop) (β : List Addr) (hm : MH) (H : Hp) (hm' : MH) (Q : Hp → Prop) : Prop :=
  ∀ (β' : List Addr) (H' : Hp), Ex' β hm H β' hm' H' → HR T (hsOf w) Av β' hm' H' → Q H'

section
variable (T : Tb) (w : World) (F : Fn)
def tE (e : Ex) : TE := fun σ H Q => ∃ (Av : Addr → Prop) (β : List Addr) (hm : MH) (σm : MS) (v : MV) (hm' : MH), Sg T w Av β hm H σm σ ∧ evE T.G F e σm hm = .ok v hm' ∧ Kp T (hsOf w) Av β hm H v hm' Q
def tT (e : Ex) : TT := fun σ H Q => ∃ (Av : Addr → Prop) (β : List Addr) (hm : MH) (σm : MS) (v : MV) (hm' : MH) (b : Bool), Sg T w Av β hm H σm σ ∧ evE T.G F e σm hm = .ok v hm' ∧ truth hm' v = some b ∧ Kpt T w Av β hm H hm' (Q b)
def tAs (l : List Ex) : TA := fun σ H Q => ∃ (Av : Addr → Prop) (β : List Addr) (hm : MH) (σm : MS) (vs : List MV) (hm' : MH), Sg T w Av β hm H σm σ ∧ evL T.G F l σm hm = .ok vs hm' ∧ Kps T w Av β hm H vs hm' Q
def tOo (e : Option Ex) : TO := fun σ H Q => ∃ (Av : Addr → Prop) (β : List Addr) (hm : MH) (σm : MS) (v : Option Int) (hm' : MH), Sg T w Av β hm H σm σ ∧ evO T.G F e σm hm = .ok v hm' ∧ Kpt T w Av β hm H hm' (Q v)
end

/-! ### weaker readings -/
section
variable {X : Cx}
theorem PE.of {e : Expr} {t t' : TE} (h : PE X e t) (i : ∀ σ H Q, t' σ H Q → t σ H Q) : PE X e t' := ⟨fun pins s σ H Q I q => h.run pins s σ H Q I (i σ H Q q)⟩
theorem PT.of {e : Expr} {t t' : TT} (h : PT X e t) (i : ∀ σ H Q, t' σ H Q → t σ H Q) : PT X e t' := ⟨fun pins s σ H Q I q => h.run pins s σ H Q I (i σ H Q q)⟩
theorem PW.of {e : Expr} {t t' : TT} (h : PW X e t) (i : ∀ σ H Q, t' σ H Q → t σ H Q) : PW X e t' := ⟨fun wh pins s σ H Q I q => h.run wh pins s σ H Q I (i σ H Q q)⟩
theorem PA.of {e : List Expr} {t t' : TA} (h : PA X e t) (i : ∀ σ H Q, t' σ H Q → t σ H Q) : PA X e t' := ⟨fun ps pins s σ H Q I q => h.run ps pins s σ H Q I (i σ H Q q)⟩
theorem PO.of {e : Option Expr} {t t' : TO} (h : PO X e t) (i : ∀ σ H Q, t' σ H Q → t σ H Q) : PO X e t' := ⟨fun pins s σ H Q I q => h.run pins s σ H Q I (i σ H Q q)⟩
theorem PS.of {e : Stmt} {t t' : TS} (h : PS X e t) (i : ∀ D σ H, t' D σ H → t D σ H) : PS X e t' := ⟨fun pins s σ H D I q => h.run pins s σ H D I (i D σ H q)⟩
theorem PSs.of {e : List Stmt} {t t' : TS} (h : PSs X e t) (i : ∀ D σ H, t' D σ H → t D σ H) : PSs X e t' := ⟨fun pins s σ H D I q => h.run pins s σ H D I (i D σ H q)⟩
theorem PI.of {tg e : Expr} {t t' : TI} (h : PI X tg e t) (i : ∀ σ H R, t' σ H R → t σ H R) : PI X tg e t' := ⟨fun pins s σ H R I q => h.run pins s σ H R I (i σ H R q)⟩
theorem PG.of {e : Expr} {t t' : TG} (h : PG X e t) (i : ∀ v σ H Q, t' v σ H Q → t v σ H Q) : PG X e t' := ⟨fun pins s σ H v u Q I r q => h.run pins s σ H v u Q I r (i v σ H Q q)⟩
end

/-! ### chains of evaluation -/
/-- e is evaluated, then R -/
theorem tE_then {T : Tb} {w : World} {F : Fn} {e : Ex} {Av : Addr → Prop} {β : List Addr} {hm h1 : MH} {σm : MS} {σ : L2.St} {H : Hp} {v : MV} {R : VK} (g : Sg T w Av β hm H σm σ) (he : evE T.G F e σm hm = .ok v h1)
    (k : ∀ (β1 : List Addr) (H1 : Hp) (x : V), Ex' β hm H β1 h1 H1 → Sg T w Av β1 h1 H1 σm σ → RV T (lv Av β1 h1) β1 H1 v x → R x H1) : tE T w F e σ H R :=
  ⟨Av, β, hm, σm, v, h1, g, he, fun β1 H1 x e1 hr rv => k β1 H1 x e1 (g.mono e1 hr) rv⟩
theorem tAs_then {T : Tb} {w : World} {F : Fn} {l : List Ex} {Av : Addr → Prop} {β : List Addr} {hm h1 : MH} {σm : MS} {σ : L2.St} {H : Hp} {vs : List MV} {R : List V → Hp → Prop} (g : Sg T w Av β hm H σm σ) (he : evL T.G F l σm hm = .ok vs h1)
    (k : ∀ (β1 : List Addr) (H1 : Hp) (xs : List V), Ex' β hm H β1 h1 H1 → Sg T w Av β1 h1 H1 σm σ → RVs T (lv Av β1 h1) β1 H1 vs xs → R xs H1) : tAs T w F l σ H R :=
  ⟨Av, β, hm, σm, vs, h1, g, he, fun β1 H1 x e1 hr rv => k β1 H1 x e1 (g.mono e1 hr) rv⟩
theorem tOo_then {T : Tb} {w : World} {F : Fn} {e : Option Ex} {Av : Addr → Prop} {β : List Addr} {hm h1 : MH} {σm : MS} {σ : L2.St} {H : Hp} {v : Option Int} {R : Option Int → Hp → Prop} (g : Sg T w Av β hm H σm σ) (he : evO T.G F e σm hm = .ok v h1)
    (k : ∀ (β1 : List Addr) (H1 : Hp), Ex' β hm H β1 h1 H1 → Sg T w Av β1 h1 H1 σm σ → R v H1) : tOo T w F e σ H R :=
  ⟨Av, β, hm, σm, v, h1, g, he, fun β1 H1 e1 hr => k β1 H1 e1 (g.mono e1 hr)⟩
/-- two, then an operation -/
theorem tOp_of {T : Tb} {w : World} {F : Fn} {a b : Ex} {f : MV → MV → MH → Out MV} {Av : Addr → Prop} {β : List Addr} {hm h1 h2 hm' : MH} {σm : MS} {σ : L2.St} {H : Hp} {x y v : MV} {Q : VK} (g : Sg T w Av β hm H σm σ)
    (ha : evE T.G F a σm hm = .ok x h1) (hb : evE T.G F b σm h1 = .ok y h2) (hf : f x y h2 = .ok v hm') (k : Kp T (hsOf w) Av β hm H v hm' Q) : tOp (rO2 T (hsOf w) f) (tE T w F a) (tE T w F b) σ H Q :=
  tE_then g ha fun β1 H1 x1 e1 g1 r1 => tE_then g1 hb fun β2 H2 y1 e2 g2 r2 => ⟨Av, β2, h2, x, y, v, hm', g2.hr, r1.mono e2, r2, hf, k.after (e1.trans e2)⟩

section
variable {X : Cx} {T : Tb} {w : World} {F : Fn} {pos : Pos}
theorem e_var {i : Nat} {y : Str} (hN : X.N[i]? = some y) (hv : Vis X.env.scope y) (hd : (y == ("__debug__" : Str)) = false) (hcd : (y == ("__classdict__" : Str)) = false) : PE X (.Name y pos) (tE T w F (.var i)) := by
  refine PE.of (pe_var hN hv hd hcd) fun σ H Q h => ?_
  obtain ⟨Av, β, hm, σm, v, hm', g, e, k⟩ := h
  simp only [evE] at e
  split at e
  · rename_i u hu
    obtain ⟨rfl, rfl⟩ := out_inj e
    obtain ⟨x, h1, h2⟩ := g.ss.2 i _ hu
    exact ⟨x, h1, k.same g.hr h2⟩
  · cases e
theorem e_const {e : Ex} {x : Expr} {m : MV} {c : V} (h : PE X x (tC c)) (he : ∀ σm hm, evE T.G F e σm hm = .ok m hm) (r : ∀ L β H, RV T L β H m c) : PE X x (tE T w F e) := by
  refine PE.of h fun σ H Q h => ?_
  obtain ⟨Av, β, hm, σm, v, hm', g, ev, k⟩ := h
  rw [he] at ev
  obtain ⟨rfl, rfl⟩ := out_inj ev
  exact k.same g.hr (r _ _ _)
theorem e_bin {o : Bop} {a b : Ex} {p q : Expr} (hK : X.K = T.K) (ha : PE X p (tE T w F a)) (hb : PE X q (tE T w F b)) : PE X (.BinOp p (opOf o) q pos) (tE T w F (.bin o a b)) := by
  refine PE.of (pe_op (bop_ok (hs := hsOf w) hK o) ha hb) fun σ H Q h => ?_
  obtain ⟨Av, β, hm, σm, v, hm', g, e, k⟩ := h
  simp only [evE] at e
  (split at e; (case h_2 => cases e); rename_i x h1 e1)
  (split at e; (case h_2 => cases e); rename_i y h2 e2)
  exact tOp_of g e1 e2 e k
theorem e_neg {a : Ex} {p : Expr} (ha : PE X p (tE T w F a)) : PE X (.UnaryOp .USub p pos) (tE T w F (.neg a)) := by
  refine PE.of (pe_un un_neg ha) fun σ H Q h => ?_
  obtain ⟨Av, β, hm, σm, v, hm', g, e, k⟩ := h
  simp only [evE] at e
  split at e
  · rename_i i h1 e1
    obtain ⟨rfl, rfl⟩ := out_inj e
    refine tE_then g e1 fun β1 H1 x1 x2 g1 r1 => ?_
    cases r1.int'
    exact ⟨i, rfl, (k.after x2).same g1.hr (.int _)⟩
  · cases e
theorem e_cmp {o : Cop} {a b : Ex} {p q : Expr} (hK : X.K = T.K) (hw : X.w = w) (kd : KdOk T w) (hu : X.A.units + 65 < cLine) (ha : PE X p (tE T w F a)) (hb : PE X q (tE T w F b)) (hm : behindInMarks (coOf o) q = false) :
    PE X (.Compare p [coOf o] [q] pos) (tE T w F (.cmp o a b)) := by
  refine PE.of (pe_cmpR (copG_ok hK hw kd hu o) ha hb hm) fun σ H Q h => ?_
  obtain ⟨Av, β, hm, σm, v, hm', g, e, k⟩ := h
  simp only [evE] at e
  (split at e; (case h_2 => cases e); rename_i x h1 e1)
  (split at e; (case h_2 => cases e); rename_i y h2 e2)
  exact tOp_of g e1 e2 e k
/-- a comparison's value is a bool -/
theorem cop_bl {o : Cop} {x y v : MV} {h h' : MH} (e : cop o x y h = .ok v h') : ∃ b, v = .bl b := by
  unfold cop at e
  split at e
  all_goals first
    | (obtain ⟨rfl, _⟩ := out_inj e; exact ⟨_, rfl⟩)
    | (split at e
       · obtain ⟨rfl, _⟩ := out_inj e; exact ⟨_, rfl⟩
       · cases e)
    | cases e
theorem copG_bl {G : Gm} {o : Cop} {x y v : MV} {h h' : MH} (e : copG G o x y h = .ok v h') : ∃ b, v = .bl b := by
  unfold copG at e
  split at e
  all_goals first
    | exact cop_bl e
    | (split at e
       · first
         | (obtain ⟨rfl, _⟩ := out_inj e; exact ⟨_, rfl⟩)
         | (split at e
            · obtain ⟨rfl, _⟩ := out_inj e; exact ⟨_, rfl⟩
            · cases e)
       · cases e)
theorem t_cmp {o : Cop} {a b : Ex} {p q : Expr} (hK : X.K = T.K) (hw : X.w = w) (kd : KdOk T w) (hu : X.A.units + 65 < cLine) (ha : PE X p (tE T w F a)) (hb : PE X q (tE T w F b)) (hm : behindInMarks (coOf o) q = false) :
    PT X (.Compare p [coOf o] [q] pos) (tT T w F (.cmp o a b)) := by
  refine PT.of (pt_cmpR (copG_ok hK hw kd hu o) ha hb hm) fun σ H Q h => ?_
  obtain ⟨Av, β, hm, σm, v, hm', c, g, e, t, k⟩ := h
  simp only [evE] at e
  (split at e; (case h_2 => cases e); rename_i x h1 e1)
  (split at e; (case h_2 => cases e); rename_i y h2 e2)
  obtain ⟨b, rfl⟩ := copG_bl e
  cases t
  exact tOp_of g e1 e2 e fun β' H' z e3 hr rz => ⟨_, rz.bl', k β' H' e3 hr⟩
theorem e_isN {a : Ex} {p : Expr} {j : Nat} {pos' : Pos} (ha : PE X p (tE T w F a)) : PE X (.Compare p [.Is] [.Constant .none j pos'] pos) (tE T w F (.isN a)) := by
  refine PE.of (pe_cmp (pc_isN ha)) fun σ H Q h => ?_
  obtain ⟨Av, β, hm, σm, v, hm', g, e, k⟩ := h
  simp only [evE] at e
  split at e
  · rename_i h1 e1
    obtain ⟨rfl, rfl⟩ := out_inj e
    refine tE_then g e1 fun β1 H1 x1 x2 g1 r1 => ?_
    cases r1.non'
    exact (k.after x2).same g1.hr (.bl _)
  · rename_i u h1 hne e1
    obtain ⟨rfl, rfl⟩ := out_inj e
    refine tE_then g e1 fun β1 H1 x1 x2 g1 r1 => ?_
    have : x1 ≠ .non := fun z => by
      subst z
      cases r1
      exact hne rfl
    rw [decide_eq_false this]
    exact (k.after x2).same g1.hr (.bl _)
  · cases e
end
end Mi

namespace Mi
open PySem PySem.Spec PyProof.Rows L2

theorem truK {T : Tb} {hm : MH} {L : Addr → Prop} {β : List Addr} {H : Hp} {m : MV} {x : V} {k : Bool} {X : Cx} (hK : X.K = T.K) (r : RV T L β H m x) (h : truth hm m = some k) : TruV X.K x H k := r.truth hK h

section
variable {X : Cx} {T : Tb} {w : World} {F : Fn} {pos : Pos}
theorem e_notN {a : Ex} {p : Expr} {j : Nat} {pos' : Pos} (ha : PE X p (tE T w F a)) : PE X (.Compare p [.IsNot] [.Constant .none j pos'] pos) (tE T w F (.notN a)) := by
  refine PE.of (pe_cmp (pc_notN ha)) fun σ H Q h => ?_
  obtain ⟨Av, β, hm, σm, v, hm', g, e, k⟩ := h
  simp only [evE] at e
  split at e
  · rename_i h1 e1
    obtain ⟨rfl, rfl⟩ := out_inj e
    refine tE_then g e1 fun β1 H1 x1 x2 g1 r1 => ?_
    cases r1.non'
    exact (k.after x2).same g1.hr (.bl _)
  · rename_i u h1 hne e1
    obtain ⟨rfl, rfl⟩ := out_inj e
    refine tE_then g e1 fun β1 H1 x1 x2 g1 r1 => ?_
    have : x1 ≠ .non := fun z => by
      subst z
      cases r1
      exact hne rfl
    rw [decide_eq_false this]
    exact (k.after x2).same g1.hr (.bl _)
  · cases e
/-- a bool that is a value, as a test -/
theorem t_of_bl {e : Ex} {p : Expr} (hp : PT X p (tB (tE T w F e))) (hb : ∀ σm hm v hm', evE T.G F e σm hm = .ok v hm' → ∃ b, v = .bl b) : PT X p (tT T w F e) := by
  refine PT.of hp fun σ H Q h => ?_
  obtain ⟨Av, β, hm, σm, v, hm', c, g, e, t, k⟩ := h
  obtain ⟨b, rfl⟩ := hb _ _ _ _ e
  cases t
  exact tE_then g e fun β1 H1 x1 e1 g1 r1 => ⟨_, r1.bl', k β1 H1 e1 g1.hr⟩
theorem isN_bl {a : Ex} {σm : MS} {hm hm' : MH} {v : MV} {G : Gm} (e : evE G F (.isN a) σm hm = .ok v hm') : ∃ b, v = .bl b := by
  simp only [evE] at e
  split at e
  · obtain ⟨rfl, _⟩ := out_inj e; exact ⟨_, rfl⟩
  · obtain ⟨rfl, _⟩ := out_inj e; exact ⟨_, rfl⟩
  · cases e
theorem notN_bl {a : Ex} {σm : MS} {hm hm' : MH} {v : MV} {G : Gm} (e : evE G F (.notN a) σm hm = .ok v hm') : ∃ b, v = .bl b := by
  simp only [evE] at e
  split at e
  · obtain ⟨rfl, _⟩ := out_inj e; exact ⟨_, rfl⟩
  · obtain ⟨rfl, _⟩ := out_inj e; exact ⟨_, rfl⟩
  · cases e
theorem pt_of_isN {t : TE} {p : Expr} {j : Nat} {pos' : Pos} (ha : PE X p t) : PT X (.Compare p [.Is] [.Constant .none j pos'] pos) (tB (tIsN t)) := pt_cmp (pc_isN ha)
theorem t_isN {a : Ex} {p : Expr} {j : Nat} {pos' : Pos} (ha : PE X p (tE T w F a)) : PT X (.Compare p [.Is] [.Constant .none j pos'] pos) (tT T w F (.isN a)) := by
  refine PT.of (pt_of_isN ha) fun σ H Q h => ?_
  obtain ⟨Av, β, hm, σm, v, hm', c, g, e, t, k⟩ := h
  simp only [evE] at e
  split at e
  · rename_i h1 e1
    obtain ⟨rfl, rfl⟩ := out_inj e
    cases t
    refine tE_then g e1 fun β1 H1 x1 x2 g1 r1 => ?_
    cases r1.non'
    exact ⟨_, rfl, k β1 H1 x2 g1.hr⟩
  · rename_i u h1 hne e1
    obtain ⟨rfl, rfl⟩ := out_inj e
    cases t
    refine tE_then g e1 fun β1 H1 x1 x2 g1 r1 => ?_
    have : x1 ≠ .non := fun z => by
      subst z
      cases r1
      exact hne rfl
    rw [decide_eq_false this]
    exact ⟨_, rfl, k β1 H1 x2 g1.hr⟩
  · cases e
theorem t_notN {a : Ex} {p : Expr} {j : Nat} {pos' : Pos} (ha : PE X p (tE T w F a)) : PT X (.Compare p [.IsNot] [.Constant .none j pos'] pos) (tT T w F (.notN a)) := by
  refine PT.of (pt_cmp (pc_notN ha)) fun σ H Q h => ?_
  obtain ⟨Av, β, hm, σm, v, hm', c, g, e, t, k⟩ := h
  simp only [evE] at e
  split at e
  · rename_i h1 e1
    obtain ⟨rfl, rfl⟩ := out_inj e
    cases t
    refine tE_then g e1 fun β1 H1 x1 x2 g1 r1 => ?_
    cases r1.non'
    exact ⟨_, rfl, k β1 H1 x2 g1.hr⟩
  · rename_i u h1 hne e1
    obtain ⟨rfl, rfl⟩ := out_inj e
    cases t
    refine tE_then g e1 fun β1 H1 x1 x2 g1 r1 => ?_
    have : x1 ≠ .non := fun z => by
      subst z
      cases r1
      exact hne rfl
    rw [decide_eq_false this]
    exact ⟨_, rfl, k β1 H1 x2 g1.hr⟩
  · cases e
theorem chn_split {o o' : Cop} {a b c : Ex} {σm : MS} {hm hm' : MH} {v : MV} {G : Gm} (e : evE G F (.chn o o' a b c) σm hm = .ok v hm') : ∃ x h1 y h2, evE G F a σm hm = .ok x h1 ∧ evE G F b σm h1 = .ok y h2 ∧
    ((∃ h3 z h4, cop o x y h2 = .ok (.bl true) h3 ∧ evE G F c σm h3 = .ok z h4 ∧ cop o' y z h4 = .ok v hm') ∨ (cop o x y h2 = .ok (.bl false) hm' ∧ v = .bl false)) := by
  simp only [evE] at e
  (split at e; (case h_2 => cases e); rename_i x h1 e1)
  (split at e; (case h_2 => cases e); rename_i y h2 e2)
  refine ⟨x, h1, y, h2, e1, e2, ?_⟩
  split at e
  · rename_i h3 e3
    (split at e; (case h_2 => cases e); rename_i z h4 e4)
    exact .inl ⟨h3, z, h4, e3, e4, e⟩
  · rename_i h3 e3
    obtain ⟨rfl, rfl⟩ := out_inj e
    exact .inr ⟨e3, rfl⟩
  · cases e
theorem chn_of {o o' : Cop} {a b c : Ex} {Av : Addr → Prop} {β : List Addr} {hm hm' : MH} {σm : MS} {σ : L2.St} {H : Hp} {v : MV} {Q : VK} (g : Sg T w Av β hm H σm σ) (e : evE T.G F (.chn o o' a b c) σm hm = .ok v hm') (k : Kp T (hsOf w) Av β hm H v hm' Q) :
    tChain (rO2 T (hsOf w) (cop o)) (rO2 T (hsOf w) (cop o')) (tE T w F a) (tE T w F b) (tE T w F c) σ H Q := by
  obtain ⟨x, h1, y, h2, e1, e2, e3⟩ := chn_split e
  refine tE_then g e1 fun β1 H1 x1 i1 g1 r1 => tE_then g1 e2 fun β2 H2 y1 i2 g2 r2 => ?_
  rcases e3 with ⟨h3, z, h4, e3, e4, e5⟩ | ⟨e3, rfl⟩
  · refine ⟨Av, β2, h2, x, y, .bl true, h3, g2.hr, r1.mono i2, r2, e3, fun β3 H3 z1 i3 hr3 rz => ⟨true, rz.bl', ?_⟩⟩
    exact tE_then (g2.mono i3 hr3) e4 fun β4 H4 z2 i4 g4 r4 => ⟨Av, β4, h4, y, z, v, hm', g4.hr, (r2.mono i3).mono i4, r4, e5, k.after (((i1.trans i2).trans i3).trans i4)⟩
  · exact ⟨Av, β2, h2, x, y, .bl false, hm', g2.hr, r1.mono i2, r2, e3, fun β3 H3 z1 i3 hr3 rz => ⟨false, rz.bl', (k.after ((i1.trans i2).trans i3)).same hr3 (.bl false)⟩⟩
theorem e_chn {o o' : Cop} {a b c : Ex} {p q r : Expr} (hK : X.K = T.K) (hu : X.A.units + 64 < cLine) (ha : PE X p (tE T w F a)) (hb : PE X q (tE T w F b)) (hc : PE X r (tE T w F c)) (hm : lastMarks [coOf o, coOf o'] [q, r] = false) :
    PE X (.Compare p [coOf o, coOf o'] [q, r] pos) (tE T w F (.chn o o' a b c)) := by
  refine PE.of (pe_chain (cop_ok (hs := hsOf w) hK hu o) (cop_ok (hs := hsOf w) hK hu o') ha hb hc hm) fun σ H Q h => ?_
  obtain ⟨Av, β, hm, σm, v, hm', g, e, k⟩ := h
  exact chn_of g e k
theorem t_chn {o o' : Cop} {a b c : Ex} {p q r : Expr} (hK : X.K = T.K) (hu : X.A.units + 64 < cLine) (ha : PE X p (tE T w F a)) (hb : PE X q (tE T w F b)) (hc : PE X r (tE T w F c)) (hm : lastMarks [coOf o, coOf o'] [q, r] = false) :
    PT X (.Compare p [coOf o, coOf o'] [q, r] pos) (tT T w F (.chn o o' a b c)) := by
  refine PT.of (pt_chain (cop_ok (hs := hsOf w) hK hu o) (cop_ok (hs := hsOf w) hK hu o') ha hb hc hm) fun σ H Q h => ?_
  obtain ⟨Av, β, hm, σm, v, hm', c, g, e, t, k⟩ := h
  have hv : ∃ b, v = .bl b := by
    obtain ⟨x, h1, y, h2, e1, e2, e3⟩ := chn_split e
    rcases e3 with ⟨h3, z, h4, e3, e4, e5⟩ | ⟨e3, rfl⟩
    · exact cop_bl e5
    · exact ⟨_, rfl⟩
  obtain ⟨b, rfl⟩ := hv
  cases t
  exact chn_of g e fun β' H' x e' hr r => ⟨_, r.bl', k β' H' e' hr⟩
/-! ### and, or, not, if -/
theorem e_and {a b : Ex} {p q : Expr} {rest : List Expr} (hK : X.K = T.K) (ha : PE X p (tE T w F a)) (hb : PE X (.BoolOp .And (q :: rest) pos) (tE T w F b)) : PE X (.BoolOp .And (p :: q :: rest) pos) (tE T w F (.and a b)) := by
  refine PE.of (pe_andT ha hb) fun σ H Q h => ?_
  obtain ⟨Av, β, hm, σm, v, hm', g, e, k⟩ := h
  simp only [evE] at e
  (split at e; (case h_2 => cases e); rename_i x h1 e1)
  refine tE_then g e1 fun β1 H1 x1 i1 g1 r1 => ?_
  split at e
  · rename_i ht
    exact ⟨true, truK hK r1 ht, ⟨Av, β1, h1, σm, v, hm', g1, e, k.after i1⟩⟩
  · rename_i ht
    obtain ⟨rfl, rfl⟩ := out_inj e
    exact ⟨false, truK hK r1 ht, (k.after i1).same g1.hr r1⟩
  · cases e
theorem e_or {a b : Ex} {p q : Expr} {rest : List Expr} (hK : X.K = T.K) (ha : PE X p (tE T w F a)) (hb : PE X (.BoolOp .Or (q :: rest) pos) (tE T w F b)) : PE X (.BoolOp .Or (p :: q :: rest) pos) (tE T w F (.or a b)) := by
  refine PE.of (pe_orT ha hb) fun σ H Q h => ?_
  obtain ⟨Av, β, hm, σm, v, hm', g, e, k⟩ := h
  simp only [evE] at e
  (split at e; (case h_2 => cases e); rename_i x h1 e1)
  refine tE_then g e1 fun β1 H1 x1 i1 g1 r1 => ?_
  split at e
  · rename_i ht
    obtain ⟨rfl, rfl⟩ := out_inj e
    exact ⟨true, truK hK r1 ht, (k.after i1).same g1.hr r1⟩
  · rename_i ht
    exact ⟨false, truK hK r1 ht, ⟨Av, β1, h1, σm, v, hm', g1, e, k.after i1⟩⟩
  · cases e
/-- a test is made, then R -/
theorem tT_then {e : Ex} {Av : Addr → Prop} {β : List Addr} {hm h1 : MH} {σm : MS} {σ : L2.St} {H : Hp} {v : MV} {b : Bool} {R : Bool → Hp → Prop} (g : Sg T w Av β hm H σm σ) (he : evE T.G F e σm hm = .ok v h1) (ht : truth h1 v = some b)
    (k : ∀ (β1 : List Addr) (H1 : Hp), Ex' β hm H β1 h1 H1 → Sg T w Av β1 h1 H1 σm σ → R b H1) : tT T w F e σ H R :=
  ⟨Av, β, hm, σm, v, h1, b, g, he, ht, fun β1 H1 e1 hr => k β1 H1 e1 (g.mono e1 hr)⟩
theorem w_and {a b : Ex} {p q : Expr} {rest : List Expr} (ha : PT X p (tT T w F a)) (hb : PW X (.BoolOp .And (q :: rest) pos) (tT T w F b)) : PW X (.BoolOp .And (p :: q :: rest) pos) (tT T w F (.and a b)) := by
  refine PW.of (pw_and ha hb) fun σ H Q h => ?_
  obtain ⟨Av, β, hm, σm, v, hm', c, g, e, t, k⟩ := h
  simp only [evE] at e
  (split at e; (case h_2 => cases e); rename_i x h1 e1)
  split at e
  · rename_i ht
    refine tT_then g e1 ht fun β1 H1 i1 g1 => ?_
    exact ⟨Av, β1, h1, σm, v, hm', c, g1, e, t, fun β2 H2 i2 hr => k β2 H2 (i1.trans i2) hr⟩
  · rename_i ht
    obtain ⟨rfl, rfl⟩ := out_inj e
    rw [ht] at t
    cases t
    exact tT_then g e1 ht fun β1 H1 i1 g1 => k β1 H1 i1 g1.hr
  · cases e
theorem w_or {a b : Ex} {p q : Expr} {rest : List Expr} (ha : PT X p (tT T w F a)) (hb : PW X (.BoolOp .Or (q :: rest) pos) (tT T w F b)) : PW X (.BoolOp .Or (p :: q :: rest) pos) (tT T w F (.or a b)) := by
  refine PW.of (pw_or ha hb) fun σ H Q h => ?_
  obtain ⟨Av, β, hm, σm, v, hm', c, g, e, t, k⟩ := h
  simp only [evE] at e
  (split at e; (case h_2 => cases e); rename_i x h1 e1)
  split at e
  · rename_i ht
    obtain ⟨rfl, rfl⟩ := out_inj e
    rw [ht] at t
    cases t
    exact tT_then g e1 ht fun β1 H1 i1 g1 => k β1 H1 i1 g1.hr
  · rename_i ht
    refine tT_then g e1 ht fun β1 H1 i1 g1 => ?_
    exact ⟨Av, β1, h1, σm, v, hm', c, g1, e, t, fun β2 H2 i2 hr => k β2 H2 (i1.trans i2) hr⟩
  · cases e
theorem e_not {a : Ex} {p : Expr} (hK : X.K = T.K) (ha : PE X p (tE T w F a)) : PE X (.UnaryOp .Not p pos) (tE T w F (.not a)) := by
  refine PE.of (pe_notT ha) fun σ H Q h => ?_
  obtain ⟨Av, β, hm, σm, v, hm', g, e, k⟩ := h
  simp only [evE] at e
  (split at e; (case h_2 => cases e); rename_i x h1 e1)
  split at e
  · rename_i c ht
    obtain ⟨rfl, rfl⟩ := out_inj e
    exact tE_then g e1 fun β1 H1 x1 i1 g1 r1 => ⟨c, truK hK r1 ht, (k.after i1).same g1.hr (.bl _)⟩
  · cases e
theorem t_not {a : Ex} {p : Expr} (ha : PT X p (tT T w F a)) : PT X (.UnaryOp .Not p pos) (tT T w F (.not a)) := by
  refine PT.of (pt_not ha) fun σ H Q h => ?_
  obtain ⟨Av, β, hm, σm, v, hm', d, g, e, t, k⟩ := h
  simp only [evE] at e
  (split at e; (case h_2 => cases e); rename_i x h1 e1)
  split at e
  · rename_i c ht
    obtain ⟨rfl, rfl⟩ := out_inj e
    cases t
    exact tT_then g e1 ht fun β1 H1 i1 g1 => k β1 H1 i1 g1.hr
  · cases e
theorem e_ife {a b c : Ex} {p q r : Expr} (hc : PT X r (tT T w F c)) (ha : PE X p (tE T w F a)) (hb : PE X q (tE T w F b)) : PE X (.IfExp r p q pos) (tE T w F (.ife c a b)) := by
  refine PE.of (pe_ifExp hc ha hb) fun σ H Q h => ?_
  obtain ⟨Av, β, hm, σm, v, hm', g, e, k⟩ := h
  simp only [evE] at e
  (split at e; (case h_2 => cases e); rename_i x h1 e1)
  split at e
  · rename_i ht
    exact tT_then g e1 ht fun β1 H1 i1 g1 => ⟨Av, β1, h1, σm, v, hm', g1, e, k.after i1⟩
  · rename_i ht
    exact tT_then g e1 ht fun β1 H1 i1 g1 => ⟨Av, β1, h1, σm, v, hm', g1, e, k.after i1⟩
  · cases e
/-- the truth of any other value -/
theorem t_val {a : Ex} {p : Expr} (hK : X.K = T.K) (ha : PE X p (tE T w F a)) (he : ∀ whole, isTrue p X.env whole = (do let v ← whole; standAt p.pos; holding [v] (truthy v))) : PT X p (tT T w F a) := by
  refine PT.of (pt_truth ha he) fun σ H Q h => ?_
  obtain ⟨Av, β, hm, σm, v, hm', d, g, e, t, k⟩ := h
  exact tE_then g e fun β1 H1 x1 i1 g1 r1 => ⟨d, truK hK r1 t, k β1 H1 i1 g1.hr⟩
/-! ### displays, arguments -/
theorem a_nil : PA X [] (tAs T w F []) := by
  refine PA.of pa_nil fun σ H Q h => ?_
  obtain ⟨Av, β, hm, σm, vs, hm', g, e, k⟩ := h
  simp only [evL] at e
  obtain ⟨rfl, rfl⟩ := out_inj e
  exact k β H [] Ex'.refl g.hr .nil
theorem a_cons {a : Ex} {l : List Ex} {p : Expr} {es : List Expr} (ha : PE X p (tE T w F a)) (hl : PA X es (tAs T w F l)) (hs : starEach (p :: es) X.env = (false, eval p X.env) :: starEach es X.env) : PA X (p :: es) (tAs T w F (a :: l)) := by
  refine PA.of (pa_cons ha hl hs) fun σ H Q h => ?_
  obtain ⟨Av, β, hm, σm, vs, hm', g, e, k⟩ := h
  simp only [evL] at e
  (split at e; (case h_2 => cases e); rename_i x h1 e1)
  (split at e; (case h_2 => cases e); rename_i xs h2 e2)
  obtain ⟨rfl, rfl⟩ := out_inj e
  exact tE_then g e1 fun β1 H1 x1 i1 g1 r1 => tAs_then g1 e2 fun β2 H2 xs1 i2 g2 r2 => k β2 H2 (x1 :: xs1) (i1.trans i2) g2.hr (.cons (r1.mono i2) r2)
theorem evL_len {G : Gm} : ∀ {l : List Ex} {σm : MS} {hm hm' : MH} {vs : List MV}, evL G F l σm hm = .ok vs hm' → vs.length = l.length
  | [], _, _, _, _, e => by simp only [evL] at e; obtain ⟨rfl, _⟩ := out_inj e; rfl
  | a :: l, _, _, _, _, e => by
    simp only [evL] at e
    (split at e; (case h_2 => cases e); rename_i x h1 e1)
    (split at e; (case h_2 => cases e); rename_i xs h2 e2)
    obtain ⟨rfl, _⟩ := out_inj e
    rw [List.length_cons, List.length_cons, evL_len e2]
theorem e_tup {l : List Ex} {es : List Expr} {x1 : Nat} (hl : PA X es (tAs T w F l)) (hn : l.length ≤ 100000) : PE X (.Tuple es x1 pos) (tE T w F (.tup l)) := by
  refine PE.of (pe_tup hl) fun σ H Q h => ?_
  obtain ⟨Av, β, hm, σm, v, hm', g, e, k⟩ := h
  simp only [evE] at e
  (split at e; (case h_2 => cases e); rename_i vs h1 e1)
  obtain ⟨rfl, rfl⟩ := out_inj e
  exact tAs_then g e1 fun β1 H1 xs i1 g1 r1 => ⟨by rw [← r1.length, evL_len e1]; exact n100 hn, fun p hp => (k.after i1).tup g1.hr r1 hp⟩
theorem e_lst {m : Bool} {l : List Ex} {es : List Expr} (hl : PA X es (tAs T w F l)) (hn : l.length ≤ 100000) : PE X (.List es pos) (tE T w F (.lst m l)) := by
  refine PE.of (pe_lst hl) fun σ H Q h => ?_
  obtain ⟨Av, β, hm, σm, v, hm', g, e, k⟩ := h
  simp only [evE] at e
  (split at e; (case h_2 => cases e); rename_i vs h1 e1)
  refine tAs_then g e1 fun β1 H1 xs i1 g1 r1 => ⟨by rw [← r1.length, evL_len e1]; exact n100 hn, fun p hp => ?_⟩
  cases m with
  | true =>
    obtain ⟨rfl, rfl⟩ := out_inj e
    exact (k.after i1).loc g1.hr hp (.lst (r1.mono (Ex'.alloc g1.hr.len hp)))
  | false =>
    obtain ⟨rfl, rfl⟩ := out_inj e
    exact (k.after i1).lst g1.hr r1 hp
/-! ### subscripts -/
theorem e_idx {a b : Ex} {p q : Expr} (hK : X.K = T.K) (hw : X.w = w) (kd : KdOk T w) (hu : X.A.units + 65 < cLine) (ha : PE X p (tE T w F a)) (hb : PE X q (tE T w F b)) (hs : PlainIx q) : PE X (.Subscript p q pos) (tE T w F (.idx a b)) := by
  refine PE.of (pe_ix (getIx_ok hK hw kd hu) ha hb hs) fun σ H Q h => ?_
  obtain ⟨Av, β, hm, σm, v, hm', g, e, k⟩ := h
  simp only [evE] at e
  (split at e; (case h_2 => cases e); rename_i x h1 e1)
  (split at e; (case h_2 => cases e); rename_i y h2 e2)
  exact tOp_of g e1 e2 e k
theorem o_none : PO X none (tOo T w F none) := by
  refine PO.of po_none fun σ H Q h => ?_
  obtain ⟨Av, β, hm, σm, v, hm', g, e, k⟩ := h
  simp only [evO] at e
  obtain ⟨rfl, rfl⟩ := out_inj e
  exact k β H Ex'.refl g.hr
theorem o_some {a : Ex} {p : Expr} (ha : PE X p (tE T w F a)) : PO X (some p) (tOo T w F (some a)) := by
  refine PO.of (po_some ha) fun σ H Q h => ?_
  obtain ⟨Av, β, hm, σm, v, hm', g, e, k⟩ := h
  simp only [evO] at e
  split at e
  · rename_i i h1 e1
    obtain ⟨rfl, rfl⟩ := out_inj e
    exact tE_then g e1 fun β1 H1 x1 i1 g1 r1 => ⟨i, r1.int', k β1 H1 i1 g1.hr⟩
  · cases e
theorem e_slc {a : Ex} {lo hi : Option Ex} {p : Expr} {lo' hi' : Option Expr} {p2 : Pos} (hK : X.K = T.K) (ha : PE X p (tE T w F a)) (hl : PO X lo' (tOo T w F lo)) (hh : PO X hi' (tOo T w F hi)) : PE X (.Subscript p (.Slice lo' hi' none p2) pos) (tE T w F (.slc a lo hi)) := by
  refine PE.of (pe_slice (slc_ok (hs := hsOf w) hK) ha hl hh) fun σ H Q h => ?_
  obtain ⟨Av, β, hm, σm, v, hm', g, e, k⟩ := h
  simp only [evE] at e
  (split at e; (case h_2 => cases e); rename_i x h1 e1)
  (split at e; (case h_2 => cases e); rename_i u h2 e2)
  (split at e; (case h_2 => cases e); rename_i z h3 e3)
  exact tE_then g e1 fun β1 H1 x1 i1 g1 r1 => tOo_then g1 e2 fun β2 H2 i2 g2 => tOo_then g2 e3 fun β3 H3 i3 g3 => ⟨Av, β3, h3, x, v, hm', g3.hr, (r1.mono i2).mono i3, e, k.after ((i1.trans i2).trans i3)⟩
/-- a list that is made here, from now on a value -/
theorem e_frz {a : Ex} {p : Expr} (ha : PE X p (tE T w F a)) : PE X p (tE T w F (.frz a)) := by
  refine PE.of ha fun σ H Q h => ?_
  obtain ⟨Av, β, hm, σm, v, hm', g, e, k⟩ := h
  simp only [evE] at e
  split at e
  · rename_i i h1 e1
    split at e
    · rename_i l ho
      obtain ⟨rfl, rfl⟩ := out_inj e
      refine tE_then g e1 fun β1 H1 x1 i1 g1 r1 => ?_
      obtain ⟨a', rfl, hi⟩ := r1.loc'
      obtain ⟨xs, sq, q⟩ := g1.hr.list hi ho
      exact k β1 H1 _ (i1.trans Ex'.kill) g1.hr.kill (.lst sq (notMine_kill g1.hr hi) (q.mono Ex'.kill))
    · cases e
  · cases e
end
end Mi

/-! ### a[::-1] -/
namespace Mi
open PySem PySem.Spec PyProof.Rows L2 HT
section
variable {prog : Program} {w : World} {A : Around} {E : Value → Shared → Prop} {s : Shared}
theorem adjust_rev (n : Nat) : Builtin.Slice.sliceAdjust none none (-1) (n : Int) = ((n : Int) - 1, -1) := rfl
theorem places_rev (n : Nat) : Builtin.Slice.slicePlaces ((n : Int) - 1) (-1) (-1) = n := by
  unfold Builtin.Slice.slicePlaces
  rw [if_neg (by decide)]
  by_cases h : n = 0
  · subst h; rfl
  · rw [if_pos (by omega)]
    have e : (-(-1) : Int) = 1 := rfl
    rw [e, Int.ediv_one]
    omega
theorem sliceApplied_rev {sl : Addr} {vl vu vs : Value} {n : Nat} {Q : Int × Int × Nat → Shared → Prop} (hs : s.heap.IsSliceOf sl vl vu vs) (pl : IsPart vl none) (pu : IsPart vu none) (ps : IsPart vs (some (-1)))
    (h : Q ((n : Int) - 1, -1, n) s) : wpAny (model prog w) A (Builtin.Slice.sliceApplied (.ref sl) (pure (n : Int))) Q E s := by
  obtain ⟨os, hos, hcs, hds⟩ := id hs
  unfold Builtin.Slice.sliceApplied Builtin.Slice.sliceFields
  refine wpAny_bind (wpAny_bind (wpAny_field hos hds (x := vl) rfl (wpAny_bind (wpAny_field hos hds (x := vu) rfl (wpAny_bind (wpAny_field hos hds (x := vs) rfl (wpAny_pure ?_)))))))
  refine wpAny_bind (slicePart_ ps ?_)
  show wpAny _ _ (if ((-1 : Int) == 0) = true then _ else _) _ _ s
  rw [if_neg (by decide)]
  refine wpAny_bind (slicePart_ pl (wpAny_bind (slicePart_ pu (wpAny_bind (wpAny_pure ?_)))))
  show wpAny _ _ (match Builtin.Slice.sliceAdjust none none (-1) (n : Int) with | (lo, hi) => pure (lo, (-1 : Int), Builtin.Slice.slicePlaces lo hi (-1))) _ _ s
  rw [adjust_rev n]
  show wpAny _ _ (pure (((n : Int) - 1), (-1 : Int), Builtin.Slice.slicePlaces ((n : Int) - 1) (-1) (-1))) _ _ s
  rw [places_rev]
  exact wpAny_pure h
theorem pick_rev (xs : Array Value) : ((List.range xs.size).filterMap fun (m : Nat) => xs[((xs.size : Int) - 1 + (m : Int) * -1).toNat]?) = xs.toList.reverse := by
  apply List.ext_getElem?
  intro i
  have e : ∀ k, k ≤ xs.size → ((List.range k).filterMap fun (m : Nat) => xs[((xs.size : Int) - 1 + (m : Int) * -1).toNat]?) = (List.range k).map fun m => xs.toList.getD (xs.size - 1 - m) .none := by
    intro k
    induction k with
    | zero => intro _; rfl
    | succ k ih =>
      intro hk
      rw [List.range_succ, List.filterMap_append, List.map_append, ih (by omega)]
      congr 1
      have h1 : (((xs.size : Int) - 1 + (k : Int) * -1).toNat) = xs.size - 1 - k := by omega
      have h2 : xs.size - 1 - k < xs.size := by omega
      simp only [List.filterMap_cons, List.filterMap_nil, List.map_cons, List.map_nil, h1]
      rw [Array.getElem?_eq_getElem h2]
      simp [List.getD, h2]
  rw [e _ (Nat.le_refl _)]
  by_cases hi : i < xs.size
  · rw [List.getElem?_map, List.getElem?_range hi, List.getElem?_reverse (by simpa using hi)]
    have h2 : xs.size - 1 - i < xs.size := by omega
    simp [List.getD, h2]
  · rw [List.getElem?_eq_none (by simp; omega), List.getElem?_eq_none (by simp; omega)]
theorem getItem_tuple_rev {t sl : Addr} {items : Array Value} {vl vu vs : Value} {Q : Value → Shared → Prop} (ht : IsTup s.heap t items) (hs : s.heap.IsSliceOf sl vl vu vs) (pl : IsPart vl none) (pu : IsPart vu none) (ps : IsPart vs (some (-1)))
    (h : Q (.ref s.heap.objs.size) { s with heap := s.heap.push { cls := .type "tuple", data := .seq items.toList.reverse.toArray } })
    (hsz : items.size ≤ sizeLine) : wpAny (model prog w) A (getItem (.ref t) (.ref sl)) Q E s := by
  have htake : sizeOk (.seq items.toList.reverse.toArray) := by
    show items.toList.reverse.toArray.size ≤ sizeLine
    rw [List.size_toArray, List.length_reverse, Array.length_toList]
    exact hsz
  obtain ⟨os, hos, hcs, hds⟩ := id hs
  have hTs : s.TypeIs (.ref sl) "slice" := ⟨os, hos, hcs⟩
  unfold getItem
  try with_reducible refine wpAny_holding ?_
  first | refine wpAny_bind (wpAny_pure ?_) | skip
  refine wpAny_bind (wpAny_sequenceKey ht.typeIs (by decide) ?_)
  refine wpAny_bind (wpAny_callSpecial?_slot (name := Str.ofString "__getitem__") ht.typeIs PyProof.Rows.slot_tuple_getitem
    (wpAny_call_entry PyProof.Rows.slot_tuple_getitem ht.typeIs entry_tuple_getitem ?_ (args_tuple_getitem _ _)))
  show wpAny _ _ (Builtin.Tuple.tupleItemsOf (.ref t) >>= _) _ _ s
  refine wpAny_bind (tupleItemsOf_ ht ?_)
  refine wpAny_bind (wpAny_typeOf hTs ?_)
  rw [if_pos (by decide)]
  refine wpAny_bind (sliceApplied_rev hs pl pu ps ?_)
  have hno : ¬ ((((items.size : Int) - 1 == 0) && ((-1 : Int) == 1) && (items.size == items.size)) = true) := by
    intro q
    rw [Bool.and_eq_true, Bool.and_eq_true] at q
    exact absurd q.1.2 (by decide)
  show wpAny _ _ (if (((items.size : Int) - 1 == 0) && ((-1 : Int) == 1) && (items.size == items.size)) = true then _ else _) _ _ s
  rw [if_neg hno, pick_rev]
  first
    | exact wpAny_bind (m := Builtin.Tuple.tupleExact _) (wpAny_newObj_type (wpAny_pure ⟨_, rfl, wpAny_pure h⟩) htake)
    | exact wpAny_bind (m := Builtin.Tuple.tupleExact _) (wpAny_newObj_type (wpAny_bind (wpAny_pure (wpAny_pure ⟨_, rfl, wpAny_pure h⟩))) htake)
    | exact wpAny_bind (wpAny_bind (m := Builtin.Tuple.tupleExact _) (wpAny_newObj_type (wpAny_pure (wpAny_pure ⟨_, rfl, wpAny_pure h⟩)) htake))
    | exact wpAny_bind (wpAny_bind (m := Builtin.Tuple.tupleExact _) (wpAny_newObj_type (wpAny_pure ⟨_, rfl, wpAny_pure h⟩) htake))
end
def tRevA (K : PySem.W.Frag) (te : TE) : TE := fun σ H Q => te σ H fun x H1 => (∃ a xs, x = .ref a ∧ SqL K H1 a xs ∧ ∀ p, H1 p = none → Q (.ref p) (upd H1 p (.lst xs.reverse))) ∨ (∃ a xs, x = .ref a ∧ SqT K H1 a xs ∧ ∀ p, H1 p = none → Q (.ref p) (upd H1 p (.tup xs.reverse)))
section
variable {X : Cx} {T : Tb} {w : World} {F : Fn}
theorem pe_revA {e : Expr} {te : TE} {k : Nat} {p1 p2 p3 pos : Pos} (he : PE X e te) : PE X (.Subscript e (.Slice none none (some (.UnaryOp .USub (.Constant (.int 1) k p1) p2)) p3) pos) (tRevA X.K te) := by
  refine ⟨fun pins s σ H Q I h => ?_⟩
  refine Subscript_ (thn (he.run pins s σ H _ I h) fun v s1 ⟨x, H1, I1, r1, q1⟩ => ?_)
  have stp : PO X (some (.UnaryOp .USub (.Constant (.int 1) k p1) p2)) (tPart (tUn (rU fun i => .int (-i)) (tC (.int 1)))) := po_some (pe_un un_neg pe_int)
  refine wpAny_Slice (thn (po_none.run pins s1 σ H1 (fun o H2 => o = none ∧ H2 = H1) I1 ⟨rfl, rfl⟩) fun vl s2 ⟨l, H2, I2, pl, el, e2⟩ => ?_)
  subst el e2
  refine thn (po_none.run pins s2 σ H2 (fun o H3 => o = none ∧ H3 = H2) I2 ⟨rfl, rfl⟩) fun vu s3 ⟨u, H3, I3, pu, eu, e3⟩ => ?_
  subst eu e3
  refine thn (stp.run pins s3 σ H3 (fun o H4 => o = some (-1) ∧ H4 = H3) I3 ⟨1, rfl, -1, rfl, rfl, rfl⟩) fun vs s4 ⟨o, H4, I4, ps, eo, e4⟩ => ?_
  subst eo e4
  have I5 : Inv X pins σ H4 { s4 with heap := s4.heap.push { cls := .type "slice", data := .fields #[vl, vu, vs] } } := I4.kept (t' := s4.toks) fun b ob q => Heap.get?_push_of_some _ q
  rcases q1 with ⟨a, xs, ex, hx, q⟩ | ⟨a, xs, ex, hx, q⟩
  · subst ex
    cases r1
    obtain ⟨its, r, ht, hz⟩ := I5.list hx
    have hlen := r.length
    show wpAny (model X.prog X.w) X.A (subscriptTail e (.Slice none none (some (.UnaryOp .USub (.Constant (.int 1) k p1) p2)) p3) (.ref a) (.ref s4.heap.objs.size)) (EP X pins σ Q) X.xe { s4 with heap := s4.heap.push { cls := .type "slice", data := .fields #[vl, vu, vs] } }
    refine tail_any (ops := [.ref a, .ref s4.heap.objs.size]) ht.isList.typeIs (PySem.slot_list_getitem.lookup) ?_ (by with_unfolding_all rfl)
    refine wpAny_getItem_list_slice ht.isList (Heap.IsSliceOf.new _ vl vu vs) pl pu ps (by decide) ?_ (by rw [List.size_toArray]; omega)
    rw [PySem.W.krv_pick]
    refine ⟨.ref _, _, I5.laid (t' := s4.toks) (o := .lst xs.reverse) (fun b ob q => Heap.get?_push_of_some _ q) (Nat.le_refl _) ?_, rfl, q _ (I5.hok.fresh (Nat.le_refl _))⟩
    exact ⟨by rw [List.length_reverse]; exact hz, _, 0, r.reverse, Heap.get?_push_size _ rfl⟩
  · subst ex
    cases r1
    obtain ⟨its, r, ht, hz⟩ := I5.tuple hx
    have hlen := r.length
    show wpAny (model X.prog X.w) X.A (subscriptTail e (.Slice none none (some (.UnaryOp .USub (.Constant (.int 1) k p1) p2)) p3) (.ref a) (.ref s4.heap.objs.size)) (EP X pins σ Q) X.xe { s4 with heap := s4.heap.push { cls := .type "slice", data := .fields #[vl, vu, vs] } }
    refine tail_any (ops := [.ref a, .ref s4.heap.objs.size]) ht.typeIs (PyProof.Rows.slot_tuple_getitem.lookup) ?_ (by with_unfolding_all rfl)
    refine getItem_tuple_rev ht (Heap.IsSliceOf.new _ vl vu vs) pl pu ps ?_ (by rw [List.size_toArray]; omega)
    refine ⟨.ref _, _, I5.laid (t' := s4.toks) (o := .tup xs.reverse) (fun b ob q => Heap.get?_push_of_some _ q) (Nat.le_refl _) ?_, rfl, q _ (I5.hok.fresh (Nat.le_refl _))⟩
    exact ⟨by rw [List.length_reverse]; exact hz, _, r.reverse, IsTup.new _ _⟩
theorem e_rev {a : Ex} {p : Expr} {k : Nat} {p1 p2 p3 pos : Pos} (hK : X.K = T.K) (ha : PE X p (tE T w F a)) : PE X (.Subscript p (.Slice none none (some (.UnaryOp .USub (.Constant (.int 1) k p1) p2)) p3) pos) (tE T w F (.rev a)) := by
  refine PE.of (pe_revA ha) fun σ H Q h => ?_
  obtain ⟨Av, β, hm, σm, v, hm', g, e, k⟩ := h
  simp only [evE] at e
  (split at e; (case h_2 => cases e); rename_i x h1 e1)
  refine tE_then g e1 fun β1 H1 x1 i1 g1 r1 => ?_
  unfold revV at e
  split at e
  · obtain ⟨rfl, rfl⟩ := out_inj e
    obtain ⟨q, xs, rfl, sq, _, rs⟩ := r1.lst'
    exact .inl ⟨q, xs, rfl, .inl (.inl sq), fun z hz => (k.after i1).lst g1.hr rs.reverse hz⟩
  · obtain ⟨rfl, rfl⟩ := out_inj e
    obtain ⟨q, xs, rfl, sq, rs⟩ := r1.tup'
    rw [← hK] at sq
    exact .inr ⟨q, xs, rfl, sq, fun z hz => (k.after i1).tup g1.hr rs.reverse hz⟩
  · cases e
end
end Mi

namespace Mi
open PySem PySem.Spec PyProof.Rows L2

def bname : Blt → Str
  | .len => "len" | .int => "int" | .list => "list" | .tuple => "tuple" | .abs => "abs" | .sum => "sum" | .all => "all" | .any => "any"
  | .min => "min" | .max => "max" | .divmod => "divmod" | .sorted => "sorted" | .repr => "repr"
def tname : Ty → String
  | .int => "int" | .bool => "bool" | .str => "str" | .tuple => "tuple" | .list => "list"
/-- no star -/
def flatE : Expr → Bool
  | .Starred .. => false
  | _ => true
theorem star1 {p : Expr} (h : flatE p = true) (es : List Expr) (env : Env) : starEach (p :: es) env = (false, eval p env) :: starEach es env := by
  cases p <;> first | rfl | cases h
theorem star_plain {pos : Pos} {env : Env} : ∀ {es : List Expr}, es.all flatE = true → (backTo pos (starEach es env)).any (·.1) = false
  | [], _ => rfl
  | p :: es, h => by
    rw [List.all_cons, Bool.and_eq_true] at h
    rw [star1 h.1]
    show (false || (backTo pos (starEach es env)).any (·.1)) = false
    rw [star_plain h.2]
    rfl
theorem star_few {pos : Pos} {env : Env} : ∀ {es : List Expr}, es.all flatE = true → (backTo pos (starEach es env)).all (fun x => !x.1) = true
  | [], _ => rfl
  | p :: es, h => by
    rw [List.all_cons, Bool.and_eq_true] at h
    rw [star1 h.1]
    show (!false && (backTo pos (starEach es env)).all (fun x => !x.1)) = true
    rw [star_few h.2]
    rfl
section
variable {X : Cx} {T : Tb} {w : World} {F : Fn} {pos : Pos}
theorem e_blt {b : Blt} {l : List Ex} {p : Pos} {q : Expr} {es : List Expr} (hK : X.K = T.K) (hw : X.w = w) (hc : X.calm = true) (hgd : X.A.guards = some []) (hu : X.A.units + 66 < cLine)
    (hg : Gl X (bname b)) (hm : X.mg (bname b) = none) (ha : PA X (q :: es) (tAs T w F l)) (hf : (q :: es).all flatE = true) : PE X (.Call (.Name (bname b) p) (q :: es) [] pos) (tE T w F (.blt b l)) := by
  have hs := star1 (by rw [List.all_cons, Bool.and_eq_true] at hf; exact hf.1) es X.env
  have hp : (backTo pos (starEach es X.env)).any (·.1) = false := star_plain (by rw [List.all_cons, Bool.and_eq_true] at hf; exact hf.2)
  have hr := blt_ok (T := T) hK hw hc hgd hu b
  have main : PE X (.Call (.Name (bname b) p) (q :: es) [] pos) (tCB (rB T (hsOf w) (Mi.blt b)) (tAs T w F l)) := by
    cases b with
    | len => exact pe_callB hr hg hm PySem.boot_len ha (by decide) (by decide) hs hp
    | int => exact pe_callTy hr hg hm PyProof.Rows.boot_int ha (by decide) (by decide) hs hp
    | list => exact pe_callTy hr hg hm PyProof.Rows.boot_list ha (by decide) (by decide) hs hp
    | tuple => exact pe_callTy hr hg hm PyProof.Rows.boot_tuple ha (by decide) (by decide) hs hp
    | abs => exact pe_callB hr hg hm PyProof.Rows.boot_abs ha (by decide) (by decide) hs hp
    | sum => exact pe_callB hr hg hm PyProof.Rows.boot_sum ha (by decide) (by decide) hs hp
    | all => exact pe_callB hr hg hm PyProof.Rows.boot_all ha (by decide) (by decide) hs hp
    | any => exact pe_callB hr hg hm PyProof.Rows.boot_any ha (by decide) (by decide) hs hp
    | min => exact pe_callB hr hg hm PyProof.Rows.boot_min ha (by decide) (by decide) hs hp
    | max => exact pe_callB hr hg hm PyProof.Rows.boot_max ha (by decide) (by decide) hs hp
    | divmod => exact pe_callB hr hg hm PyProof.Rows.boot_divmod ha (by decide) (by decide) hs hp
    | sorted => exact pe_callB hr hg hm PyProof.Rows.boot_sorted ha (by decide) (by decide) hs hp
    | repr => exact pe_callB hr hg hm PyProof.Rows.boot_repr ha (by decide) (by decide) hs hp
  refine PE.of main fun σ H Q h => ?_
  obtain ⟨Av, β, hm, σm, v, hm', g, e, k⟩ := h
  simp only [evE] at e
  (split at e; (case h_2 => cases e); rename_i vs h1 e1)
  exact tAs_then g e1 fun β1 H1 xs i1 g1 r1 => ⟨Av, β1, h1, vs, v, hm', g1.hr, r1, e, k.after i1⟩
/-! ### isinstance -/
theorem tyX_of {L : Addr → Prop} {β : List Addr} {H : Hp} {m : MV} {x : V} {t : Ty} {hm : MH} {k : Bool} (r : RV T L β H m x) (h : isTy t hm m = some k) : ∃ u, TyX T.K H x u ∧ PySem.W.kitOne T.K u (.type (tname t)) = some k := by
  cases r with
  | non => refine ⟨_, .base .non, ?_⟩; cases h; cases t <;> exact kit_ty (by decide +kernel)
  | bl b => refine ⟨_, .base (.bl b), ?_⟩; cases h; cases t <;> exact kit_ty (by decide +kernel)
  | int i => refine ⟨_, .base (.int i), ?_⟩; cases h; cases t <;> exact kit_ty (by decide +kernel)
  | str z => refine ⟨_, .base (.str z), ?_⟩; cases h; cases t <;> exact kit_ty (by decide +kernel)
  | tup h1 _ _ =>
    cases h
    rcases h1 with h1 | ⟨o, h1⟩
    · exact ⟨_, .base (.tup h1), by cases t <;> exact kit_ty (by decide +kernel)⟩
    · exact ⟨_, .fTuple h1, by cases t <;> exact kit_ty (by decide +kernel)⟩
  | tupK h1 _ =>
    cases h
    obtain ⟨o, its, n, h1, h2, _⟩ := h1
    exact ⟨_, .kTuple h1 h2, by cases t <;> exact kit_ty (by decide +kernel)⟩
  | lst h1 _ _ =>
    cases h
    exact ⟨_, .base (.lst h1), by cases t <;> exact kit_ty (by decide +kernel)⟩
  | _ => cases h
theorem e_isi {a : Ex} {t : Ty} {p : Expr} {p1 p2 : Pos} {tn : Str} (hK : X.K = T.K) (ha : PE X p (tE T w F a)) (hf : flatE p = true) (hg : Gl X "isinstance") (hm : X.mg "isinstance" = none) (hgt : Gl X tn) (hmt : X.mg tn = none)
    (htn : tn = Str.ofString (tname t)) : PE X (.Call (.Name "isinstance" p1) [p, .Name tn p2] [] pos) (tE T w F (.isi a t)) := by
  have ht : PE X (.Name tn p2) (tC (.ty (tname t))) := by
    subst htn
    cases t
    · exact pe_bltn hgt hmt PyProof.Rows.boot_int rfl (by decide) (by decide)
    · exact pe_bltn hgt hmt PyProof.Rows.boot_bool rfl (by decide) (by decide)
    · exact pe_bltn hgt hmt PyProof.Rows.boot_str rfl (by decide) (by decide)
    · exact pe_bltn hgt hmt PyProof.Rows.boot_tuple rfl (by decide) (by decide)
    · exact pe_bltn hgt hmt PyProof.Rows.boot_list rfl (by decide) (by decide)
  refine PE.of (pe_callB call_isi hg hm PyProof.Rows.boot_isinstance (pa_cons ha (pa_cons ht pa_nil) (star1 hf _ _)) (by decide) (by decide) (star1 hf _ _) rfl) fun σ H Q h => ?_
  obtain ⟨Av, β, hm, σm, v, hm', g, e, k⟩ := h
  simp only [evE] at e
  (split at e; (case h_2 => cases e); rename_i m h1 e1)
  split at e
  · rename_i c hc
    obtain ⟨rfl, rfl⟩ := out_inj e
    refine tE_then g e1 fun β1 H1 x1 i1 g1 r1 => ?_
    obtain ⟨u, ty, kt⟩ := tyX_of r1 hc
    exact ⟨x1, .ty (tname t), u, _, c, rfl, .ty _, hK ▸ ty, hK ▸ kt, (k.after i1).same g1.hr (.bl _)⟩
  · cases e
/-! ### methods of lists -/
def mname : Mth → Str
  | .append => "append" | .extend => "extend" | .pop => "pop" | .get => "get" | .remove => "remove" | .join => "join"
/-- no super() -/
def baseE : Expr → Bool
  | .Call (.Name _ _) [] [] _ => false
  | _ => true
theorem base_ok {o : Expr} (h : baseE o = true) (m : Str) (env : Env) : attributeBase o m env (eval o env) = eval o env := by
  unfold attributeBase
  split
  · cases h
  · rfl
theorem rcv_list {m : Mth} {i : Nat} {h : MH} (hm : m ≠ .get) (hj : m ≠ .join) (e : rcv m (.loc i) h = true) : ∃ l, h[i]? = some (.lst l) := by
  cases m with
  | get => exact absurd rfl hm
  | join => exact absurd rfl hj
  | append =>
    have e' : (match h[i]? with | some (.lst _) => true | some (.dt _) => false | _ => false) = true := e
    split at e'
    · exact ⟨_, by assumption⟩
    · cases e'
    · cases e'
  | extend =>
    have e' : (match h[i]? with | some (.lst _) => true | some (.dt _) => false | _ => false) = true := e
    split at e'
    · exact ⟨_, by assumption⟩
    · cases e'
    · cases e'
  | pop =>
    have e' : (match h[i]? with | some (.lst _) => true | some (.dt _) => false | _ => false) = true := e
    split at e'
    · exact ⟨_, by assumption⟩
    · cases e'
    · cases e'
  | remove =>
    have e' : (match h[i]? with | some (.lst _) => true | some (.dt _) => false | _ => false) = true := e
    split at e'
    · exact ⟨_, by assumption⟩
    · cases e'
    · cases e'
theorem rcv_dict {i : Nat} {h : MH} (e : rcv .get (.loc i) h = true) : ∃ l, h[i]? = some (.dt l) := by
  have e' : (match h[i]? with | some (.lst _) => false | some (.dt _) => true | _ => false) = true := e
  split at e'
  · cases e'
  · exact ⟨_, by assumption⟩
  · cases e'
theorem rcv_loc {m : Mth} {v : MV} {h : MH} (hj : m ≠ .join) (e : rcv m v h = true) : ∃ i, v = .loc i := by
  unfold rcv at e
  split at e
  · exact ⟨_, rfl⟩
  · cases m <;> first | (cases e; done) | exact absurd rfl hj
  · cases e
def rM (T : Tb) (w : World) (m : Mth) : V → List V → Hp → VK → Prop := fun x xs H Q => ∃ (Av : Addr → Prop) (β : List Addr) (hm : MH) (o : MV) (l : List MV) (v : MV) (hm' : MH),
  HR T (hsOf w) Av β hm H ∧ RV T (lv Av β hm) β H o x ∧ RVs T (lv Av β hm) β H l xs ∧ mth m o l hm = .ok v hm' ∧ Kp T (hsOf w) Av β hm H v hm' Q
theorem MtR.of {id : String} {r r' : V → List V → Hp → VK → Prop} (h : MtR X id r) (i : ∀ x xs H Q, r' x xs H Q → r x xs H Q) : MtR X id r' := fun pins s σ H x xs v us Q I rx rs q => h pins s σ H x xs v us Q I rx rs (i _ _ _ _ q)
/-- a list that is written -/
theorem wr_list {Av : Addr → Prop} {β : List Addr} {hm : MH} {H : Hp} {i : Nat} {a : Addr} {l l' : List MV} {ys : List V} {v : MV} {x : V} {Q : VK} (hr : HR T (hsOf w) Av β hm H) (hi : β[i]? = some a) (ho : hm[i]? = some (.lst l))
    (q : RVs T (lv Av β hm) β H l' ys) (k : Kp T (hsOf w) Av β hm H v (hm.set i (.lst l')) Q) (rv : RV T (lv Av β hm) β H v x) : Q x (upd H a (.lst ys)) := by
  have ew := Ex'.write (u := .lst ys) (o' := .lst l') hr hi ho (fun z => nomatch z)
  exact k β _ x ew (hr.write hi ho (fun z => nomatch z) (.lst (q.mono ew))) (rv.mono ew)
theorem mAppend_ok : MtR X "list.append" (rM T w .append) := by
  refine MtR.of mt_append fun x xs H Q h => ?_
  obtain ⟨Av, β, hm, o, l, v, hm', hr, ro, rl, e, k⟩ := h
  have e : mApp o l hm = .ok v hm' := e
  unfold mApp at e
  split at e
  · rename_i i m
    split at e
    · rename_i ys ho
      obtain ⟨a, rfl, hi⟩ := ro.loc'
      obtain ⟨x1, rfl, r1⟩ := rl.one'
      obtain ⟨zs, sq, q⟩ := hr.list hi ho
      split at e
      · rename_i hz
        have hz := of_decide_eq_true hz
        obtain ⟨rfl, rfl⟩ := out_inj e
        exact ⟨a, zs, x1, rfl, rfl, sq, by rw [← q.length, sizeLine_eq]; omega, wr_list hr hi ho (q.append (.one r1)) k .non⟩
      · cases e
    · cases e
  · cases e
theorem mExtend_ok : MtR X "list.extend" (rM T w .extend) := by
  refine MtR.of mt_extend fun x xs H Q h => ?_
  obtain ⟨Av, β, hm, o, l, v, hm', hr, ro, rl, e, k⟩ := h
  have e : mExt o l hm = .ok v hm' := e
  unfold mExt at e
  split at e
  · rename_i i m
    split at e
    · rename_i ys ho
      obtain ⟨a, rfl, hi⟩ := ro.loc'
      obtain ⟨x1, rfl, r1⟩ := rl.one'
      obtain ⟨b, us, rfl, sb, _, qb⟩ := r1.lst'
      obtain ⟨zs, sq, q⟩ := hr.list hi ho
      split at e
      · rename_i hz
        have hz := of_decide_eq_true hz
        obtain ⟨rfl, rfl⟩ := out_inj e
        exact ⟨a, b, zs, us, rfl, rfl, sq, sb, by rw [← q.length, ← qb.length, sizeLine_eq]; omega, wr_list hr hi ho (q.append qb) k .non⟩
      · cases e
    · cases e
  · cases e
theorem mPop_ok : MtR X "list.pop" (rM T w .pop) := by
  refine MtR.of mt_pop fun x xs H Q h => ?_
  obtain ⟨Av, β, hm, o, l, v, hm', hr, ro, rl, e, k⟩ := h
  have e : mPop o l hm = .ok v hm' := e
  unfold mPop at e
  split at e
  · rename_i i
    split at e
    · rename_i ys ho
      obtain ⟨a, rfl, hi⟩ := ro.loc'
      cases rl.nil_l
      obtain ⟨zs, sq, q⟩ := hr.list hi ho
      split at e
      · rename_i m hm1
        obtain ⟨rfl, rfl⟩ := out_inj e
        obtain ⟨y, hy, ry⟩ := q.get hm1
        rw [q.length] at hy
        exact ⟨a, zs, y, rfl, rfl, sq, hy, wr_list hr hi ho q.dropLast k ry⟩
      · cases e
    · cases e
  · cases e
/-! one is taken out of a list: the first equal one -/
def rRemD (K : PySem.W.Frag) : V → List V → Hp → VK → Prop := fun x xs H Q => ∃ (l : Addr) (ys : List V) (y : V) (d : PyData) (ds : List PyData) (j : Nat), x = .ref l ∧ xs = [y] ∧ H l = some (.lst ys) ∧ DpAll K H ys ds ∧ Dp K H y d ∧
  SeqAt.shaped (.list ds) = true ∧ SeqAt.shaped d = true ∧ ds.findIdx? (fun z => PyData.eqv z d) = some j ∧ Q .non (upd H l (.lst (ys.eraseIdx j)))
theorem mt_removeD (hu : X.A.units + 65 < cLine) : MtM X "list.remove" (rRemD X.K) := by
  intro pins s σ H x xs v us Q I rx rxs h
  obtain ⟨a, ys, y, d, ds, j, rfl, rfl, hl, ha, hy, sl, sd, hj, q⟩ := h
  cases rx
  cases rxs with
  | cons ry rt =>
    rename_i uy ut
    cases rt
    obtain ⟨bs, r1⟩ := Dp.reads I d y uy hy ry
    have hxs : PyData.canLayAll0 ds = true := SeqAt.canLay_of_shaped sl
    have hroom : X.A.units + 1 + min (PyData.depthAll ds) d.depth < cLine := room_in_shaped sd hu
    obtain ⟨z, its, n, r, hlen, e⟩ := I.lstM hl
    obtain ⟨as, h4⟩ := Dp.readsAll I ds _ its ha r
    have hmap : its.map (SeqAt.readOf s.heap) = ds := SeqAt.readsAll_map ds its as hxs h4
    have hvl := r.length
    have hn : its.length = ds.length := by rw [← hmap, List.length_map]
    obtain ⟨hj1, hj2, hj3⟩ := List.findIdx?_eq_some_iff_getElem.mp hj
    have hjl : j < its.toArray.size := by rw [List.size_toArray]; omega
    have at_ : ∀ (m : Nat) (hm : m < its.toArray.size) (z' : PyData), ds[m]? = some z' → SeqAt.readOf s.heap its.toArray[m] = z' := by
      intro m hm z' hz'
      have hml : m < its.length := by simpa using hm
      rw [← hmap, List.getElem?_map, List.getElem?_eq_getElem hml] at hz'
      have e1 : SeqAt.readOf s.heap its[m] = z' := Option.some.inj (show some (SeqAt.readOf s.heap its[m]) = some z' from hz')
      simpa using e1
    refine call_meets PySem.F.slot_list_remove ⟨_, e, rfl⟩ PySem.F.entry_list_remove (PySem.F.args_list_remove_2 _ _)
      (SeqAt.list_removeAt a its.toArray n none #[] uy (fun u => PyData.eqv (SeqAt.readOf s.heap u) d) j hjl ?_ ?_ (by rw [List.size_toArray]; omega)) ⟨e, SeqAt.items_eqAt (vs := its.toArray) (show ReadsAll s.heap its.toArray.toList ds as from h4) r1 hxs (SeqAt.canLay_of_shaped sd) hroom, ?_⟩
    · show PyData.eqv (SeqAt.readOf s.heap its.toArray[j]) d = true
      rw [at_ j hjl _ (List.getElem?_eq_getElem hj1)]
      exact hj2
    · intro m hm hmj
      show PyData.eqv (SeqAt.readOf s.heap its.toArray[m]) d = false
      rw [at_ m hm _ (List.getElem?_eq_getElem (show m < ds.length by omega))]
      have := hj3 m hmj
      simpa using this
    · refine ⟨.non, _, I.lset (its' := its.eraseIdx j) (t' := s.toks) hl e ?_ (r.eraseIdx j) ?_, rfl, q⟩
      · show its.toArray.eraseIdxIfInBounds j = (its.eraseIdx j).toArray
        rw [List.eraseIdxIfInBounds_toArray]
      · rw [List.length_eraseIdx]
        split <;> omega
theorem RVs.eraseIdx {T : Tb} {L : Addr → Prop} {β : List Addr} {H : Hp} : ∀ {l : List MV} {xs : List V} (j : Nat), RVs T L β H l xs → RVs T L β H (l.eraseIdx j) (xs.eraseIdx j)
  | _, _, _, .nil => .nil
  | _, _, 0, .cons _ b => b
  | _, _, j + 1, .cons a b => .cons a (RVs.eraseIdx j b)
theorem mRem_ok (hK : X.K = T.K) (hu : X.A.units + 65 < cLine) : MtR X "list.remove" (rM T w .remove) := by
  refine MtR.of (mt_removeD hu) fun x xs H Q h => ?_
  obtain ⟨Av, β, hm, o, l, v, hm', hr, ro, rl, e, k⟩ := h
  have e : mRem o l hm = .ok v hm' := e
  unfold mRem at e
  split at e
  · rename_i i m
    split at e
    · rename_i ys ho
      obtain ⟨a, rfl, hi⟩ := ro.loc'
      obtain ⟨x1, rfl, r1⟩ := rl.one'
      obtain ⟨zs, sq, q⟩ := hr.list hi ho
      split at e
      · rename_i j hj
        obtain ⟨rfl, rfl⟩ := out_inj e
        unfold remM at hj
        split at hj
        · rename_i d ds e1 e2
          split at hj
          · rename_i c
            rw [Bool.and_eq_true] at c
            exact ⟨a, zs, x1, d, ds, j, rfl, rfl, sq, hK ▸ q.dp e2, hK ▸ r1.dp e1, c.2, c.1, hj, wr_list hr hi ho (q.eraseIdx j) k .non⟩
          · cases hj
        · cases hj
      · cases e
    · cases e
  · cases e
theorem tyList {Av : Addr → Prop} {β : List Addr} {hm : MH} {H : Hp} {m : MV} {x : V} {o : Mth} (ho : o ≠ .get) (hj : o ≠ .join) (hr : HR T (hsOf w) Av β hm H) (r : RV T (lv Av β hm) β H m x) (h : rcv o m hm = true) (K : PySem.W.Frag) : tyV K "list" x H := by
  obtain ⟨i, rfl⟩ := rcv_loc hj h
  obtain ⟨a, rfl, hi⟩ := r.loc'
  obtain ⟨l, hl⟩ := rcv_list ho hj h
  obtain ⟨xs, sq, _⟩ := hr.list hi hl
  exact .inl ⟨rfl, xs, SqL.of_lst sq⟩
theorem mth_split {m : Mth} {o : Ex} {l : List Ex} {σm : MS} {hm hm' : MH} {v : MV} {G : Gm} (e : evE G F (.mth m o l) σm hm = .ok v hm') : ∃ x h1 vs h2, evE G F o σm hm = .ok x h1 ∧ rcv m x h1 = true ∧ evL G F l σm h1 = .ok vs h2 ∧ mth m x vs h2 = .ok v hm' := by
  simp only [evE] at e
  (split at e; (case h_2 => cases e); rename_i x h1 e1)
  split at e
  · rename_i hr
    (split at e; (case h_2 => cases e); rename_i vs h2 e2)
    exact ⟨x, h1, vs, h2, e1, hr, e2, e⟩
  · cases e
theorem e_mthL {m : Mth} {o : Ex} {l : List Ex} {p q : Expr} {es : List Expr} {apos cpos : Pos} (hK : X.K = T.K) (hu : X.A.units + 65 < cLine) (hmm : m = .append ∨ m = .extend ∨ m = .remove) (ho : PE X p (tE T w F o)) (ha : PA X (q :: es) (tAs T w F l)) (hb : baseE p = true) (hf : (q :: es).all flatE = true)
    (hn : (q :: es).length < 20) (hl : (apos.endLine == cpos.line) = true) : PE X (.Call (.Attribute p (mname m) apos) (q :: es) [] cpos) (tE T w F (.mth m o l)) := by
  have hs := star1 (by rw [List.all_cons, Bool.and_eq_true] at hf; exact hf.1) es X.env
  have hp : (backTo cpos (starEach es X.env)).any (·.1) = false := star_plain (by rw [List.all_cons, Bool.and_eq_true] at hf; exact hf.2)
  have few : ((backTo cpos (starEach (q :: es) X.env)).all (fun x => !x.1) && (backToKw cpos (keywordEach [] X.env)).all (fun x => x.1.isSome)
      && decide ((q :: es).length + ([] : List Keyword).length + (if ([] : List Keyword).isEmpty then 0 else 1) < 30)) = true := by
    rw [star_few hf]
    simp only [List.length_nil, List.isEmpty_nil, if_true, Bool.true_and]
    rw [Bool.and_eq_true]
    exact ⟨rfl, decide_eq_true (by omega)⟩
  have fin : ∀ σ H Q, tE T w F (.mth m o l) σ H Q → tBM X.K "list" (rM T w m) (tE T w F o) (tAs T w F l) σ H Q := fun σ H Q h => by
    obtain ⟨Av, β, hm, σm, v, hm', g, e, k⟩ := h
    obtain ⟨x, h1, vs, h2, e1, er, e2, e3⟩ := mth_split e
    refine tE_then g e1 fun β1 H1 x1 i1 g1 r1 => ⟨tyList (by rcases hmm with rfl | rfl | rfl <;> exact fun z => nomatch z) (by rcases hmm with rfl | rfl | rfl <;> exact fun z => nomatch z) g1.hr r1 er X.K, ?_⟩
    exact tAs_then g1 e2 fun β2 H2 xs i2 g2 r2 => ⟨Av, β2, h2, x, vs, v, hm', g2.hr, r1.mono i2, r2, e3, k.after (i1.trans i2)⟩
  rcases hmm with rfl | rfl | rfl
  · exact PE.of (pe_bm PySem.F.plainAttrs_list PySem.F.slot_list_append PySem.F.type_list_append mAppend_ok ho ha (base_ok hb _ _) few hl hs hp) fin
  · exact PE.of (pe_bm PySem.F.plainAttrs_list PySem.F.slot_list_extend PySem.F.type_list_extend mExtend_ok ho ha (base_ok hb _ _) few hl hs hp) fin
  · exact PE.of (pe_bm PySem.F.plainAttrs_list PySem.F.slot_list_remove PySem.F.type_list_remove (mRem_ok hK hu) ho ha (base_ok hb _ _) few hl hs hp) fin
theorem e_pop {o : Ex} {p : Expr} {apos cpos : Pos} (ho : PE X p (tE T w F o)) (hb : baseE p = true) (hl : (apos.endLine == cpos.line) = true) : PE X (.Call (.Attribute p "pop" apos) [] [] cpos) (tE T w F (.mth .pop o [])) := by
  refine PE.of (pe_bm0 PySem.F.plainAttrs_list PySem.F.slot_list_pop PySem.F.type_list_pop (mPop_ok (T := T) (w := w)) ho (base_ok hb _ _) hl) fun σ H Q h => ?_
  obtain ⟨Av, β, hm, σm, v, hm', g, e, k⟩ := h
  obtain ⟨x, h1, vs, h2, e1, er, e2, e3⟩ := mth_split e
  simp only [evL] at e2
  obtain ⟨rfl, rfl⟩ := out_inj e2
  exact tE_then g e1 fun β1 H1 x1 i1 g1 r1 => ⟨tyList (o := .pop) (by decide) (by decide) g1.hr r1 er X.K, ⟨Av, β1, h1, x, [], v, hm', g1.hr, r1, .nil, e3, k.after i1⟩⟩
def bListM (l : List MV) (h : MH) : Out MV := match l with
  | [v] => match asSeq h v with
    | some l => .ok (.loc h.length) (h ++ [.lst l])
    | none => .bad
  | _ => .bad
theorem bListM_ok (hK : X.K = T.K) : CallR X (.type "list") (rB T (hsOf w) bListM) := by
  intro pins s σ H xs us Q I r h
  obtain ⟨Av, β, hm, l, v, hm', hr, rl, e, k⟩ := h
  unfold bListM at e
  split at e
  · obtain ⟨x, rfl, rx⟩ := rl.one'
    split at e
    · rename_i l' e1
      obtain ⟨rfl, rfl⟩ := out_inj e
      obtain ⟨a, ys, rfl, sq, q⟩ := asSeq_ok hr rx e1
      exact call_list_of pins s σ H _ us Q I r ⟨a, ys, rfl, by rw [hK]; exact sq, fun p hp => k.loc hr hp (.lst (q.mono (Ex'.alloc hr.len hp)))⟩
    · cases e
  · cases e
/-- list(x), to be changed -/
theorem e_lstM {a : Ex} {p : Expr} {p1 : Pos} (hK : X.K = T.K) (ha : PE X p (tE T w F a)) (hf : flatE p = true) (hg : Gl X "list") (hm : X.mg "list" = none) : PE X (.Call (.Name "list" p1) [p] [] pos) (tE T w F (.lstM a)) := by
  refine PE.of (pe_callTy (bListM_ok (T := T) (w := w) hK) hg hm PyProof.Rows.boot_list (pa_cons ha pa_nil (star1 hf _ _)) (by decide) (by decide) (star1 hf _ _) rfl) fun σ H Q h => ?_
  obtain ⟨Av, β, hm, σm, v, hm', g, e, k⟩ := h
  simp only [evE] at e
  (split at e; (case h_2 => cases e); rename_i x h1 e1)
  refine tE_then g e1 fun β1 H1 x1 i1 g1 r1 => ⟨Av, β1, h1, [x], v, hm', g1.hr, .cons r1 .nil, e, k.after i1⟩
end
end Mi

namespace Mi
open PySem PySem.Spec PyProof.Rows L2

section
variable {X : Cx} {T : Tb} {w : World} {F : Fn} {pos : Pos}
/-! ### is True, is not False -/
theorem isB_split {a : Ex} {b : Bool} {σm : MS} {hm hm' : MH} {v : MV} {G : Gm} (e : evE G F (.isB a b) σm hm = .ok v hm') : ∃ x, evE G F a σm hm = .ok (.bl x) hm' ∧ v = .bl (decide (x = b)) := by
  simp only [evE] at e
  split at e
  · obtain ⟨rfl, rfl⟩ := out_inj e
    exact ⟨_, by assumption, rfl⟩
  · cases e
theorem niB_split {a : Ex} {b : Bool} {σm : MS} {hm hm' : MH} {v : MV} {G : Gm} (e : evE G F (.niB a b) σm hm = .ok v hm') : ∃ x, evE G F a σm hm = .ok (.bl x) hm' ∧ v = .bl (!decide (x = b)) := by
  simp only [evE] at e
  split at e
  · obtain ⟨rfl, rfl⟩ := out_inj e
    exact ⟨_, by assumption, rfl⟩
  · cases e
theorem e_isB {a : Ex} {b : Bool} {p : Expr} {j : Nat} {pos' : Pos} (ha : PE X p (tE T w F a)) : PE X (.Compare p [.Is] [.Constant (.bool b) j pos'] pos) (tE T w F (.isB a b)) := by
  refine PE.of (pe_cmpR op_is_bl ha (pe_bl (b := b)) (by rfl)) fun σ H Q h => ?_
  obtain ⟨Av, β, hm, σm, v, hm', g, e, k⟩ := h
  obtain ⟨x, e1, rfl⟩ := isB_split e
  refine tE_then g e1 fun β1 H1 x1 i1 g1 r1 => ?_
  exact ⟨x, b, r1.bl', rfl, (k.after i1).same g1.hr (.bl _)⟩
theorem e_niB {a : Ex} {b : Bool} {p : Expr} {j : Nat} {pos' : Pos} (ha : PE X p (tE T w F a)) : PE X (.Compare p [.IsNot] [.Constant (.bool b) j pos'] pos) (tE T w F (.niB a b)) := by
  refine PE.of (pe_cmpR op_isnot_bl ha (pe_bl (b := b)) (by rfl)) fun σ H Q h => ?_
  obtain ⟨Av, β, hm, σm, v, hm', g, e, k⟩ := h
  obtain ⟨x, e1, rfl⟩ := niB_split e
  refine tE_then g e1 fun β1 H1 x1 i1 g1 r1 => ?_
  exact ⟨x, b, r1.bl', rfl, (k.after i1).same g1.hr (.bl _)⟩
theorem t_isB {a : Ex} {b : Bool} {p : Expr} {j : Nat} {pos' : Pos} (ha : PE X p (tE T w F a)) : PT X (.Compare p [.Is] [.Constant (.bool b) j pos'] pos) (tT T w F (.isB a b)) := by
  refine PT.of (pt_cmpR op_is_bl ha (pe_bl (b := b)) (by rfl)) fun σ H Q h => ?_
  obtain ⟨Av, β, hm, σm, v, hm', c, g, e, t, k⟩ := h
  obtain ⟨x, e1, rfl⟩ := isB_split e
  cases t
  refine tE_then g e1 fun β1 H1 x1 i1 g1 r1 => ?_
  exact ⟨x, b, r1.bl', rfl, _, rfl, k β1 H1 i1 g1.hr⟩
theorem t_niB {a : Ex} {b : Bool} {p : Expr} {j : Nat} {pos' : Pos} (ha : PE X p (tE T w F a)) : PT X (.Compare p [.IsNot] [.Constant (.bool b) j pos'] pos) (tT T w F (.niB a b)) := by
  refine PT.of (pt_cmpR op_isnot_bl ha (pe_bl (b := b)) (by rfl)) fun σ H Q h => ?_
  obtain ⟨Av, β, hm, σm, v, hm', c, g, e, t, k⟩ := h
  obtain ⟨x, e1, rfl⟩ := niB_split e
  cases t
  refine tE_then g e1 fun β1 H1 x1 i1 g1 r1 => ?_
  exact ⟨x, b, r1.bl', rfl, _, rfl, k β1 H1 i1 g1.hr⟩
/-! ### texts -/
theorem log1000 {i : Int} (h : i.natAbs < 2 ^ 1000) : i.natAbs.log2 < 1920 := Nat.lt_trans (PySem.Flt.log2_lt_of (by decide) h) (by decide)
theorem fmtM_ok {L : Addr → Prop} {β : List Addr} {H : Hp} {m : MV} {x : V} {s : Str} (r : RV T L β H m x) (e : fmtM m = some s) : (∃ y : Str, x = .str y ∧ y.length ≤ sizeLine ∧ s = y) ∨ ∃ i : Int, x = .int i ∧ i.natAbs.log2 < 1920 ∧ s = toString i := by
  unfold fmtM at e
  split at e
  · rename_i i
    split at e
    · rename_i hc
      cases e
      cases r.int'
      exact .inr ⟨i, rfl, log1000 (of_decide_eq_true hc), rfl⟩
    · cases e
  · rename_i z
    split at e
    · rename_i hc
      cases e
      cases r.str'
      exact .inl ⟨s, rfl, n100 (of_decide_eq_true hc), rfl⟩
    · cases e
  · cases e
theorem e_fmt {a : Ex} {p : Expr} (ha : PE X p (tE T w F a)) : PE X (.FormattedValue p (-1) none pos) (tE T w F (.fmt a)) := by
  refine PE.of (pe_fmt ha) fun σ H Q h => ?_
  obtain ⟨Av, β, hm, σm, v, hm', g, e, k⟩ := h
  simp only [evE] at e
  (split at e; (case h_2 => cases e); rename_i m h1 e1)
  split at e
  · rename_i s hs
    obtain ⟨rfl, rfl⟩ := out_inj e
    refine tE_then g e1 fun β1 H1 x1 i1 g1 r1 => ?_
    rcases fmtM_ok r1 hs with ⟨y, rfl, hz, rfl⟩ | ⟨i, rfl, hz, rfl⟩
    · exact .inl ⟨s, rfl, hz, (k.after i1).same g1.hr (.str _)⟩
    · exact .inr ⟨i, rfl, hz, (k.after i1).same g1.hr (.str _)⟩
  · cases e
/-- the parts one behind the other -/
theorem tJs_ok : ∀ {l : List Ex} {acc out : Str} {Av : Addr → Prop} {β : List Addr} {hm hm' : MH} {σm : MS} {σ : L2.St} {H : Hp} {vs : List MV} {Q : VK}, Sg T w Av β hm H σm σ → evL T.G F l σm hm = .ok vs hm' → catM acc vs = some out →
    Kp T (hsOf w) Av β hm H (.str out) hm' Q → tJs (l.map (tE T w F)) acc σ H fun o H1 => Q (.str o) H1
  | [], acc, out, Av, β, hm, hm', σm, σ, H, vs, Q, g, e, c, k => by
    simp only [evL] at e
    obtain ⟨rfl, rfl⟩ := out_inj e
    have c : some acc = some out := by simpa only [catM] using c
    cases c
    exact k.same g.hr (.str _)
  | a :: l, acc, out, Av, β, hm, hm', σm, σ, H, vs, Q, g, e, c, k => by
    simp only [evL] at e
    (split at e; (case h_2 => cases e); rename_i x h1 e1)
    (split at e; (case h_2 => cases e); rename_i xs h2 e2)
    obtain ⟨rfl, rfl⟩ := out_inj e
    show tE T w F a σ H _
    refine tE_then g e1 fun β1 H1 x1 i1 g1 r1 => ?_
    cases x with
    | str y =>
      cases r1.str'
      have c2 : (if decide ((acc ++ y).length ≤ 100000) = true then catM (acc ++ y) xs else none) = some out := by simpa only [catM] using c
      split at c2
      · rename_i hc
        exact ⟨y, rfl, n100 (of_decide_eq_true hc), tJs_ok g1 e2 c2 (k.after i1)⟩
      · cases c2
    | _ => simp only [catM] at c; cases c
theorem e_fstr1 {a : Ex} {p : Expr} (ha : PE X p (tE T w F a)) : PE X (.JoinedStr [p] pos) (tE T w F (.fstr [a])) := by
  refine PE.of (pe_joined1 ha) fun σ H Q h => ?_
  obtain ⟨Av, β, hm, σm, v, hm', g, e, k⟩ := h
  simp only [evE, evL] at e
  (split at e; (case h_2 => cases e); rename_i vs h1 e1)
  (split at e1; (case h_2 => cases e1); rename_i x h2 e2)
  obtain ⟨rfl, rfl⟩ := out_inj e1
  split at e
  · rename_i s hs
    obtain ⟨rfl, rfl⟩ := out_inj e
    cases x with
    | str y =>
      have c2 : (if decide ((Str.empty ++ y).length ≤ 100000) = true then some (Str.empty ++ y) else none) = some s := by simpa only [catM] using hs
      split at c2
      · cases c2
        have ee : Str.empty ++ y = y := by
          cases y
          show Str.mk (#[] ++ _) = _
          rw [Array.empty_append]
        rw [ee] at k
        exact ⟨Av, β, hm, σm, .str y, _, g, e2, k⟩
      · cases c2
    | _ => simp only [catM] at hs; cases hs
  · cases e
theorem e_fstr {l : List Ex} {p q : Expr} {es : List Expr} (ha : PJ X (p :: q :: es) (l.map (tE T w F))) : PE X (.JoinedStr (p :: q :: es) pos) (tE T w F (.fstr l)) := by
  refine PE.of (pe_joined ha) fun σ H Q h => ?_
  obtain ⟨Av, β, hm, σm, v, hm', g, e, k⟩ := h
  simp only [evE] at e
  (split at e; (case h_2 => cases e); rename_i vs h1 e1)
  split at e
  · rename_i s hs
    obtain ⟨rfl, rfl⟩ := out_inj e
    exact tJs_ok g e1 hs k
  · cases e
theorem RVs.strs {L : Addr → Prop} {β : List Addr} {H : Hp} : ∀ {l : List MV} {xs : List V} {ys : List Str}, RVs T L β H l xs → strsM l = some ys → xs = ys.map V.str
  | [], _, _, .nil, e => by cases e; rfl
  | a :: l, _, ys, .cons r t, e => by
    cases a with
    | str z =>
      have e : (strsM l).map (z :: ·) = some ys := e
      cases h : strsM l with
      | none => rw [h] at e; cases e
      | some zs =>
        rw [h] at e
        cases e
        rw [t.strs h, r.str']
        rfl
    | _ => cases e
theorem mJoin_ok (hK : X.K = T.K) : MtR X "str.join" (rM T w .join) := by
  refine MtR.of mt_join fun x xs H Q h => ?_
  obtain ⟨Av, β, hm, o, l, v, hm', hr, ro, rl, e, k⟩ := h
  have e : mJoin o l hm = .ok v hm' := e
  unfold mJoin at e
  split at e
  · split at e
    · rename_i ys hys
      obtain ⟨hc, rfl, rfl⟩ := ite_ok e
      cases ro.str'
      obtain ⟨x1, rfl, r1⟩ := rl.one'
      obtain ⟨p, us, rfl, sq, _, q⟩ := r1.lst'
      cases q.strs hys
      have hc := of_decide_eq_true hc
      exact ⟨_, p, ys, rfl, rfl, .inl (SqL.of_lst sq), Nat.le_trans hc (by decide), k.same hr (.str _)⟩
    · cases e
  · cases e
theorem e_join {o a : Ex} {p q : Expr} {apos cpos : Pos} (hK : X.K = T.K) (ho : PE X p (tE T w F o)) (ha : PE X q (tE T w F a)) (hb : baseE p = true) (hf : flatE q = true) (hl : (apos.endLine == cpos.line) = true) :
    PE X (.Call (.Attribute p "join" apos) [q] [] cpos) (tE T w F (.mth .join o [a])) := by
  refine PE.of (pe_m1 PySem.F.slot_str_join PySem.F.type_str_join (mJoin_ok (T := T) (w := w) hK) ho ha (star1 hf _ _) (base_ok hb _ _) hl) fun σ H Q h => ?_
  obtain ⟨Av, β, hm, σm, v, hm', g, e, k⟩ := h
  obtain ⟨x, h1, vs, h2, e1, er, e2, e3⟩ := mth_split e
  simp only [evL] at e2
  (split at e2; (case h_2 => cases e2); rename_i y h3 e4)
  obtain ⟨rfl, rfl⟩ := out_inj e2
  refine tE_then g e1 fun β1 H1 x1 i1 g1 r1 => ?_
  have hx : ∃ z, x1 = .str z := by
    cases x with
    | str z => exact ⟨z, r1.str'⟩
    | loc i =>
      have er : (match h1[i]? with | some (.lst _) => false | some (.dt _) => false | _ => false) = true := er
      split at er <;> cases er
    | _ => cases er
  exact ⟨hx, tE_then g1 e4 fun β2 H2 y1 i2 g2 r2 => ⟨Av, β2, h3, x, [y], v, hm', g2.hr, r1.mono i2, .cons r2 .nil, e3, k.after (i1.trans i2)⟩⟩
end
end Mi

namespace Mi
open PySem PySem.Spec PyProof.Rows L2

section
variable {X : Cx} {T : Tb} {w : World} {F : Fn} {pos : Pos}
theorem mGet_ok (hK : X.K = T.K) (hw : X.w = w) (hu : X.A.units + 66 < cLine) : MtR X "dict.get" (rM T w .get) := by
  subst hw
  intro pins s σ H x xs v us Q I rx rxs h
  obtain ⟨Av, β, hm, o, l, m, hm', hr, ro, rl, e, k⟩ := h
  have e : mGet o l hm = .ok m hm' := e
  unfold mGet at e
  split at e
  · rename_i i km dm
    split at e
    · rename_i kvs ho
      split at e
      · rename_i q hq
        obtain ⟨rfl, rfl⟩ := out_inj e
        obtain ⟨a, rfl, hi⟩ := ro.loc'
        obtain ⟨x1, y1, rfl, r1, r2⟩ := rl.two'
        obtain ⟨ys, ob, re, dk, low, hx, _, _⟩ := hr.dict I hK hi ho
        obtain ⟨ka, rfl, hk⟩ := RV.keyIs I hK r1 hq
        cases rx
        obtain ⟨u1, u2, rfl, s1, s2⟩ := vals2 rxs
        cases s1
        refine call_meetsIn F.slot_dict_get dk.typeIs F.entry_dict_get (F.args_dict_get_3 _ _ _) (meetsH_dict_get_default (nestedKind X.prog X.w) a ka low u2) ⟨by show X.A.units + 1 + 8 < cLine; omega, q, ys, hk, dk, ?_⟩
        rcases REs.at q re with ⟨a1, a2⟩ | ⟨m', x', u', b', a1, a2, a3, a4⟩
        · rw [a1]
          rw [a2] at k
          exact ⟨y1, H, I.tok _, s2, k.same hr r2⟩
        · rw [a1]
          rw [a2] at k
          exact ⟨x', H, I.tok _, a4, k.same hr a3⟩
      · cases e
    · cases e
  · cases e
theorem e_get {o : Ex} {l : List Ex} {p q : Expr} {es : List Expr} {apos cpos : Pos} (hK : X.K = T.K) (hw : X.w = w) (hu : X.A.units + 66 < cLine) (ho : PE X p (tE T w F o)) (ha : PA X (q :: es) (tAs T w F l)) (hb : baseE p = true)
    (hf : (q :: es).all flatE = true) (hn : (q :: es).length < 20) (hl : (apos.endLine == cpos.line) = true) : PE X (.Call (.Attribute p "get" apos) (q :: es) [] cpos) (tE T w F (.mth .get o l)) := by
  have hs := star1 (by rw [List.all_cons, Bool.and_eq_true] at hf; exact hf.1) es X.env
  have hp : (backTo cpos (starEach es X.env)).any (·.1) = false := star_plain (by rw [List.all_cons, Bool.and_eq_true] at hf; exact hf.2)
  have few : ((backTo cpos (starEach (q :: es) X.env)).all (fun x => !x.1) && (backToKw cpos (keywordEach [] X.env)).all (fun x => x.1.isSome)
      && decide ((q :: es).length + ([] : List Keyword).length + (if ([] : List Keyword).isEmpty then 0 else 1) < 30)) = true := by
    rw [star_few hf]
    simp only [List.length_nil, List.isEmpty_nil, if_true, Bool.true_and]
    rw [Bool.and_eq_true]
    exact ⟨rfl, decide_eq_true (by omega)⟩
  refine ⟨fun pins s σ H Q I h => ?_⟩
  obtain ⟨Av, β, hm, σm, v, hm', g, e, k⟩ := h
  obtain ⟨x, h1, vs, h2, e1, er, e2, e3⟩ := mth_split e
  refine wpAny_Call_method (base_ok hb _ _) few hl PySem.F.plainAttrs_dict PySem.F.slot_dict_get PySem.F.type_dict_get (thn (ho.run pins s σ H (fun z H1 => ∃ β1, Ex' β hm H β1 h1 H1 ∧ Sg T w Av β1 h1 H1 σm σ ∧ RV T (lv Av β1 h1) β1 H1 x z) I (tE_then g e1 fun β1 H1 z i1 g1 r1 => ⟨β1, i1, g1, r1⟩)) fun u s1 ⟨z, H1, I1, rz, β1, i1, g1, r1⟩ => ?_)
  obtain ⟨i, rfl⟩ := rcv_loc (by decide) er
  obtain ⟨a, rfl, hi⟩ := r1.loc'
  obtain ⟨kvs, hkv⟩ := rcv_dict er
  have g1hr := g1.hr
  rw [← hw] at g1hr
  obtain ⟨ys, ob, re, dk, low, hx, hob, ed⟩ := g1hr.dict I1 hK hi hkv
  cases rz
  refine ⟨dk.typeIs, fun b eb => ?_, ?_⟩
  · cases eb
    exact ⟨ob, hob, ed.2.1⟩
  have hA := ha.run cpos pins s1 σ H1 (fun xs H2 => ∃ β2, Ex' β1 h1 H1 β2 h2 H2 ∧ Sg T w Av β2 h2 H2 σm σ ∧ RVs T (lv Av β2 h2) β2 H2 vs xs) I1 (tAs_then g1 e2 fun β2 H2 xs i2 g2 r2 => ⟨β2, i2, g2, r2⟩)
  rw [hs] at hA ⊢
  refine Calls.callWith_builtin (by show (false || (backTo cpos (starEach es X.env)).any (·.1)) = false; rw [hp] <;> rfl) (Calls.evalArgs_plain ?_)
  refine thn hA fun us s2 ⟨xs, H2, I2, rs, β2, i2, g2, r2⟩ => ?_
  exact mGet_ok hK hw hu pins s2 σ H2 (.ref a) xs (.ref a) us Q I2 rfl rs ⟨Av, β2, h2, .loc i, vs, v, hm', g2.hr, r1.mono i2, r2, e3, k.after (i1.trans i2)⟩
theorem e_dic0 : PE X (.Dict [] [] pos) (tE T w F .dic0) := by
  refine ⟨fun pins s σ H Q I h => ?_⟩
  obtain ⟨Av, β, hm, σm, v, hm', g, e, k⟩ := h
  simp only [evE] at e
  obtain ⟨rfl, rfl⟩ := out_inj e
  have hn : H s.heap.objs.size = none := I.hok.fresh (Nat.le_refl _)
  have look : (s.heap.push { cls := .type "dict", data := .dict #[] }).get? s.heap.objs.size = some { cls := .type "dict", data := .dict #[] } := Heap.get?_push_size _ rfl
  have low : (s.heap.objs.size == sysModules) = false := beq_eq_false_iff_ne.mpr (Nat.ne_of_gt I.big)
  refine wpAny_Dict_empty ⟨.ref s.heap.objs.size, upd H s.heap.objs.size (.ext fun h => h.get? s.heap.objs.size = some { cls := .type "dict", data := .dict #[] }), I.laid (t' := s.toks) (fun b u e => Heap.get?_push_of_some _ e) (Nat.le_refl _) ⟨look, ⟨_, look⟩, fun h1 h2 z1 z2 => z2 _ z1⟩, rfl, ?_⟩
  exact k.loc g.hr hn (.dt .nil .nil ⟨rfl, rfl, rfl⟩ rfl rfl low)
end

/-! ### a dict of one entry: the dict itself is there first -/
section
variable {T : Tb} {w : World} {Av : Addr → Prop} {β : List Addr} {hm : MH} {H : Hp} {p : Addr} {u : HO} {σm : MS} {σ : L2.St}
def avo (Av : Addr → Prop) (p : Addr) : Addr → Prop := fun a => Av a ∨ a = p
theorem lv_avo {a : Addr} (h : lv (avo Av p) β hm a) : lv Av β hm a ∨ a = p := by
  rcases h with (h | h) | h
  · exact .inl (.inl h)
  · exact .inr h
  · exact .inl (.inr h)
theorem RV.avoid {T : Tb} (hp : H p = none) {m : MV} {x : V} (r : RV T (lv Av β hm) β H m x) : RV T (lv (avo Av p) β hm) β (upd H p u) m x :=
  r.imp (fun _ _ e => e) fun a o h n => ⟨by rw [upd_ne (ne_of_none h hp)]; exact h, fun q => (lv_avo q).elim n (fun e => by subst e; rw [hp] at h; cases h)⟩
theorem Sg.avoid (g : Sg T w Av β hm H σm σ) (hp : H p = none) : Sg T w (avo Av p) β hm (upd H p u) σm σ := by
  have nb : ∀ a ∈ β, a ≠ p := fun a ha e => by subst e; exact g.hr.thr a ha hp
  refine ⟨⟨g.hr.len, g.hr.nd, fun a ha q => ?_, fun a ha => ?_, fun a ha => ?_, fun i a o h1 h2 h3 => ?_⟩, g.ss.1, fun i v h => ?_⟩
  · rcases q with q | q
    · exact g.hr.av a ha q
    · exact nb a ha q
  · rw [upd_ne (nb a ha)]; exact g.hr.thr a ha
  · rcases ha with ha | rfl
    · have : a ≠ p := fun e => by subst e; exact g.hr.avt a ha hp
      rw [upd_ne this]; exact g.hr.avt a ha
    · rw [upd_same]; exact fun z => nomatch z
  · obtain ⟨v, hv, r⟩ := g.hr.obj i a o h1 h2 h3
    exact ⟨v, by rw [upd_ne (ne_of_none hv hp)]; exact hv, r.imp fun _ _ z => z.avoid hp⟩
  · obtain ⟨x, h1, h2⟩ := g.ss.2 i v h
    exact ⟨x, h1, h2.avoid hp⟩
variable {β2 : List Addr} {hm2 : MH} {H2 : Hp} {u2 : HO} {o : MO}
theorem RV.adopt {T : Tb} (hl : β2.length = hm2.length) {m : MV} {x : V} (r : RV T (lv (avo Av p) β2 hm2) β2 H2 m x) : RV T (lv Av (β2 ++ [p]) (hm2 ++ [o])) (β2 ++ [p]) (upd H2 p u2) m x := by
  refine r.imp (fun i a e => by rw [List.getElem?_append_left (List.getElem?_eq_some_iff.mp e).1]; exact e) fun a v h n => ?_
  have ne : a ≠ p := fun e => n (.inl (.inr e))
  refine ⟨by rw [upd_ne ne]; exact h, fun q => ?_⟩
  rcases q with q | ⟨i, m', e1, e2, e3⟩
  · exact n (.inl (.inl q))
  · by_cases hi : i < β2.length
    · rw [List.getElem?_append_left hi] at e1
      rw [List.getElem?_append_left (by omega)] at e2
      exact n (.inr ⟨i, m', e1, e2, e3⟩)
    · rw [List.getElem?_append_right (by omega)] at e1
      have := List.mem_of_getElem? e1
      rw [List.mem_singleton] at this
      exact ne this
theorem HR.adopt (hpa : ¬ Av p) (h : HR T (hsOf w) (avo Av p) β2 hm2 H2) (r : RO T (lv Av (β2 ++ [p]) (hm2 ++ [o])) (β2 ++ [p]) (upd H2 p u2) (hsOf w) o p u2) : HR T (hsOf w) Av (β2 ++ [p]) (hm2 ++ [o]) (upd H2 p u2) := by
  have nb : ∀ a ∈ β2, a ≠ p := fun a ha e => h.av a ha (.inr e)
  have np : p ∉ β2 := fun q => nb p q rfl
  refine ⟨by simp [h.len], ?_, fun a ha q => ?_, fun a ha => ?_, fun a ha => ?_, fun i a m h1 h2 h3 => ?_⟩
  · rw [List.nodup_append]
    refine ⟨h.nd, by simp, fun a ha b hb q => ?_⟩
    rw [List.mem_singleton] at hb
    subst hb q
    exact np ha
  · rcases List.mem_append.mp ha with z | z
    · exact h.av a z (.inl q)
    · rw [List.mem_singleton] at z
      subst z
      exact hpa q
  · rcases List.mem_append.mp ha with z | z
    · rw [upd_ne (nb a z)]; exact h.thr a z
    · rw [List.mem_singleton] at z
      subst z
      rw [upd_same]; exact fun z => nomatch z
  · by_cases e : a = p
    · subst e; rw [upd_same]; exact fun z => nomatch z
    · rw [upd_ne e]; exact h.avt a (.inl ha)
  · by_cases hi : i < β2.length
    · rw [List.getElem?_append_left hi] at h1
      rw [List.getElem?_append_left (by have := h.len; omega)] at h2
      obtain ⟨v, hv, rr⟩ := h.obj i a m h1 h2 h3
      exact ⟨v, by rw [upd_ne (nb a (List.mem_of_getElem? h1))]; exact hv, rr.imp fun _ _ z => z.adopt h.len⟩
    · rw [List.getElem?_append_right (by omega)] at h1
      rw [List.getElem?_append_right (by have := h.len; omega)] at h2
      have e1 := List.mem_of_getElem? h1
      have e2 := List.mem_of_getElem? h2
      rw [List.mem_singleton] at e1 e2
      subst e1 e2
      exact ⟨u2, upd_same, r⟩
end

section
variable {X : Cx} {T : Tb} {w : World} {F : Fn} {pos : Pos}
theorem dic1_split {a b : Ex} {σm : MS} {hm hm' : MH} {v : MV} {G : Gm} (e : evE G F (.dic1 a b) σm hm = .ok v hm') : ∃ x h1 y h2 q, evE G F a σm hm = .ok x h1 ∧ evE G F b σm h1 = .ok y h2 ∧ keyT x = some q ∧ v = .loc h2.length ∧ hm' = h2 ++ [.dt [(x, y)]] := by
  simp only [evE] at e
  (split at e; (case h_2 => cases e); rename_i x h1 e1)
  (split at e; (case h_2 => cases e); rename_i y h2 e2)
  split at e
  · rename_i q hq
    obtain ⟨rfl, rfl⟩ := out_inj e
    exact ⟨x, h1, y, h2, q, e1, e2, hq, rfl, rfl⟩
  · cases e
theorem e_dic1 {a b : Ex} {p q : Expr} (hK : X.K = T.K) (hw : X.w = w) (hu : X.A.units + 66 < cLine) (ha : PE X p (tE T w F a)) (hb : PE X q (tE T w F b)) : PE X (.Dict [some p] [q] pos) (tE T w F (.dic1 a b)) := by
  subst hw
  refine ⟨fun pins s σ H Q I h => ?_⟩
  obtain ⟨Av, β, hm, σm, v, hm', g, e, k⟩ := h
  obtain ⟨x, h1, y, h2, kq, e1, e2, hq, rfl, rfl⟩ := dic1_split e
  have hn : H s.heap.objs.size = none := I.hok.fresh (Nat.le_refl _)
  have nAv : ¬ Av s.heap.objs.size := fun z => g.hr.avt _ z hn
  have look : (s.heap.push { cls := .type "dict", data := .dict #[] }).get? s.heap.objs.size = some { cls := .type "dict", data := .dict #[] } := Heap.get?_push_size _ rfl
  have low : (s.heap.objs.size == sysModules) = false := beq_eq_false_iff_ne.mpr (Nat.ne_of_gt I.big)
  generalize hd : s.heap.objs.size = d at hn nAv look low
  let u0 : HO := .ext fun h => h.get? d = some { cls := .type "dict", data := .dict #[] }
  have I0 : Inv X pins σ (upd H d u0) { s with heap := s.heap.push { cls := .type "dict", data := .dict #[] } } :=
    I.laid (t' := s.toks) (fun b u e => Heap.get?_push_of_some _ e) (Nat.le_of_eq hd) ⟨look, ⟨_, look⟩, fun h1 h2 z1 z2 => z2 _ z1⟩
  have g0 := g.avoid (u := u0) hn
  let pairs : List (Sem Value × Sem Value) := [(eval p X.env, do let x ← eval q X.env; standAt pos; pure x)]
  have shape : (evalEachOpt [some p] X.env).zip ((evalEach [q] X.env).map fun v => do let x ← v; standAt pos; pure x) = pairs.map fun p => (some p.1, p.2) := rfl
  rw [arm_eval_Dict, shape, dictDisplay_pairs pairs (List.cons_ne_nil _ _) (by show (1 : Nat) < 17; decide)]
  refine wpAny_bind (wpAny_standAt (wpAny_bind (wpAny_subDictH (knd := nestedKind X.prog X.w) (by show X.A.units + 8 < cLine; omega) (by show (1 : Nat) ≤ 15; decide) ?_)))
  rw [hd]
  show wpAny _ _ (do let kv ← eval p X.env; let vv ← holding [kv] (do let x ← eval q X.env; standAt pos; pure x); return (kv, vv) :: (← holding [kv, vv] (evalPairs []))) _ _ _
  refine wpAny_bind (thn (ha.run pins _ σ _ (fun z H1 => ∃ β1, Ex' β hm (upd H d u0) β1 h1 H1 ∧ Sg T X.w (avo Av d) β1 h1 H1 σm σ ∧ RV T (lv (avo Av d) β1 h1) β1 H1 x z) I0 (tE_then g0 e1 fun β1 H1 z i1 g1 r1 => ⟨β1, i1, g1, r1⟩)) fun ku s1 ⟨kz, H1, I1, rk, β1, i1, g1, r1⟩ => ?_)
  refine wpAny_bind (wpAny_holding (wpAny_bind (thn (hb.run pins s1 σ H1 (fun z H2 => ∃ β2, Ex' β1 h1 H1 β2 h2 H2 ∧ Sg T X.w (avo Av d) β2 h2 H2 σm σ ∧ RV T (lv (avo Av d) β2 h2) β2 H2 y z) I1 (tE_then g1 e2 fun β2 H2 z i2 g2 r2 => ⟨β2, i2, g2, r2⟩)) fun vu s2 ⟨vz, H2, I2, rvz, β2, i2, g2, r2⟩ => ?_)))
  refine wpAny_bind (wpAny_standAt (wpAny_pure (wpAny_bind (wpAny_holding (wpAny_pure (wpAny_pure ?_))))))
  obtain ⟨ka, rfl, isk⟩ := RV.keyIs I2 hK (r1.mono i2) hq
  cases rk
  have there : (s2.heap.get? d = some { cls := .type "dict", data := .dict #[] }) ∧ H2 d = some u0 := by
    have hd2 : H2 d = some u0 := by
      have m0 : ¬ mine β hm d := fun z => g.hr.thr d (mineThere g.hr z) hn
      have h1d := i1.frm d u0 upd_same m0
      have m1 : ¬ mine β1 h1 d := fun z => g1.hr.av d (mineThere g1.hr z) (.inr rfl)
      exact i2.frm d u0 h1d m1
    exact ⟨(I2.hok d u0 hd2).1, hd2⟩
  obtain ⟨hd1, hd2⟩ := there
  refine ⟨[(kq, ka, vu)], ⟨rfl, rfl, isk, trivial⟩, ⟨_, #[], 0, hd1, ⟨rfl, rfl, rfl⟩, rfl, rfl, (fun x hx => nomatch hx), List.nodup_nil⟩, fun h' tk dk sb => wpAny_pure ?_⟩
  obtain ⟨o', es', ep', ho', ed', dat', ent', _, nd'⟩ := dk
  have st : storedAllH [] [(kq, ka, vu)] = [(kq, ka, vu)] := rfl
  rw [st] at ent' nd'
  let u2 : HO := .ext fun h => h.get? d = some o'
  have I3 : Inv X pins σ (upd H2 d u2) { s2 with heap := h', toks := tk } := I2.write (x := d) (e := d) (t' := tk) (by rw [hd2]; trivial) (.inl rfl) (fun b o hb z => (sb.2 b hb).trans z) ⟨_, ho'⟩ ⟨ho', ⟨o', ho'⟩, fun h1 h2 z1 z2 => z2 _ z1⟩
  refine ⟨.ref d, upd H2 d u2, I3, rfl, ?_⟩
  have hr := HR.adopt (w := X.w) (u2 := u2) (o := .dt [(x, y)]) nAv g2.hr (.dt (.cons hq ((r1.mono i2).adopt g2.hr.len) (r2.adopt g2.hr.len) rvz .nil) nd' ed' dat' (by rw [ent']; rfl) low)
  refine k (β2 ++ [d]) (upd H2 d u2) (.ref d) ⟨fun i a z => ?_, fun a z => ?_, fun a o z n => ?_, fun a z => ?_⟩ hr (.loc (by rw [← g2.hr.len]; exact getLen))
  · have z2 := i2.pre i a (i1.pre i a z)
    rw [List.getElem?_append_left (List.getElem?_eq_some_iff.mp z2).1]; exact z2
  · obtain ⟨i, m, z1, z2, z3⟩ := z
    by_cases hi : i < β2.length
    · rw [List.getElem?_append_left hi] at z1
      rw [List.getElem?_append_left (by have := g2.hr.len; omega)] at z2
      have ne : a ≠ d := fun e => g2.hr.av a (List.mem_of_getElem? z1) (.inr e)
      rcases (i1.trans i2).liv a ⟨i, m, z1, z2, z3⟩ with q | q
      · exact .inl q
      · rw [upd_ne ne] at q; exact .inr q
    · rw [List.getElem?_append_right (by omega)] at z1
      have e1 := List.mem_of_getElem? z1
      rw [List.mem_singleton] at e1
      subst e1
      exact .inr hn
  · have ne : a ≠ d := ne_of_none z hn
    rw [upd_ne ne]
    exact (i1.trans i2).frm a o (by rw [upd_ne ne]; exact z) n
  · by_cases ne : a = d
    · subst ne; exact absurd hn z
    · rw [upd_ne ne]
      exact (i1.trans i2).thr a (by rw [upd_ne ne]; exact z)
end

/-! ### attributes -/
/-- the names of attributes are told apart -/
def Inj (T : Tb) : Prop := ∀ f g, T.an f = T.an g → f = g
section
variable {T : Tb} {L : Addr → Prop} {β : List Addr} {H : Hp}
theorem zip_look (inj : Inj T) {f : Nat} {m : MV} : ∀ {fl : List Nat} {l : List MV} {xs : List V}, RVs T L β H l xs → (fl.zip l).lookup f = some m → ∃ x, ((fl.map T.an).zip xs).lookup (T.an f) = some x ∧ RV T L β H m x
  | [], _, _, _, e => by simp at e
  | _ :: _, [], _, _, e => by simp at e
  | g :: fl, a :: l, _, .cons (v := x) (vs := xs) r t, e => by
    simp only [List.zip_cons_cons, List.lookup_cons, List.map_cons] at e ⊢
    by_cases q : f = g
    · subst q
      simp only [beq_self_eq_true] at e ⊢
      cases e
      exact ⟨x, rfl, r⟩
    · have q1 : (f == g) = false := beq_false_of_ne q
      have q2 : (T.an f == T.an g) = false := beq_false_of_ne fun z => q (inj _ _ z)
      rw [q1] at e
      rw [q2]
      exact zip_look inj t e
theorem RFs.look (inj : Inj T) {f : Nat} {m : MV} : ∀ {fs : List (Nat × MV)} {gs : List (Str × V)}, RFs T L β H fs gs → fs.lookup f = some m → ∃ x, gs.lookup (T.an f) = some x ∧ RV T L β H m x
  | _, _, .nil, e => by cases e
  | _, _, .cons (f := g) (x := x) r t, e => by
    simp only [List.lookup_cons] at e ⊢
    by_cases q : f = g
    · subst q
      simp only [beq_self_eq_true] at e ⊢
      cases e
      exact ⟨x, rfl, r⟩
    · have q1 : (f == g) = false := beq_false_of_ne q
      have q2 : (T.an f == T.an g) = false := beq_false_of_ne fun z => q (inj _ _ z)
      rw [q1] at e
      rw [q2]
      exact RFs.look inj t e
theorem RFs.put (inj : Inj T) {f : Nat} {m : MV} {x : V} (r : RV T L β H m x) : ∀ {fs : List (Nat × MV)} {gs : List (Str × V)}, RFs T L β H fs gs → RFs T L β H (putA f m fs) (putF (T.an f) x gs)
  | _, _, .nil => .cons r .nil
  | _, _, .cons (f := g) (fs := fs) (gs := gs) r' t => by
    unfold putA putF
    by_cases q : g = f
    · subst q
      simp only [if_true]
      exact .cons r t
    · have q2 : ¬ T.an g = T.an f := fun z => q (inj _ _ z)
      rw [if_neg q, if_neg q2]
      exact .cons r' (RFs.put inj r t)
theorem RFs.length : ∀ {fs : List (Nat × MV)} {gs : List (Str × V)}, RFs T L β H fs gs → fs.length = gs.length
  | _, _, .nil => rfl
  | _, _, .cons _ t => by rw [List.length_cons, List.length_cons, RFs.length t]
theorem RFs.vals : ∀ {fs : List (Nat × MV)} {gs : List (Str × V)}, RFs T L β H fs gs → ∃ xs, gs = ((fs.map (·.1)).map T.an).zip xs ∧ RVs T L β H (fs.map (·.2)) xs
  | _, _, .nil => ⟨[], rfl, .nil⟩
  | _, _, .cons (x := x) r t => by
    obtain ⟨xs, e, q⟩ := RFs.vals t
    exact ⟨x :: xs, by rw [e]; rfl, .cons r q⟩
end
/-- what the classes are; n: so many attributes' names -/
structure CsOk (T : Tb) (n : Nat) : Prop where
  cls : ∀ c cl, T.G.cls[c]? = some cl → Cls T.K (T.ca c)
  noat : ∀ c cl f, T.G.cls[c]? = some cl → f < n → NoAttr T.K (T.ca c) (T.an f)
section
variable {T : Tb} {w : World} {Av : Addr → Prop} {β : List Addr} {hm : MH} {H : Hp}
theorem HR.ins (h : HR T (hsOf w) Av β hm H) {i : Nat} {a : Addr} {c : Nat} {fs : List (Nat × MV)} (hi : β[i]? = some a) (ho : hm[i]? = some (.ins c fs)) : ∃ dx gs, H a = some (.ins (T.ca c) dx gs) ∧ RFs T (lv Av β hm) β H fs gs := by
  obtain ⟨u, hu, r⟩ := h.obj i a _ hi ho (fun z => nomatch z)
  cases r with
  | ins r => exact ⟨_, _, hu, r⟩
end
end Mi

namespace Mi
open PySem PySem.Spec PyProof.Rows L2

section
variable {X : Cx} {T : Tb} {w : World} {F : Fn} {pos : Pos}
theorem getF_ok (inj : Inj T) {n f : Nat} (cs : CsOk T n) (hf : f < n) {Av : Addr → Prop} {β : List Addr} {hm : MH} {H : Hp} {o m : MV} {x : V} (hr : HR T (hsOf w) Av β hm H) (r : RV T (lv Av β hm) β H o x) (e : getF T.G f hm o = some m) :
    ∃ a C dx fs v, x = .ref a ∧ H a = some (.ins C dx fs) ∧ Cls T.K C ∧ NoAttr T.K C (T.an f) ∧ fs.lookup (T.an f) = some v ∧ RV T (lv Av β hm) β H m v := by
  cases o with
  | obj c l =>
    have e' : (match T.G.cls[c]? with | some cl => (cl.flds.zip l).lookup f | none => none) = some m := e
    cases r with
    | obj hc hH nL hl q =>
      rw [hc] at e'
      obtain ⟨y, h1, h2⟩ := zip_look inj q e'
      exact ⟨_, _, _, _, y, rfl, hH, cs.cls _ _ hc, cs.noat _ _ _ hc hf, h1, h2⟩
  | loc i =>
    obtain ⟨a, rfl, hi⟩ := r.loc'
    have e' : (match hm[i]? with | some (.ins c fs) => (match T.G.cls[c]? with | some _ => fs.lookup f | none => none) | _ => none) = some m := e
    split at e'
    · rename_i c fs ho
      split at e'
      · rename_i cl hc
        obtain ⟨dx, gs, hH, q⟩ := hr.ins hi ho
        obtain ⟨y, h1, h2⟩ := q.look inj e'
        exact ⟨a, _, dx, gs, y, rfl, hH, cs.cls _ _ hc, cs.noat _ _ _ hc hf, h1, h2⟩
      · cases e'
    · cases e'
  | _ => cases e
theorem e_fld {o : Ex} {f n : Nat} {p : Expr} {y : Str} (hK : X.K = T.K) (inj : Inj T) (cs : CsOk T n) (hf : f < n) (hy : T.an f = y) (ho : PE X p (tE T w F o)) (hb : baseE p = true) : PE X (.Attribute p y pos) (tE T w F (.fld o f)) := by
  subst hy
  refine PE.of (pe_fld ho (base_ok hb _ _)) fun σ H Q h => ?_
  obtain ⟨Av, β, hm, σm, v, hm', g, e, k⟩ := h
  simp only [evE] at e
  (split at e; (case h_2 => cases e); rename_i x h1 e1)
  split at e
  · rename_i m hm1
    obtain ⟨rfl, rfl⟩ := out_inj e
    refine tE_then g e1 fun β1 H1 x1 i1 g1 r1 => ?_
    obtain ⟨a, C, dx, fs, y, e1, e2, e3, e4, e5, e6⟩ := getF_ok inj cs hf g1.hr r1 hm1
    exact ⟨a, C, dx, fs, y, e1, e2, hK ▸ e3, hK ▸ e4, e5, (k.after i1).same g1.hr e6⟩
  · cases e
end

/-! ### the promise of a def -/
def spF (T : Tb) (w : World) (F : Fn) (np j : Nat) : SpG := fun vs H Q => ∃ (Av : Addr → Prop) (β : List Addr) (hm : MH) (l : List MV) (v : MV) (hm' : MH),
  HR T (hsOf w) Av β hm H ∧ RVs T (lv Av β hm) β H l vs ∧ l.length = np ∧ F j l hm = .ok v hm' ∧ Kp T (hsOf w) Av β hm H v hm' Q
/-! what is frozen behind a pure call -/
section
variable {T : Tb} {w : World}
mutual
theorem RV.froz {Av : Addr → Prop} {β β2 : List Addr} {hm hm2 : MH} {H2 : Hp} (h : HR T (hsOf w) (lv Av β hm) β2 hm2 H2) : ∀ {m m' : MV} {x : V}, RV T (lv (lv Av β hm) β2 hm2) β2 H2 m x → frz hm2 m = some m' → RV T (lv Av β hm) β H2 m' x
  | _, _, _, .non, e => by simp only [frz, Option.some.injEq] at e; subst e; exact .non
  | _, _, _, .bl b, e => by simp only [frz, Option.some.injEq] at e; subst e; exact .bl b
  | _, _, _, .int b, e => by simp only [frz, Option.some.injEq] at e; subst e; exact .int b
  | _, _, _, .str b, e => by simp only [frz, Option.some.injEq] at e; subst e; exact .str b
  | _, _, _, .fn b, e => by simp only [frz, Option.some.injEq] at e; subst e; exact .fn b
  | _, _, _, .kd b, e => by simp only [frz, Option.some.injEq] at e; subst e; exact .kd b
  | _, _, _, .tup h1 n r, e => by
    simp only [frz, Option.map_eq_some_iff] at e
    obtain ⟨l', e1, rfl⟩ := e
    exact .tup h1 (fun q => n (.inl q)) (RVs.froz h r e1)
  | _, _, _, .tupK h1 r, e => by
    simp only [frz, Option.map_eq_some_iff] at e
    obtain ⟨l', e1, rfl⟩ := e
    exact .tupK h1 (RVs.froz h r e1)
  | _, _, _, .lst h1 n r, e => by
    simp only [frz, Option.map_eq_some_iff] at e
    obtain ⟨l', e1, rfl⟩ := e
    exact .lst h1 (fun q => n (.inl q)) (RVs.froz h r e1)
  | _, _, _, .scr h1 n r, e => by
    simp only [frz] at e
    split at e
    · rename_i hf
      cases e
      exact .scr h1 (fun q => n (.inl q)) (r.any (fun a q => .inl q) hf)
    · cases e
  | _, _, _, .scrK h1 r, e => by
    simp only [frz] at e
    split at e
    · rename_i hf
      cases e
      exact .scrK h1 (r.any (fun a q => .inl q) hf)
    · cases e
  | _, _, _, .obj hc h1 n hl r, e => by
    simp only [frz, Option.map_eq_some_iff] at e
    obtain ⟨l', e1, rfl⟩ := e
    exact .obj hc h1 (fun q => n (.inl q)) (by rw [← hl]; exact frzL_len e1) (RVs.froz h r e1)
  | _, _, _, .loc (i := i) (a := a) hi, e => by
    simp only [frz] at e
    split at e
    · rename_i l ho
      split at e
      · rename_i hf
        cases e
        obtain ⟨xs, sq, q⟩ := h.list hi ho
        exact .lst sq (fun z => h.av a (List.mem_of_getElem? hi) z) (q.any (fun a z => .inl z) hf)
      · cases e
    · cases e
theorem RVs.froz {Av : Addr → Prop} {β β2 : List Addr} {hm hm2 : MH} {H2 : Hp} (h : HR T (hsOf w) (lv Av β hm) β2 hm2 H2) : ∀ {m m' : List MV} {x : List V}, RVs T (lv (lv Av β hm) β2 hm2) β2 H2 m x → frzL hm2 m = some m' → RVs T (lv Av β hm) β H2 m' x
  | _, _, _, .nil, e => by simp only [frzL, Option.some.injEq] at e; subst e; exact .nil
  | _, _, _, .cons a b, e => by
    simp only [frzL] at e
    split at e
    · rename_i x y h1 h2
      cases e
      exact .cons (RV.froz h a h1) (RVs.froz h b h2)
    · cases e
theorem frzL_len {hm2 : MH} : ∀ {m m' : List MV}, frzL hm2 m = some m' → m'.length = m.length
  | [], _, e => by simp only [frzL, Option.some.injEq] at e; subst e; rfl
  | a :: l, _, e => by
    simp only [frzL] at e
    split at e
    · rename_i x y h1 h2
      cases e
      rw [List.length_cons, List.length_cons, frzL_len h2]
    · cases e
end
end
section
variable {T : Tb} {w : World} {Av : Addr → Prop} {β β2 : List Addr} {hm hm2 : MH} {H H2 : Hp}
/-- the state of a pure call's body -/
theorem HR.pure (h : HR T (hsOf w) Av β hm H) : HR T (hsOf w) (lv Av β hm) [] [] H :=
  ⟨rfl, List.nodup_nil, (fun a ha => nomatch ha), (fun a ha => nomatch ha), fun a ha z => h.noL z ha, (fun i a o h1 _ _ => by simp at h1)⟩
theorem lv_nil {L : Addr → Prop} {a : Addr} (h : lv L [] [] a) : L a := by
  rcases h with h | ⟨i, o, h1, _⟩
  · exact h
  · simp at h1
/-- .. and behind it -/
theorem Ex'.pure (e : Ex' [] [] H β2 hm2 H2) : Ex' β hm H β hm H2 :=
  ⟨fun _ _ z => z, fun _ z => .inl z, fun a o z _ => e.frm a o z fun ⟨i, m, h1, _⟩ => by simp at h1, e.thr⟩
theorem HR.back (h : HR T (hsOf w) Av β hm H) (e : Ex' [] [] H β2 hm2 H2) : HR T (hsOf w) Av β hm H2 :=
  h.ext e.pure fun a q => by
    obtain ⟨i, o, h1, h2, h3⟩ := q
    obtain ⟨u, hu, _⟩ := h.obj i a o h1 h2 h3
    rw [hu]
    exact e.frm a u hu fun ⟨i, m, h1, _⟩ => by simp at h1
end
/-- a call by values: the promise of the def fits -/
theorem callD_sp {T : Tb} {w : World} {F : Fn} {j : Nat} {d : Df} {l : List MV} {vs : List V} {v : MV} {Av : Addr → Prop} {β : List Addr} {hm hm' : MH} {H : Hp} {Q : VK} (hd : T.G.defs[j]? = some d) (hl : l.length = d.np)
    (hr : HR T (hsOf w) Av β hm H) (r : RVs T (lv Av β hm) β H l vs) (e : callD T.G F j l hm = .ok v hm') (k : Kp T (hsOf w) Av β hm H v hm' Q) : spF T w F d.np j vs H Q := by
  unfold callD at e
  rw [hd] at e
  dsimp only at e
  split at e
  · split at e
    · rename_i hfx
      (split at e; (case h_2 => cases e); rename_i u h2 e2)
      split at e
      · rename_i v' hv
        obtain ⟨rfl, rfl⟩ := out_inj e
        refine ⟨lv Av β hm, [], [], l, u, h2, hr.pure, r.any (fun a z => lv_nil z) hfx, hl, e2, fun β2 H2 x i2 hr2 rx => ?_⟩
        exact k β H2 x i2.pure (hr.back i2) (rx.froz hr2 hv)
      · cases e
    · cases e
  · exact ⟨Av, β, hm, l, v, hm', hr, r, hl, e, k⟩
def KwOk (K : PySem.W.Frag) (fd : FuncData) (ps : List Str) (kws : List Kw) (j : Nat) (d : Df) : Prop := ∃ its : List Value, Vals (d.dfl.map V.int) its ∧ ∀ n kn perm, (j, n, kn, perm) ∈ kws → perm.length = d.np ∧
  ∀ (s : Shared) (us : List Value), K.In s.heap → us.length = n + kn.length → BindsTo s fd ⟨us.take n, kn.zip (us.drop n)⟩ (ps.zip (perm.map fun i => ((us ++ its)[i]?).getD .none))
structure DfOk (P : Program) (w : World) (T : Tb) (base : Heap) (k : Nat) (F : Fn) (kws : List Kw) (j : Nat) (d : Df) : Prop where
  kp : PySem.W.keepIn T.K (.ref (T.fa j)) = true
  fn : ∃ (fd : FuncData) (ps : List Str), ps.length = d.np ∧ FnG P w T.K T.mg base k (T.fa j) fd ps (spF T w F d.np j) ∧ Binds T.K fd ps [] ∧ KwOk T.K fd ps kws j d
section
variable {X : Cx} {T : Tb} {w : World} {F : Fn} {pos : Pos} {k : Nat} {kws : List Kw}
theorem callD_len {G : Gm} {j : Nat} {d : Df} {l : List MV} {v : MV} {hm hm' : MH} (hl : ∀ l hm v hm', F j l hm = .ok v hm' → l.length = d.np) (e : callD G F j l hm = .ok v hm') : l.length = d.np := by
  unfold callD at e
  split at e
  · split at e
    · split at e
      · (split at e; (case h_2 => cases e); rename_i u h2 e2)
        exact hl _ _ _ _ e2
      · cases e
    · exact hl _ _ _ _ e
  · cases e
/-- a call with values -/
theorem call_us {j : Nat} {d : Df} {pins : List (Addr × Obj)} {s : Shared} {σ : L2.St} {H : Hp} {Q : VK} {us : List Value} {vs : List V} (hK : X.K = T.K) (hmg : X.mg = T.mg) (hw : X.w = w) (D : DfOk X.prog w T X.base k F kws j d) (hr : Roo k X.A)
    (I : Inv X pins σ H s) (r : Vals vs us) (h : spF T w F d.np j vs H Q) : wpAny (model X.prog X.w) X.A (call (.ref (T.fa j)) us) (EP X pins σ Q) X.xe s := by
  subst hw
  obtain ⟨fd, ps, hp, fn, b, _⟩ := D.fn
  rw [← hK, ← hmg] at fn
  rw [← hK] at b
  have hl : us.length = ps.length := by rw [← r.length]; exact fn.len _ _ _ h
  have b1 := b s us I.kIn (by rw [List.append_nil]; exact hl)
  rw [List.append_nil] at b1
  exact callG fn hr I b1 r h
theorem e_call {j : Nat} {d : Df} {l : List Ex} {p : Pos} {q : Expr} {es : List Expr} {y : Str} (hK : X.K = T.K) (hmg : X.mg = T.mg) (hw : X.w = w) (hd : T.G.defs[j]? = some d) (D : DfOk X.prog w T X.base k F kws j d) (hr : Roo k X.A)
    (hl : ∀ l hm v hm', F j l hm = .ok v hm' → l.length = d.np) (hg : Gl X y) (hm : T.mg y = some (.ref (T.fa j))) (hdb : (y == ("__debug__" : Str)) = false) (ha : PA X (q :: es) (tAs T w F l)) (hf : (q :: es).all flatE = true) :
    PE X (.Call (.Name y p) (q :: es) [] pos) (tE T w F (.call j l)) := by
  have hs := star1 (by rw [List.all_cons, Bool.and_eq_true] at hf; exact hf.1) es X.env
  have hp : (backTo pos (starEach es X.env)).any (·.1) = false := star_plain (by rw [List.all_cons, Bool.and_eq_true] at hf; exact hf.2)
  refine ⟨fun pins s σ H Q I h => ?_⟩
  obtain ⟨Av, β, hm0, σm, v, hm', g, e, kk⟩ := h
  simp only [evE] at e
  (split at e; (case h_2 => cases e); rename_i vs h1 e1)
  refine wpAny_Call_Name_kw (ld_glob I hg (by rw [hmg]; exact hm) ?_ hdb)
  refine PySem.W.callWith_K (h₀ := X.base) I.ok.mod.kin (by rw [hK]; exact D.kp) (thn (ha.run pos pins s σ H (fun xs H1 => spF T w F d.np j xs H1 Q) I (tAs_then g e1 fun β1 H1 xs i1 g1 r1 => callD_sp hd (callD_len hl e) g1.hr r1 e (kk.after i1))) fun us s1 ⟨xs, H1, I1, r, q⟩ => ⟨I1.kIn, ?_⟩) hs hp
  exact call_us hK hmg hw D hr I1 r q
theorem e_callV {i : Nat} {l : List Ex} {p : Pos} {q : Expr} {es : List Expr} {y : Str} (hK : X.K = T.K) (hmg : X.mg = T.mg) (hw : X.w = w) (D : ∀ j d, T.G.defs[j]? = some d → DfOk X.prog w T X.base k F kws j d) (hr : Roo k X.A)
    (hl : ∀ j d, T.G.defs[j]? = some d → ∀ l hm v hm', F j l hm = .ok v hm' → l.length = d.np) (hN : X.N[i]? = some y) (hv : Vis X.env.scope y) (hdb : (y == ("__debug__" : Str)) = false) (hcd : (y == ("__classdict__" : Str)) = false) (ha : PA X (q :: es) (tAs T w F l)) (hf : (q :: es).all flatE = true) :
    PE X (.Call (.Name y p) (q :: es) [] pos) (tE T w F (.callV i l)) := by
  have hs := star1 (by rw [List.all_cons, Bool.and_eq_true] at hf; exact hf.1) es X.env
  have hp : (backTo pos (starEach es X.env)).any (·.1) = false := star_plain (by rw [List.all_cons, Bool.and_eq_true] at hf; exact hf.2)
  refine ⟨fun pins s σ H Q I h => ?_⟩
  obtain ⟨Av, β, hm0, σm, v, hm', g, e, kk⟩ := h
  simp only [evE] at e
  split at e
  · rename_i j hj
    (split at e; (case h_2 => cases e); rename_i vs h1 e1)
    obtain ⟨x, hx, rx⟩ := g.ss.2 i _ hj
    cases rx
    have hd : ∃ d, T.G.defs[j]? = some d := by
      unfold callD at e
      split at e
      · exact ⟨_, by assumption⟩
      · cases e
    obtain ⟨d, hd⟩ := hd
    refine wpAny_Call_Name_kw (thn ((pe_var (pos := p) hN hv hdb hcd).run pins s σ H (fun v H1 => v = .ref (T.fa j) ∧ H1 = H) I ⟨.ref (T.fa j), hx, rfl, rfl⟩) fun u s0 ⟨z, H0, I0, r0, q0⟩ => ?_)
    obtain ⟨rfl, rfl⟩ := q0
    cases r0
    refine PySem.W.callWith_K (h₀ := X.base) I.ok.mod.kin (by rw [hK]; exact (D j d hd).kp) (thn (ha.run pos pins s0 σ _ (fun xs H1 => spF T w F d.np j xs H1 Q) I0 (tAs_then g e1 fun β1 H1 xs i1 g1 r1 => callD_sp hd (callD_len (hl j d hd) e) g1.hr r1 e (kk.after i1))) fun us s1 ⟨xs, H1, I1, r, q⟩ => ⟨I1.kIn, ?_⟩) hs hp
    exact call_us hK hmg hw (D j d hd) hr I1 r q
  · cases e
end
end Mi

namespace Mi
open PySem PySem.Spec PyProof.Rows L2

/-! ### keywords -/
theorem kw_names {env : Env} {pos : Pos} : ∀ {kws : List Keyword} {kn : List Str}, kws.map (·.arg) = kn.map some → (backToKw pos (keywordEach kws env)).all (·.1.isSome) = true ∧ (backToKw pos (keywordEach kws env)).filterMap (·.1) = kn ∧ (backToKw pos (keywordEach kws env)).any (·.1.isNone) = false
  | [], [], _ => ⟨rfl, rfl, rfl⟩
  | [], _ :: _, h => by simp at h
  | _ :: _, [], h => by simp at h
  | ⟨a, v, p⟩ :: kws, k :: kn, h => by
    simp only [List.map_cons, List.cons.injEq] at h
    obtain ⟨h1, h2⟩ := h
    subst h1
    obtain ⟨i1, i2, i3⟩ := kw_names (env := env) (pos := pos) h2
    refine ⟨?_, ?_, ?_⟩
    · show (true && (backToKw pos (keywordEach kws env)).all (·.1.isSome)) = true
      rw [i1]; rfl
    · show k :: (backToKw pos (keywordEach kws env)).filterMap (·.1) = k :: kn
      rw [i2]
    · show (false || (backToKw pos (keywordEach kws env)).any (·.1.isNone)) = false
      rw [i3]; rfl
section
variable {X : Cx} {T : Tb} {w : World} {F : Fn} {pos : Pos}
theorem PK.of {e : List Keyword} {t t' : TA} (h : PK X e t) (i : ∀ σ H Q, t' σ H Q → t σ H Q) : PK X e t' := ⟨fun ps pins s σ H Q I q => h.run ps pins s σ H Q I (i σ H Q q)⟩
theorem k_nil : PK X [] (tAs T w F []) := by
  refine PK.of pk_nil fun σ H Q h => ?_
  obtain ⟨Av, β, hm, σm, vs, hm', g, e, k⟩ := h
  simp only [evL] at e
  obtain ⟨rfl, rfl⟩ := out_inj e
  exact k β H [] Ex'.refl g.hr .nil
theorem k_cons {a : Ex} {l : List Ex} {p : Expr} {es : List Keyword} {nm : Option Str} {kp : Pos} (ha : PE X p (tE T w F a)) (hl : PK X es (tAs T w F l)) : PK X (⟨nm, p, kp⟩ :: es) (tAs T w F (a :: l)) := by
  refine PK.of (pk_cons ha hl) fun σ H Q h => ?_
  obtain ⟨Av, β, hm, σm, vs, hm', g, e, k⟩ := h
  simp only [evL] at e
  (split at e; (case h_2 => cases e); rename_i x h1 e1)
  (split at e; (case h_2 => cases e); rename_i xs h2 e2)
  obtain ⟨rfl, rfl⟩ := out_inj e
  exact tE_then g e1 fun β1 H1 x1 i1 g1 r1 => tAs_then g1 e2 fun β2 H2 xs1 i2 g2 r2 => k β2 H2 (x1 :: xs1) (i1.trans i2) g2.hr (.cons (r1.mono i2) r2)
theorem evL_app {G : Gm} : ∀ {l l2 : List Ex} {σm : MS} {hm hm' : MH} {vs : List MV}, evL G F (l ++ l2) σm hm = .ok vs hm' → ∃ v1 h1 v2, evL G F l σm hm = .ok v1 h1 ∧ evL G F l2 σm h1 = .ok v2 hm' ∧ vs = v1 ++ v2
  | [], l2, σm, hm, hm', vs, e => ⟨[], hm, vs, by simp only [evL], e, rfl⟩
  | a :: l, l2, σm, hm, hm', vs, e => by
    simp only [List.cons_append, evL] at e
    (split at e; (case h_2 => cases e); rename_i x h1 e1)
    (split at e; (case h_2 => cases e); rename_i xs h2 e2)
    obtain ⟨rfl, rfl⟩ := out_inj e
    obtain ⟨v1, h3, v2, q1, q2, rfl⟩ := evL_app e2
    exact ⟨x :: v1, h3, v2, by simp only [evL, e1, q1], q2, rfl⟩
end
section
variable {T : Tb} {L : Addr → Prop} {β : List Addr} {H : Hp}
theorem RVs.getD {l : List MV} {xs : List V} (r : RVs T L β H l xs) (i : Nat) : RV T L β H ((l[i]?).getD .non) ((xs[i]?).getD .non) := by
  cases h : l[i]? with
  | none =>
    have h2 : xs[i]? = none := List.getElem?_eq_none_iff.mpr (by rw [← r.length]; exact List.getElem?_eq_none_iff.mp h)
    rw [h2]
    exact .non
  | some m =>
    obtain ⟨x, h1, h2⟩ := r.get h
    rw [h1]
    exact h2
theorem RVs.perm {l : List MV} {xs : List V} (r : RVs T L β H l xs) : ∀ ks : List Nat, RVs T L β H (ks.map fun k => (l[k]?).getD .non) (ks.map fun k => (xs[k]?).getD .non)
  | [] => .nil
  | k :: ks => .cons (r.getD k) (RVs.perm r ks)
theorem vals_perm {xs : List V} {us : List Value} (r : Vals xs us) : ∀ ks : List Nat, Vals (ks.map fun k => (xs[k]?).getD .non) (ks.map fun k => (us[k]?).getD .none)
  | [] => .nil
  | k :: ks => .cons (by
      show RelV ((xs[k]?).getD .non) ((us[k]?).getD .none)
      cases h : xs[k]? with
      | none =>
        rw [r.none_of h]
        rfl
      | some x =>
        obtain ⟨u, h1, h2⟩ := r.get h
        rw [h1]
        exact h2) (vals_perm r ks)
end
section
variable {X : Cx} {T : Tb} {w : World} {F : Fn} {pos : Pos} {k : Nat} {kws : List Kw}
theorem e_callK {j : Nat} {d : Df} {l1 l2 : List Ex} {ks : List Nat} {kn : List Str} {p : Pos} {es : List Expr} {kes : List Keyword} {y : Str} (hK : X.K = T.K) (hmg : X.mg = T.mg) (hw : X.w = w) (hd : T.G.defs[j]? = some d) (D : DfOk X.prog w T X.base k F kws j d) (hr : Roo k X.A)
    (hkw : (j, l1.length, kn, ks) ∈ kws) (hn : kes.map (·.arg) = kn.map some) (hlen : kn.length = l2.length)
    (hg : Gl X y) (hm : T.mg y = some (.ref (T.fa j))) (hdb : (y == ("__debug__" : Str)) = false) (ha : PA X es (tAs T w F l1)) (hak : PK X kes (tAs T w F l2)) (hf : es.all flatE = true) (hle : es.length = l1.length) :
    PE X (.Call (.Name y p) es kes pos) (tE T w F (.callK j ks (l1 ++ l2))) := by
  subst hw
  obtain ⟨kall, knames, kany⟩ := kw_names (env := X.env) (pos := pos) hn
  have plain : ((backTo pos (starEach es X.env)).any (·.1) || (backToKw pos (keywordEach kes X.env)).any (·.1.isNone)) = false := by rw [star_plain hf, kany]; rfl
  refine ⟨fun pins s σ H Q I h => ?_⟩
  obtain ⟨Av, β, hm0, σm, v, hm', g, e, kk⟩ := h
  simp only [evE] at e
  (split at e; (case h_2 => cases e); rename_i vs h1 e1)
  obtain ⟨v1, h3, v2, q1, q2, rfl⟩ := evL_app e1
  obtain ⟨fd, ps, hp, fn, b, bk⟩ := D.fn
  obtain ⟨its, rits, bk⟩ := bk
  obtain ⟨pl, bk⟩ := bk _ _ _ hkw
  have ed : dflD T.G j = d.dfl.map MV.int := by unfold dflD; rw [hd]
  unfold argK at e
  rw [ed] at e
  refine wpAny_Call_Name_kw (ld_glob I hg (by rw [hmg]; exact hm) ?_ hdb)
  -- the keywords, then the call
  have rest : ∀ us s1 xs β1 H1, Inv X pins σ H1 s1 → Vals xs us → us.length = l1.length → Ex' β hm0 H β1 h3 H1 → Sg T X.w Av β1 h3 H1 σm σ → RVs T (lv Av β1 h3) β1 H1 v1 xs →
      wpAny (model X.prog X.w) X.A (evalAll ((backToKw pos (keywordEach kes X.env)).map (·.2))) (fun ws s2 => X.K.In s2.heap ∧ wpAny (model X.prog X.w) X.A (call (.ref (T.fa j)) ([] ++ us) (((backToKw pos (keywordEach kes X.env)).filterMap (·.1)).zip ws)) (EP X pins σ Q) X.xe s2) X.xe s1 := by
    intro us s1 xs β1 H1 I1 r lu i1 g1 r1
    refine thn (hak.run pos pins s1 σ H1 (fun zs H2 => ∃ β2, Ex' β1 h3 H1 β2 h1 H2 ∧ Sg T X.w Av β2 h1 H2 σm σ ∧ RVs T (lv Av β2 h1) β2 H2 v2 zs) I1 (tAs_then g1 q2 fun β2 H2 zs i2 g2 r2 => ⟨β2, i2, g2, r2⟩)) fun ws s2 ⟨zs, H2, I2, rz, β2, i2, g2, r2⟩ => ⟨I2.kIn, ?_⟩
    rw [knames, List.nil_append]
    have sp := callD_sp hd (by rw [List.length_map]; exact pl) g2.hr ((((r1.mono i2).append r2).append (RVs.ofInts d.dfl)).perm ks) e (kk.after (i1.trans i2))
    have lw : ws.length = kn.length := by rw [hlen, ← evL_len q2, r2.length, rz.length]
    have bb := bk s2 (us ++ ws) (hK ▸ I2.kIn) (by rw [List.length_append, lu, lw])
    rw [List.take_left' lu, List.drop_left' lu] at bb
    rw [← hK, ← hmg] at fn
    exact callG fn hr I2 bb (vals_perm ((r.append rz).append rits) ks) sp
  cases es with
  | nil =>
    have l1n : l1 = [] := List.length_eq_zero_iff.mp (by simpa using hle.symm)
    subst l1n
    simp only [evL] at q1
    obtain ⟨rfl, rfl⟩ := out_inj q1
    exact PySem.W.callWith_KW0 (h₀ := X.base) I.ok.mod.kin (by rw [hK]; exact D.kp) kall (rest [] s [] β H I .nil rfl Ex'.refl g .nil) plain
  | cons q es =>
    have hs := star1 (by rw [List.all_cons, Bool.and_eq_true] at hf; exact hf.1) es X.env
    refine PySem.W.callWith_KW (h₀ := X.base) I.ok.mod.kin (by rw [hK]; exact D.kp) kall (thn (ha.run pos pins s σ H (fun xs H1 => ∃ β1, Ex' β hm0 H β1 h3 H1 ∧ Sg T X.w Av β1 h3 H1 σm σ ∧ RVs T (lv Av β1 h3) β1 H1 v1 xs) I (tAs_then g q1 fun β1 H1 xs i1 g1 r1 => ⟨β1, i1, g1, r1⟩)) fun us s1 ⟨xs, H1, I1, r, β1, i1, g1, r1⟩ => ?_) plain hs
    exact rest us s1 xs β1 H1 I1 r (by rw [← r.length, ← r1.length, evL_len q1]) i1 g1 r1

/-! ### a new instance -/
theorem newO_some {G : Gm} {c : Nat} {l : List MV} {hm hm' : MH} {v : MV} (e : newO G F c l hm = .ok v hm') : ∃ cl fs rest, G.cls[c]? = some cl ∧ fixL l = true ∧ F cl.init (.loc 0 :: l) [.ins c []] = .ok .non (.ins c fs :: rest) ∧ fs.map (·.1) = cl.flds ∧ fixL (fs.map (·.2)) = true ∧ v = .obj c (fs.map (·.2)) ∧ hm = hm' := by
  unfold newO at e
  split at e
  · rename_i cl hc
    split at e
    · rename_i hfx
      split at e
      · rename_i c' fs rest hF
        obtain ⟨h1, rfl, rfl⟩ := ite_ok e
        simp only [Bool.and_eq_true, decide_eq_true_eq] at h1
        obtain ⟨⟨h2, h3⟩, h4⟩ := h1
        subst h2
        exact ⟨cl, fs, rest, hc, hfx, hF, h3, h4, rfl, rfl⟩
      · cases e
    · cases e
  · cases e
theorem newO_sp {c : Nat} {cl : Cl} {d : Df} {l : List MV} {vs : List V} {v : MV} {Av : Addr → Prop} {β : List Addr} {hm hm' : MH} {H : Hp} {Q : VK} (hd : T.G.defs[cl.init]? = some d) (hc : T.G.cls[c]? = some cl)
    (hl : ∀ l hm v hm', F cl.init l hm = .ok v hm' → l.length = d.np) (hr : HR T (hsOf w) Av β hm H) (r : RVs T (lv Av β hm) β H l vs) (e : newO T.G F c l hm = .ok v hm') (k : Kp T (hsOf w) Av β hm H v hm' Q)
    (x dx : Addr) (hx : H x = none) (hdx : H dx = none) (hne : dx ≠ x) : spF T w F d.np cl.init (.ref x :: vs) (upd (upd H dx (.own x)) x (.ins (T.ca c) dx [])) (fun v H2 => v = .non ∧ Q (.ref x) H2) := by
  obtain ⟨cl', fs, rest, hc', hfx, hF, hfl, hfix, rfl, rfl⟩ := newO_some e
  rw [hc] at hc'
  cases hc'
  have old : ∀ a o, H a = some o → upd (upd H dx (.own x)) x (.ins (T.ca c) dx []) a = some o ∧ a ≠ x := fun a o h => by
    have n1 : a ≠ x := ne_of_none h hx
    have n2 : a ≠ dx := ne_of_none h hdx
    exact ⟨by rw [upd_ne n1, upd_ne n2]; exact h, n1⟩
  have nl : ¬ lv Av β hm x := hr.noL hx
  have lvx : ∀ a, lv (lv Av β hm) [x] [.ins c []] a → lv Av β hm a ∨ a = x := fun a h => by
    rcases h with h | ⟨i, o, h1, _⟩
    · exact .inl h
    · exact .inr (List.mem_singleton.mp (List.mem_of_getElem? h1))
  have hr1 : HR T (hsOf w) (lv Av β hm) [x] [.ins c []] (upd (upd H dx (.own x)) x (.ins (T.ca c) dx [])) := by
    refine ⟨rfl, by simp, fun a ha => ?_, fun a ha => ?_, fun a ha => ?_, fun i a o h1 h2 h3 => ?_⟩
    · rw [List.mem_singleton.mp ha]; exact nl
    · rw [List.mem_singleton.mp ha, upd_same]; exact fun z => nomatch z
    · cases ho : H a with
      | none => exact absurd ha (hr.noL ho)
      | some o => rw [(old a o ho).1]; exact fun z => nomatch z
    · have e1 := List.mem_singleton.mp (List.mem_of_getElem? h1)
      have e2 := List.mem_singleton.mp (List.mem_of_getElem? h2)
      subst e1 e2
      exact ⟨_, upd_same, .ins .nil⟩
  refine ⟨lv Av β hm, [x], [.ins c []], .loc 0 :: l, .non, .ins c fs :: rest, hr1, .cons (.loc rfl) ?_, hl _ _ _ _ hF, hF, fun β2 H2 z i2 hr2 rz => ⟨rz.non', ?_⟩⟩
  · exact (r.any (L' := lv Av β hm) (β' := [x]) (fun a z => z) hfx).imp (fun _ _ z => z) fun a o h n => ⟨(old a o h).1, fun q => (lvx a q).elim n (old a o h).2⟩
  · obtain ⟨dx', gs, hH, q⟩ := hr2.ins (i2.pre 0 x rfl) (show (MO.ins c fs :: rest)[0]? = some (.ins c fs) from rfl)
    obtain ⟨xs, rfl, qv⟩ := q.vals
    rw [hfl] at hH
    have ee : Ex' β hm H β hm H2 := ⟨fun _ _ z => z, fun _ z => .inl z, fun a o z _ => i2.frm a o (old a o z).1 fun ⟨i, m, h1, _⟩ => (old a o z).2 (List.mem_singleton.mp (List.mem_of_getElem? h1)), fun a z => by
      cases ho : H a with
      | none => exact absurd ho z
      | some o => exact i2.thr a (by rw [(old a o ho).1]; exact fun z => nomatch z)⟩
    have hrB : HR T (hsOf w) Av β hm H2 := hr.ext ee fun a z => by
      obtain ⟨i, o, h1, h2, h3⟩ := z
      obtain ⟨u, hu, _⟩ := hr.obj i a o h1 h2 h3
      rw [hu]
      exact i2.frm a u (old a u hu).1 fun ⟨i, m, h1, _⟩ => (old a u hu).2 (List.mem_singleton.mp (List.mem_of_getElem? h1))
    exact k β H2 (.ref x) ee hrB (.obj hc hH nl (by rw [← hfl]; simp) (qv.any (fun a z => .inl z) hfix))
/-- a class that can be made -/
structure MkOk (P : Program) (w : World) (T : Tb) (base : Heap) (k : Nat) (F : Fn) (c : Nat) (cl : Cl) : Prop where
  ex : ∃ (f : Addr) (fd : FuncData) (ps : List Str) (d : Df), Mk T.K (T.ca c) f ∧ T.G.defs[cl.init]? = some d ∧ FnG P w T.K T.mg base k f fd ps (spF T w F d.np cl.init) ∧ Binds T.K fd ps [] ∧ ∀ l hm v hm', F cl.init l hm = .ok v hm' → l.length = d.np
theorem e_new {c : Nat} {cl : Cl} {l : List Ex} {p : Pos} {q : Expr} {es : List Expr} {y : Str} (hK : X.K = T.K) (hmg : X.mg = T.mg) (hw : X.w = w) (hc : T.G.cls[c]? = some cl) (M : MkOk X.prog w T X.base k F c cl) (hr : Roo (k + 1) X.A)
    (hg : Gl X y) (hm : T.mg y = some (.ref (T.ca c))) (hdb : (y == ("__debug__" : Str)) = false) (ha : PA X (q :: es) (tAs T w F l)) (hf : (q :: es).all flatE = true) :
    PE X (.Call (.Name y p) (q :: es) [] pos) (tE T w F (.new c l)) := by
  subst hw
  have hs := star1 (by rw [List.all_cons, Bool.and_eq_true] at hf; exact hf.1) es X.env
  have hp : (backTo pos (starEach es X.env)).any (·.1) = false := star_plain (by rw [List.all_cons, Bool.and_eq_true] at hf; exact hf.2)
  obtain ⟨f, fd, ps, d, mk, hd, fn, b, hlen⟩ := M.ex
  rw [← hK] at mk b
  rw [← hK, ← hmg] at fn
  refine ⟨fun pins s σ H Q I h => ?_⟩
  obtain ⟨Av, β, hm0, σm, v, hm', g, e, kk⟩ := h
  simp only [evE] at e
  (split at e; (case h_2 => cases e); rename_i vs h1 e1)
  refine wpAny_Call_Name_kw (ld_glob I hg (by rw [hmg]; exact hm) ?_ hdb)
  refine PySem.W.callWith_K (h₀ := X.base) I.ok.mod.kin mk.kp (thn (ha.run pos pins s σ H (fun xs H1 => ∃ β1, Ex' β hm0 H β1 h1 H1 ∧ Sg T X.w Av β1 h1 H1 σm σ ∧ RVs T (lv Av β1 h1) β1 H1 vs xs) I (tAs_then g e1 fun β1 H1 xs i1 g1 r1 => ⟨β1, i1, g1, r1⟩)) fun us s1 ⟨xs, H1, I1, r, β1, i1, g1, r1⟩ => ⟨I1.kIn, ?_⟩) hs hp
  exact makeG mk fn hr b I1 r fun x dx hx hdx hne => newO_sp hd hc hlen g1.hr r1 e (kk.after i1) x dx hx hdx hne
end
end Mi

namespace Mi
open PySem PySem.Spec PyProof.Rows L2

section
variable {T : Tb} {w : World} {Av : Addr → Prop} {β : List Addr} {hm : MH} {H : Hp}
theorem clsM_ok (hr : HR T (hsOf w) Av β hm H) {o : MV} {x : V} {c : Nat} (r : RV T (lv Av β hm) β H o x) (e : clsM hm o = some c) : ∃ a dx fs, x = .ref a ∧ H a = some (.ins (T.ca c) dx fs) := by
  cases o with
  | obj d l =>
    cases e
    cases r with
    | obj hc hH nL hl q => exact ⟨_, _, _, rfl, hH⟩
  | loc i =>
    obtain ⟨a, rfl, hi⟩ := r.loc'
    have e' : (match hm[i]? with | some (.ins c _) => some c | _ => none) = some c := e
    split at e'
    · rename_i d fs ho
      cases e'
      obtain ⟨dx, gs, hH, _⟩ := hr.ins hi ho
      exact ⟨a, dx, gs, rfl, hH⟩
    · cases e'
  | _ => cases e
end
section
variable {X : Cx} {T : Tb} {w : World} {F : Fn} {pos : Pos} {k : Nat} {kws : List Kw}
/-- isinstance(x, C) of an instance of C -/
theorem isc_split {a : Ex} {c : Nat} {σm : MS} {hm hm' : MH} {v : MV} {G : Gm} (e : evE G F (.isc a c) σm hm = .ok v hm') : ∃ x cl, evE G F a σm hm = .ok x hm' ∧ clsM hm' x = some c ∧ G.cls[c]? = some cl ∧ v = .bl true := by
  simp only [evE] at e
  (split at e; (case h_2 => cases e); rename_i x h1 e1)
  split at e
  · rename_i d hd
    obtain ⟨h2, rfl, rfl⟩ := ite_ok e
    rw [Bool.and_eq_true, decide_eq_true_eq] at h2
    obtain ⟨rfl, h3⟩ := h2
    obtain ⟨cl, hcl⟩ := Option.isSome_iff_exists.mp h3
    exact ⟨x, cl, e1, hd, hcl, rfl⟩
  · cases e
theorem e_isc {a : Ex} {c : Nat} {p : Expr} {p1 p2 : Pos} {y : Str} (hK : X.K = T.K) (ic : ∀ cl, T.G.cls[c]? = some cl → C8.InsC T.K (T.ca c)) (ha : PE X p (tE T w F a)) (hf : flatE p = true) (hg : Gl X "isinstance") (hm : X.mg "isinstance" = none) (hgt : Gl X y)
    (hmt : X.mg y = some (.ref (T.ca c))) (hdb : (y == ("__debug__" : Str)) = false) : PE X (.Call (.Name "isinstance" p1) [p, .Name y p2] [] pos) (tE T w F (.isc a c)) := by
  cases hcl : T.G.cls[c]? with
  | none =>
    refine ⟨fun pins s σ H Q I h => ?_⟩
    obtain ⟨Av, β, hm, σm, v, hm', g, e, k⟩ := h
    obtain ⟨x, cl, _, _, h4, _⟩ := isc_split e
    rw [hcl] at h4
    cases h4
  | some cl =>
    have ht : PE X (.Name y p2) (tC (.ref (T.ca c))) := pe_glob hgt hmt rfl hdb
    have ins := ic cl hcl
    rw [← hK] at ins
    refine PE.of (pe_callB (C8.call_isC ins) hg hm PyProof.Rows.boot_isinstance (pa_cons ha (pa_cons ht pa_nil) (star1 hf _ _)) (by decide) (by decide) (star1 hf _ _) rfl) fun σ H Q h => ?_
    obtain ⟨Av, β, hm, σm, v, hm', g, e, k⟩ := h
    obtain ⟨x, cl, e1, e2, _, rfl⟩ := isc_split e
    refine tE_then g e1 fun β1 H1 x1 i1 g1 r1 => ?_
    obtain ⟨a1, dx, fs, rfl, hH⟩ := clsM_ok g1.hr r1 e2
    exact ⟨a1, dx, fs, rfl, hH, (k.after i1).same g1.hr (.bl _)⟩
/-! ### a property -/
theorem getG {C p g a dx : Addr} {fs : List (Str × V)} {f : Str} {fd : FuncData} {ps : List Str} {sp : SpG} {pins : List (Addr × Obj)} {σ : L2.St} {H : Hp} {s : Shared} {Q : VK} {b : Bool} (I : Inv X pins σ H s) (ea : H a = some (.ins C dx fs)) (c : Cls X.K C)
    (hp : PropOf X.K C f p g) (F : FnG X.prog X.w X.K X.mg X.base k g fd ps sp) (hr : Roo (k + 1) X.A) (hb : Binds X.K fd ps []) (h : sp [.ref a] H Q) : wpAny (model X.prog X.w) X.A (getAttr (.ref a) f b) (EP X pins σ Q) X.xe s := by
  obtain ⟨mA, O, _⟩ := ins_get I.hok ea
  obtain ⟨od, J, _⟩ := O.look
  obtain ⟨more, hrec⟩ := hp.rec_
  have I1 := I.tok (s.toks + 1)
  have one : [Value.ref a].length = ps.length := (F.len _ _ _ h : [V.ref a].length = ps.length)
  have isC : (PySem.W.clsIn X.K C).isSome = true := by
    obtain ⟨cd, e, _⟩ := PySem.W.any_some c.hd
    rw [e]
    rfl
  have below : Roo k X.A.in1 := ⟨hr.room.in1, hr.gd⟩
  have bound := hb _ [.ref a] I1.kIn (by rw [List.append_nil]; exact one)
  rw [List.append_nil] at bound
  have plain := PySem.W.plainGet_of (c.get f)
  refine PySem.W.get_bind I.kIn J plain.1 (PySem.W.findObj_data isC hp.at_ hp.get hp.tak) plain.2 (wpAny_call (PySem.W.prop_get (s := { s with toks := s.toks + 1 }) I.kIn hrec ?_))
  refine codeAny_mono (F.run X.A.in1 X.stack { s with toks := s.toks + 1 } H ⟨[.ref a], []⟩ [.ref a] [.ref a] Q below I1.env0.in1 bound (.cons rfl .nil) h) fun res s' hq => ?_
  obtain ⟨u, rfl, v, H', I3, rv, q⟩ := CR.back I1 hq
  show wpAny _ _ (handedOut u) _ _ _
  rw [PySem.W.handedOut_of (handed_of rv)]
  exact wpAny_pure ⟨v, H', I3, rv, q⟩
theorem e_prp {o : Ex} {f : Nat} {p : Expr} {y : Str} (hK : X.K = T.K) (hmg : X.mg = T.mg) (hw : X.w = w) (hr : Roo (k + 1) X.A) (pr : ∀ c j, prF T.G c f = some j → Cls T.K (T.ca c) ∧ ∃ q, PropOf T.K (T.ca c) y q (T.fa j))
    (D : ∀ j d, T.G.defs[j]? = some d → DfOk X.prog w T X.base k F kws j d) (hl : ∀ j d, T.G.defs[j]? = some d → ∀ l hm v hm', F j l hm = .ok v hm' → l.length = d.np) (ho : PE X p (tE T w F o)) (hb : baseE p = true) :
    PE X (.Attribute p y pos) (tE T w F (.prp o f)) := by
  subst hw
  refine ⟨fun pins s σ H Q I h => ?_⟩
  obtain ⟨Av, β, hm0, σm, v, hm', g, e, kk⟩ := h
  simp only [evE] at e
  (split at e; (case h_2 => cases e); rename_i x h1 e1)
  split at e
  · rename_i c hc
    split at e
    · rename_i j hj
      obtain ⟨hcl, q, hp⟩ := pr c j hj
      have hd : ∃ d, T.G.defs[j]? = some d := by
        unfold callD at e
        split at e
        · exact ⟨_, by assumption⟩
        · cases e
      obtain ⟨d, hd⟩ := hd
      obtain ⟨fd, ps, hps, fn, b, _⟩ := (D j d hd).fn
      rw [← hK, ← hmg] at fn
      rw [← hK] at b hcl hp
      refine attr_of (base_ok hb _ _) (thn (ho.run pins s σ H (fun xv H1 => ∃ a dx fs, xv = .ref a ∧ H1 a = some (.ins (T.ca c) dx fs) ∧ spF T X.w F d.np j [.ref a] H1 Q) I (tE_then g e1 fun β1 H1 x1 i1 g1 r1 => ?_)) fun u s1 ⟨xv, H1, I1, rx, a, dx, fs, ex, ea, q⟩ => ?_)
      · obtain ⟨a, dx, fs, rfl, hH⟩ := clsM_ok g1.hr r1 hc
        exact ⟨a, dx, fs, rfl, hH, callD_sp hd (callD_len (hl j d hd) e) g1.hr (.cons r1 .nil) e (kk.after i1)⟩
      · subst ex
        obtain rfl : u = Value.ref a := rx
        exact getG I1 ea hcl hp fn hr b q
    · cases e
  · cases e
end
end Mi

namespace PySem
open Sem (wp)
open AutoSeq1 (wpAny_loadPart')
theorem meets_enumT (l : Addr) (items : Array Value) (n : Nat) (dct : Option Addr) (sl : Array (Option Value)) :
    Meets (Builtin.«enumerate.__new__» ⟨[.type "enumerate", .ref l], []⟩) (fun _ R s => s.heap.get? l = some { cls := .type "tuple", dict := dct, data := .seq items n, slots := sl } ∧
      R (.ok (.ret (.ref (s.heap.push { cls := .type "tuple_iterator", data := .fields #[.ref l, .int 0 0] }).objs.size)))
        { s with heap := (s.heap.push { cls := .type "tuple_iterator", data := .fields #[.ref l, .int 0 0] }).push { cls := .type "enumerate", data := .fields #[.none, .bool false, .ref s.heap.objs.size, rawInt 0, .none, .none] } }) :=
  .of_wp fun prog w A R s at_ => by
    obtain ⟨hp, g, d, tk, os⟩ := s
    obtain ⟨at_, goal⟩ := at_
    have below := sub_enumerate
    have isT : Heap.IsTuple (Shared.heap ⟨hp, g, d, tk, os⟩) l items := ⟨_, at_, rfl, n, rfl⟩
    wp_walk using wpAny_loadPart' at_
    refine wpAny_stack_any fun st => wpAny_pure ?_
    split
    · rename_i c _ _ _ _ _
      cases (c == Value.type "enumerate") <;> (wp_walk using wpAny_loadPart' at_, wpAny_pyIter_tuple isT; exact ⟨_, rfl, goal⟩)
    · wp_walk using wpAny_loadPart' at_, wpAny_pyIter_tuple isT
      exact ⟨_, rfl, goal⟩
end PySem

namespace Mi
open PySem PySem.Spec PyProof.Rows L2

/-! ### enumerate over a tuple -/
def Itp (K : PySem.W.Frag) (a : Addr) : It :=
  ⟨fun i H => ∃ (xs : List V) (x : V), SqT K H a xs ∧ xs[i]? = some x, fun i H v H' => ∃ p x, v = .ref p ∧ H p = none ∧ H' = upd H p (.tup [.int (i : Nat), x]) ∧ ∀ xs, SqT K H a xs → xs[i]? = some x, fun i H => ∃ xs : List V, SqT K H a xs ∧ xs.length = i⟩
theorem turn_enumT {P : Program} {w : World} {K : PySem.W.Frag} {elts : List Expr} {kk : Nat} {tpos : Pos} (a e it : Addr) :
    Turn P w K (.Tuple elts kk tpos) (Itp K a) [e, it] e (fun i h => (∃ old, IsEnum h e it ((i : Nat) : Int) old) ∧ h.IsTupleIter it a i ∧ e ≠ it ∧ a ≠ it ∧ a ≠ e) where
  mem := List.mem_cons_self ..
  obj := by
    rintro i h ⟨⟨old, isE⟩, ⟨o, look, _, fields⟩, _⟩ b hb
    rcases List.mem_cons.mp hb with rfl | hb
    · exact ⟨_, isE, fun _ q => nomatch q⟩
    · rw [List.mem_singleton.mp hb]
      exact ⟨o, look, fun _ q => by rw [fields] at q; cases q⟩
  keep := by
    rintro i h h' ⟨⟨old, isE⟩, isI, apart⟩ kept
    exact ⟨⟨old, kept e (by simp) _ isE⟩, isI.at fun o q => kept it (by simp) o q, apart⟩
  item := by
    intro X hP hw hK calm i pins s σ H E I fp st more
    subst hP hw hK
    obtain ⟨⟨old, isE⟩, isI, ne, na, nae⟩ := st
    obtain ⟨xs, x, sq, hx⟩ := more
    obtain ⟨its, rel, isT, _⟩ := I.tuple sq
    obtain ⟨u, hu, ru⟩ := rel.get hx
    have he : e < s.heap.objs.size := Heap.lt_size isE
    have hi : it < s.heap.objs.size := by obtain ⟨_, q, _⟩ := isI; exact Heap.lt_size q
    have len : i < its.toArray.size := by
      have := (List.getElem?_eq_some_iff.mp hu).1
      simpa using this
    have D := Draws.tuple (prog := X.prog) (w := X.w) (A := X.A.in1) (show X.A.in1.handled = none from I.ok.hd calm) it a na its.toArray
    refine wpAny_pyNext_enum_itemD D isE ⟨isI, isT⟩ len ne (by simp only [List.mem_cons, List.not_mem_nil, or_false, not_or]; exact ⟨ne, Ne.symm nae⟩) fun v h' tk hv out st' tup sz kept => ?_
    have ev : v = u := by
      have q : its.toArray[i]? = some u := by simpa using hu
      exact Option.some.inj (hv.symm.trans q)
    subst ev
    refine ⟨_, rfl, wpAny_letOwnedTupleGo_enum (s := { s with heap := h', toks := tk + 1 }) out fun h'' back same => ?_⟩
    have tup' : h''.get? s.heap.objs.size = some { cls := .type "tuple", data := .seq #[.int i tk, v] } := (same.2 _ (Nat.ne_of_gt he)).trans tup
    have new : ObjOk X.prog X.w (upd H s.heap.objs.size (.tup [.int (i : Nat), x])) h'' s.heap.objs.size (.tup [.int (i : Nat), x]) :=
      ⟨(by decide : 2 ≤ sizeLine), [.int i tk, v], .cons ⟨_, rfl⟩ (.cons ru .nil), ⟨_, tup', rfl, _, rfl⟩⟩
    have I1 : Inv X pins σ (upd H s.heap.objs.size (.tup [.int (i : Nat), x])) { s with heap := h'', toks := tk + 1 } := by
      refine I.turnedNew (ch := [e, it]) (fun b o hb q => ?_) fp (Nat.le_refl _) new
      have nb : b ≠ e ∧ b ≠ it := by simpa using hb
      exact (same.2 b nb.1).trans (kept b o nb.1 nb.2 q)
    refine ⟨.ref s.heap.objs.size, _, I1, rfl, ⟨_, x, rfl, I.hok.fresh (Nat.le_refl _), rfl, fun ys hy => by rw [I.tuple_inj hy sq]; exact hx⟩, ⟨⟨v, ?_⟩, st'.1.at fun o q => (same.2 it (Ne.symm ne)).trans q, ne, na, nae⟩, fun b hb => ?_⟩
    · rw [show ((i + 1 : Nat) : Int) = (i : Int) + 1 by omega]
      exact back
    · have small : b < s.heap.objs.size := by
        rcases List.mem_cons.mp hb with rfl | hb
        · exact he
        · rw [List.mem_singleton.mp hb]; exact hi
      rw [upd_ne (Nat.ne_of_lt small)]
      exact (fp b hb).1
  done := by
    intro X hP hw hK calm i pins s σ H E I fp st over
    subst hP hw hK
    obtain ⟨⟨old, isE⟩, isI, ne, na, nae⟩ := st
    obtain ⟨xs, sq, hx⟩ := over
    obtain ⟨its, rel, isT, _⟩ := I.tuple sq
    obtain ⟨f0, f1, f2, f3, f4, f5⟩ := fp it (by simp)
    have len : its.toArray.size = i := by rw [← hx, rel.length]; rfl
    have D := Draws.tuple (prog := X.prog) (w := X.w) (A := X.A.in1) (show X.A.in1.handled = none from I.ok.hd calm) it a na its.toArray
    rw [len] at D
    exact wpAny_pyNext_enum_endD D isE ⟨isI, isT⟩ fun h' kept => ⟨rfl, I.turned (t' := s.toks) (fun b o hb q => kept b o hb q) f0 f1 f3 f4 f5⟩
  self := fun A i s Q E st h => let ⟨⟨_, isE⟩, _⟩ := st; wpAny_pyIter_enum isE h

/-- enumerate(t) -/
theorem call_enumT {prog : Program} {w : World} {A : Around} {E : Value → Shared → Prop} {s : Shared} {l : Addr} {items : Array Value} {Q : Value → Shared → Prop} (isT : s.heap.IsTuple l items)
    (h : ∀ h', IsEnum h' (s.heap.objs.size + 1) s.heap.objs.size 0 .none → h'.IsTupleIter s.heap.objs.size l 0 → (∀ b o, s.heap.get? b = some o → h'.get? b = some o) → Q (.ref (s.heap.objs.size + 1)) { s with heap := h' }) :
    wpAny (model prog w) A (call (.type "enumerate") [.ref l]) Q E s := by
  obtain ⟨⟨c, dct, dt, sl⟩, at_, isC, n, isD⟩ := isT
  obtain rfl : c = .type "tuple" := isC
  obtain rfl : dt = .seq items n := isD
  refine callType_new F.called_enumerate (by decide) (F.typeCall_enumerate_1 _) (F.newCall_enumerate_1 _) (fun obj => F.args_object_init_2 obj _) F.entry_enumerate_new (PySem.meets_enumT l items n dct sl) ⟨at_, ?_⟩
  generalize hh : s.heap.push { cls := .type "tuple_iterator", data := .fields #[.ref l, .int 0 0] } = h1
  have sz : h1.objs.size = s.heap.objs.size + 1 := by rw [← hh]; exact Heap.size_push ..
  have isE : IsEnum (h1.push { cls := .type "enumerate", data := .fields #[.none, .bool false, .ref s.heap.objs.size, rawInt 0, .none, .none] }) (s.heap.objs.size + 1) s.heap.objs.size 0 .none := by
    rw [← sz]
    exact Heap.get?_push_size h1 rfl
  show _ ∧ _
  rw [sz]
  refine ⟨⟨_, isE, rfl⟩, h _ isE ⟨{ cls := .type "tuple_iterator", data := .fields #[.ref l, .int 0 0] }, Heap.get?_push_of_some _ ?_, rfl, rfl⟩ fun b o q => Heap.get?_push_of_some _ ?_⟩
  · rw [← hh]; exact Heap.get?_push_size _ rfl
  · rw [← hh]; exact Heap.get?_push_of_some _ q

/-! ### what a walk gives, by the interpreter's list -/
/-- more is to be kept away from: things that were not there -/
def More (Av Av' : Addr → Prop) (H : Hp) : Prop := (∀ a, Av a → Av' a) ∧ ∀ a, Av' a → Av a ∨ H a = none
section
variable {T : Tb} {w : World} {Av Av' : Addr → Prop} {β β' : List Addr} {hm hm' : MH} {H H' : Hp}
theorem More.refl : More Av Av H := ⟨fun _ h => h, fun _ h => .inl h⟩
theorem Ex'.frA (e : Ex' β hm H β' hm' H') (mo : More Av Av' H) : ∀ a o, H a = some o → ¬ lv Av β hm a → H' a = some o ∧ ¬ lv Av' β' hm' a := fun a o h n => by
  obtain ⟨h1, h2⟩ := e.frL (Av := Av) a o h n
  refine ⟨h1, fun q => ?_⟩
  rcases q with q | q
  · rcases mo.2 a q with z | z
    · exact n (.inl z)
    · rw [h] at z; cases z
  · exact h2 (.inr q)
theorem RV.monoA (e : Ex' β hm H β' hm' H') (mo : More Av Av' H) {m : MV} {x : V} (r : RV T (lv Av β hm) β H m x) : RV T (lv Av' β' hm') β' H' m x := r.imp e.pre (e.frA mo)
theorem RVs.monoA (e : Ex' β hm H β' hm' H') (mo : More Av Av' H) {m : List MV} {x : List V} (r : RVs T (lv Av β hm) β H m x) : RVs T (lv Av' β' hm') β' H' m x := r.imp e.pre (e.frA mo)
theorem SS.monoA {σm : MS} {σ : L2.St} (s : SS T (lv Av β hm) β H σm σ) (e : Ex' β hm H β' hm' H') (mo : More Av Av' H) : SS T (lv Av' β' hm') β' H' σm σ :=
  ⟨s.1, fun i v h => let ⟨x, h1, h2⟩ := s.2 i v h; ⟨x, h1, h2.monoA e mo⟩⟩
end
def JW (T : Tb) (w : World) (Av : Addr → Prop) (J : It) (l : List MV) (β1 : List Addr) (h1 : MH) (H1 : Hp) : Prop :=
  ∀ (Av' : Addr → Prop) (β : List Addr) (hm : MH) (H : Hp), More Av Av' H1 → Ex' β1 h1 H1 β hm H → HR T (hsOf w) Av' β hm H → J.stop l.length H ∧ ∀ i, i < l.length → J.go i H ∧
    ∀ x H', J.yld i H x H' → Ex' β hm H β hm H' ∧ HR T (hsOf w) Av' β hm H' ∧ ∃ m, l[i]? = some m ∧ RV T (lv Av' β hm) β H' m x
def tIi (T : Tb) (w : World) (F : Fn) (e : Ex) : TI := fun σ H R => ∃ (Av : Addr → Prop) (β : List Addr) (hm : MH) (σm : MS) (l : List MV) (h1 : MH), Sg T w Av β hm H σm σ ∧ evI T.G F e σm hm = .ok l h1 ∧
  ∀ (J : It) (β1 : List Addr) (H1 : Hp), Ex' β hm H β1 h1 H1 → HR T (hsOf w) Av β1 h1 H1 → JW T w Av J l β1 h1 H1 → R J H1
section
variable {T : Tb} {w : World} {Av : Addr → Prop} {β : List Addr} {hm : MH} {H : Hp} {a : Addr} {l : List MV}
theorem jw_list (r : RV T (lv Av β hm) β H (.lst l) (.ref a)) : JW T w Av (Itl T.K a) l β hm H := by
  intro Av' β' hm' H' mo e hr
  obtain ⟨_, xs, e2, sq, _, q⟩ := (r.monoA e mo).lst'
  cases e2
  have wk := walk_list (K := T.K) (a := a) (xs := xs)
  have sqL := SqL.of_lst (K := T.K) sq
  rw [q.length]
  refine ⟨wk.stops H' sqL, fun i hi => ⟨wk.goes i H' hi sqL, fun x H2 y => ?_⟩⟩
  obtain ⟨rfl, hx⟩ := wk.yields i H' x H2 hi sqL y
  obtain ⟨m, h1, h2⟩ := q.get' hx
  exact ⟨Ex'.refl, hr, m, h1, h2⟩
theorem jw_tup (r : RV T (lv Av β hm) β H (.tup l) (.ref a)) : JW T w Av (Itt T.K a) l β hm H := by
  intro Av' β' hm' H' mo e hr
  obtain ⟨_, xs, e2, sq, q⟩ := (r.monoA e mo).tup'
  cases e2
  have wk := walk_tup (K := T.K) (a := a) (xs := xs)
  rw [q.length]
  refine ⟨wk.stops H' sq, fun i hi => ⟨wk.goes i H' hi sq, fun x H2 y => ?_⟩⟩
  obtain ⟨rfl, hx⟩ := wk.yields i H' x H2 hi sq y
  obtain ⟨m, h1, h2⟩ := q.get' hx
  exact ⟨Ex'.refl, hr, m, h1, h2⟩
theorem enumM_get : ∀ {l : List MV} {k i : Nat}, (enumM k l)[i]? = (l[i]?).map fun m => .tup [.int ((k + i : Nat) : Int), m]
  | [], k, i => by simp [enumM]
  | a :: l, k, 0 => by simp [enumM]
  | a :: l, k, i + 1 => by
    simp only [enumM, List.getElem?_cons_succ]
    rw [enumM_get]
    rw [show k + 1 + i = k + (i + 1) by omega]
theorem enumM_len : ∀ {l : List MV} {k : Nat}, (enumM k l).length = l.length
  | [], _ => rfl
  | _ :: l, k => by simp only [enumM, List.length_cons]; rw [enumM_len]
theorem rngM_get : ∀ {n i : Nat} {lo : Int}, i < n → (rngM lo n)[i]? = some (.int (lo + i))
  | 0, _, _, h => by omega
  | n + 1, 0, lo, _ => by simp [rngM]
  | n + 1, i + 1, lo, h => by
    simp only [rngM, List.getElem?_cons_succ]
    rw [rngM_get (by omega), show lo + 1 + (i : Int) = lo + ((i + 1 : Nat) : Int) by omega]
theorem rngM_len : ∀ {n : Nat} {lo : Int}, (rngM lo n).length = n
  | 0, _ => rfl
  | n + 1, lo => by simp only [rngM, List.length_cons]; rw [rngM_len]
theorem jw_pair {m : MV} {x v : V} {p : Addr} {k : Int} {H2 : Hp} (hr : HR T (hsOf w) Av β hm H) (r : RV T (lv Av β hm) β H m x) (hp : H p = none) (e : H2 = upd H p (.tup [.int k, x])) (ev : v = .ref p) :
    Ex' β hm H β hm H2 ∧ HR T (hsOf w) Av β hm H2 ∧ RV T (lv Av β hm) β H2 (.tup [.int k, m]) v := by
  subst e ev
  have ee := Ex'.new (β := β) (hm := hm) (o := .tup [.int k, x]) hp
  exact ⟨ee, hr.new hp, .tup (.inl upd_same) (fun q => hr.noL hp q) (.cons (.int k) (.one (r.mono ee)))⟩
theorem jw_enumT (r : RV T (lv Av β hm) β H (.tup l) (.ref a)) : JW T w Av (Itp T.K a) (enumM 0 l) β hm H := by
  intro Av' β' hm' H' mo e hr
  obtain ⟨_, xs, e2, sq, q⟩ := (r.monoA e mo).tup'
  cases e2
  rw [enumM_len]
  refine ⟨⟨xs, sq, q.length.symm⟩, fun i hi => ⟨?_, fun v H2 y => ?_⟩⟩
  · rw [q.length] at hi
    exact ⟨xs, xs[i], sq, by simp [hi]⟩
  · obtain ⟨p, x, rfl, hp, rfl, hx⟩ := y
    obtain ⟨m, h1, h2⟩ := q.get' (hx xs sq)
    obtain ⟨a1, a2, a3⟩ := jw_pair (k := ((i : Nat) : Int)) hr h2 hp rfl rfl
    exact ⟨a1, a2, _, by rw [enumM_get, h1, Nat.zero_add]; rfl, a3⟩
theorem jw_enumL (r : RV T (lv Av β hm) β H (.lst l) (.ref a)) : JW T w Av (Ite T.K a) (enumM 0 l) β hm H := by
  intro Av' β' hm' H' mo e hr
  obtain ⟨_, xs, e2, sq, _, q⟩ := (r.monoA e mo).lst'
  cases e2
  have sqL := SqL.of_lst (K := T.K) sq
  rw [enumM_len]
  refine ⟨⟨xs, sqL, Nat.le_of_eq q.length.symm⟩, fun i hi => ⟨?_, fun v H2 y => ?_⟩⟩
  · rw [q.length] at hi
    exact ⟨xs, xs[i], sqL, by simp [hi]⟩
  · obtain ⟨p, x, rfl, hp, rfl, hx⟩ := y
    obtain ⟨m, h1, h2⟩ := q.get' (hx xs sqL)
    obtain ⟨a1, a2, a3⟩ := jw_pair (k := ((i : Nat) : Int)) hr h2 hp rfl rfl
    exact ⟨a1, a2, _, by rw [enumM_get, h1, Nat.zero_add]; rfl, a3⟩
theorem zipM_get : ∀ {l l2 : List MV} {i : Nat} {a b : MV}, l[i]? = some a → l2[i]? = some b → (zipM l l2)[i]? = some (.tup [a, b])
  | [], _, _, _, _, h, _ => by simp at h
  | _ :: _, [], _, _, _, _, h => by simp at h
  | x :: l, y :: l2, 0, a, b, h, h2 => by
    simp only [List.getElem?_cons_zero, Option.some.injEq] at h h2
    subst h h2
    rfl
  | x :: l, y :: l2, i + 1, a, b, h, h2 => by
    simp only [zipM, List.getElem?_cons_succ] at h h2 ⊢
    exact zipM_get h h2
theorem zipM_len : ∀ {l l2 : List MV}, (zipM l l2).length = min l.length l2.length
  | [], l2 => by cases l2 <;> simp [zipM]
  | _ :: _, [] => by simp [zipM]
  | _ :: l, _ :: l2 => by
    simp only [zipM, List.length_cons]
    rw [zipM_len]
    omega
theorem jw_zip {b : Addr} {l2 : List MV} (r : RV T (lv Av β hm) β H (.tup l) (.ref a)) (r2 : RV T (lv Av β hm) β H (.tup l2) (.ref b)) : JW T w Av (RZ.ItzT T.K a b) (zipM l l2) β hm H := by
  intro Av' β' hm' H' mo e hr
  obtain ⟨_, xs, e2, sq, q⟩ := (r.monoA e mo).tup'
  cases e2
  obtain ⟨_, ys, e2, sq2, q2⟩ := (r2.monoA e mo).tup'
  cases e2
  rw [zipM_len]
  refine ⟨⟨xs, ys, sq, sq2, by rw [← q.length, ← q2.length]; omega⟩, fun i hi => ⟨?_, fun v H2 y => ?_⟩⟩
  · have h1 : i < xs.length := by rw [← q.length]; omega
    have h2 : i < ys.length := by rw [← q2.length]; omega
    exact ⟨xs, ys, xs[i], ys[i], sq, sq2, by simp [h1], by simp [h2]⟩
  · obtain ⟨p, x, y', rfl, hp, rfl, hx, hy⟩ := y
    obtain ⟨m, h1, h2⟩ := q.get' (hx xs sq)
    obtain ⟨m2, h3, h4⟩ := q2.get' (hy ys sq2)
    have ee := Ex'.new (β := β') (hm := hm') (o := .tup [x, y']) hp
    exact ⟨ee, hr.new hp, _, zipM_get h1 h3, .tup (.inl upd_same) (fun q => hr.noL hp q) (.cons (h2.mono ee) (.one (h4.mono ee)))⟩
theorem jw_rng {lo : Int} {n : Nat} : JW T w Av (Itr lo n) (rngM lo n) β hm H := by
  intro Av' β' hm' H' mo e hr
  have wk := walk_range (lo := lo) (n := n)
  rw [rngM_len]
  refine ⟨wk.stops H' trivial, fun i hi => ⟨wk.goes i H' hi trivial, fun x H2 y => ?_⟩⟩
  obtain ⟨rfl, rfl⟩ := wk.yields i H' x H2 hi trivial y
  exact ⟨Ex'.refl, hr, _, rngM_get hi, .int _⟩
end

/-! ### the walked expressions -/
section
variable {X : Cx} {T : Tb} {w : World} {F : Fn} {pos : Pos} {tg : Expr}
theorem i_val {e : Ex} {p : Expr} (hK : X.K = T.K) (he : PE X p (tE T w F e)) (hev : ∀ σm hm l h1, evI T.G F e σm hm = .ok l h1 → ∃ v, evE T.G F e σm hm = .ok v h1 ∧ (v = .tup l ∨ v = .lst l)) : PI X tg p (tIi T w F e) := by
  refine ⟨fun pins s σ H R I h => ?_⟩
  obtain ⟨Av, β, hm, σm, l, h1, g, ev, k⟩ := h
  obtain ⟨v, ev, kind⟩ := hev _ _ _ _ ev
  refine thn (he.run pins s σ H (fun z H1 => ∃ β1, Ex' β hm H β1 h1 H1 ∧ Sg T w Av β1 h1 H1 σm σ ∧ RV T (lv Av β1 h1) β1 H1 v z) I (tE_then g ev fun β1 H1 z i1 g1 r1 => ⟨β1, i1, g1, r1⟩)) fun u s1 ⟨z, H1, I1, rz, β1, i1, g1, r1⟩ => ?_
  have fresh := I1.fpOk (H' := H1) (Nat.le_refl _) (I1.hok.fresh (Nat.le_refl _))
  have only : ∀ b ∈ [s1.heap.objs.size], FpOk X pins H1 b := fun b hb => by rw [List.mem_singleton.mp hb]; exact fresh
  rcases kind with rfl | rfl
  · obtain ⟨a, xs, rfl, sq, q⟩ := id r1.tup'
    cases rz
    rw [← hK] at sq
    obtain ⟨its, _, isT, _⟩ := I1.tuple sq
    exact wpAny_pyIter_tuple (show s1.heap.IsTuple a its.toArray from isT) ⟨_, _, _, _, H1, rfl, I1.kept (t' := s1.toks) (fun b o e => Heap.get?_push_of_some _ e), turn_tuple a _, ⟨_, Heap.get?_push_size _ rfl, rfl, rfl⟩, only, by rw [hK]; exact k _ β1 H1 i1 g1.hr (jw_tup r1)⟩
  · obtain ⟨a, xs, rfl, sq, _, q⟩ := id r1.lst'
    cases rz
    obtain ⟨its, _, isL, _⟩ := I1.list (SqL.of_lst sq)
    exact wpAny_pyIter_list isL.isList ⟨_, _, _, _, H1, rfl, I1.kept (t' := s1.toks) (fun b o e => Heap.get?_push_of_some _ e), turn_list a _, ⟨_, Heap.get?_push_size _ rfl, rfl, rfl⟩, only, by rw [hK]; exact k _ β1 H1 i1 g1.hr (jw_list r1)⟩
theorem i_rng1 {a : Ex} {p : Expr} {p1 : Pos} (hg : Gl X "range") (hm : X.mg "range" = none) (ha : PE X p (tE T w F a)) (hf : flatE p = true) : PI X tg (.Call (.Name "range" p1) [p] [] pos) (tIi T w F (.rng1 a)) := by
  refine PI.of (pi_range1 hg hm (pa_cons ha pa_nil (star1 hf _ _)) (by rw [star1 hf]; rfl)) fun σ H R h => ?_
  obtain ⟨Av, β, hm, σm, l, h1, g, ev, k⟩ := h
  simp only [evI, specB, evR] at ev
  split at ev
  · rename_i j h2 e1
    obtain ⟨hc, rfl, rfl⟩ := ite_ok ev
    simp only [mid, Bool.and_eq_true, decide_eq_true_eq] at hc
    refine tE_then g e1 fun β1 H1 z i1 g1 r1 => ?_
    cases r1.int'
    exact ⟨j, rfl, hc.1, hc.2, k _ β1 H1 i1 g1.hr jw_rng⟩
  · cases ev
theorem i_rng2 {a b : Ex} {p q : Expr} {p1 : Pos} (hg : Gl X "range") (hm : X.mg "range" = none) (ha : PE X p (tE T w F a)) (hb : PE X q (tE T w F b)) (hf : flatE p = true) (hf2 : flatE q = true) : PI X tg (.Call (.Name "range" p1) [p, q] [] pos) (tIi T w F (.rng2 a b)) := by
  refine PI.of (pi_range2 hg hm (pa_cons ha (pa_cons hb pa_nil (star1 hf2 _ _)) (star1 hf _ _)) (by rw [star1 hf, star1 hf2]; rfl) (by rw [star1 hf2]; rfl)) fun σ H R h => ?_
  obtain ⟨Av, β, hm, σm, l, h1, g, ev, k⟩ := h
  simp only [evI, specB, evR] at ev
  split at ev
  · rename_i i h2 e1
    split at ev
    · rename_i j h3 e2
      obtain ⟨hc, rfl, rfl⟩ := ite_ok ev
      simp only [mid, Bool.and_eq_true, decide_eq_true_eq] at hc
      refine tE_then g e1 fun β1 H1 z i1 g1 r1 => tE_then g1 e2 fun β2 H2 z2 i2 g2 r2 => ?_
      cases r1.int'; cases r2.int'
      exact ⟨i, j, rfl, ⟨hc.1.1, hc.1.2, hc.2.1, hc.2.2⟩, k _ β2 H2 (i1.trans i2) g2.hr jw_rng⟩
    · cases ev
  · cases ev
theorem i_zip {a b : Ex} {p q : Expr} {p1 tpos : Pos} {elts : List Expr} {kk : Nat} (hK : X.K = T.K) (hg : Gl X "zip") (hm : X.mg "zip" = none) (ha : PE X p (tE T w F a)) (hb : PE X q (tE T w F b)) (hf : flatE p = true) (hf2 : flatE q = true) : PI X (.Tuple elts kk tpos) (.Call (.Name "zip" p1) [p, q] [] pos) (tIi T w F (.zip a b)) := by
  refine PI.of (RZ.pi_zipA hg hm (pa_cons ha (pa_cons hb pa_nil (star1 hf2 _ _)) (star1 hf _ _)) (by rw [star1 hf]) (by rw [star1 hf2]; rfl)) fun σ H R h => ?_
  obtain ⟨Av, β, hm, σm, l, h1, g, ev, k⟩ := h
  simp only [evI, specB, evR] at ev
  split at ev
  · rename_i l1 h2 e1
    split at ev
    · rename_i l2 h3 e2
      obtain ⟨rfl, rfl⟩ := out_inj ev
      refine tE_then g e1 fun β1 H1 z i1 g1 r1 => tE_then g1 e2 fun β2 H2 z2 i2 g2 r2 => ?_
      obtain ⟨a', xs, rfl, s1, q1⟩ := (r1.mono i2).tup'
      obtain ⟨b', ys, rfl, s2, q2⟩ := id r2.tup'
      exact ⟨a', b', xs, ys, rfl, .inr ⟨by rw [hK]; exact s1, by rw [hK]; exact s2, by rw [hK]; exact k _ β2 H2 (i1.trans i2) g2.hr (jw_zip (r1.mono i2) r2)⟩⟩
    · cases ev
  · cases ev
theorem i_enm {a : Ex} {p : Expr} {p1 tpos : Pos} {elts : List Expr} {kk : Nat} (hK : X.K = T.K) (hg : Gl X "enumerate") (hme : X.mg "enumerate" = none) (ha : PE X p (tE T w F a)) (hf : flatE p = true) : PI X (.Tuple elts kk tpos) (.Call (.Name "enumerate" p1) [p] [] pos) (tIi T w F (.enm a)) := by
  refine ⟨fun pins s σ H R I h => ?_⟩
  obtain ⟨Av, β, hm, σm, l, h1, g, ev, k⟩ := h
  simp only [evI, specB, evR] at ev
  have base : ∃ v l', evE T.G F a σm hm = .ok v h1 ∧ (v = .tup l' ∨ v = .lst l') ∧ l = enumM 0 l' := by
    split at ev
    · rename_i l' h2 e1
      obtain ⟨rfl, rfl⟩ := out_inj ev
      exact ⟨_, l', e1, .inl rfl, rfl⟩
    · rename_i l' h2 e1
      obtain ⟨rfl, rfl⟩ := out_inj ev
      exact ⟨_, l', e1, .inr rfl, rfl⟩
    · cases ev
  obtain ⟨v, l', e1, kind, rfl⟩ := base
  refine Call_ (ld_blt I hg hme boot_enumerate (PyProof.Rows.callWith_type1 (thn ((pa_cons ha pa_nil (star1 hf _ _)).run pos pins s σ H (fun zs H1 => ∃ z, zs = [z] ∧ ∃ β1, Ex' β hm H β1 h1 H1 ∧ Sg T w Av β1 h1 H1 σm σ ∧ RV T (lv Av β1 h1) β1 H1 v z) I (tE_then g e1 fun β1 H1 z i1 g1 r1 => ⟨z, rfl, β1, i1, g1, r1⟩)) fun us s1 ⟨zs, H1, I1, rs, z, ez, β1, i1, g1, r1⟩ => ?_) (by rw [star1 hf]) rfl))
  subst ez
  obtain ⟨u, rfl, rz⟩ := vals1 rs
  have two : ∀ b ∈ [s1.heap.objs.size + 1, s1.heap.objs.size], FpOk X pins H1 b := fun b hb => by
    have le : s1.heap.objs.size ≤ b := by
      rcases List.mem_cons.mp hb with rfl | hb
      · exact Nat.le_succ _
      · exact Nat.le_of_eq (List.mem_singleton.mp hb).symm
    exact I1.fpOk le (I1.hok.fresh le)
  rcases kind with rfl | rfl
  · obtain ⟨b, xs, rfl, sq, q⟩ := id r1.tup'
    cases rz
    rw [← hK] at sq
    obtain ⟨its, _, isT, _⟩ := I1.tuple sq
    have lt : b < s1.heap.objs.size := isT.lt
    refine call_enumT (show s1.heap.IsTuple b its.toArray from isT) fun h' isE isI kept => wpAny_pyIter_enum isE ?_
    exact ⟨_, _, _, _, H1, rfl, I1.kept (t' := s1.toks) kept, turn_enumT b _ _, ⟨⟨_, isE⟩, isI, Nat.succ_ne_self _, Nat.ne_of_lt lt, Nat.ne_of_lt (Nat.lt_succ_of_lt lt)⟩, two, by rw [hK]; exact k _ β1 H1 i1 g1.hr (jw_enumT r1)⟩
  · obtain ⟨b, xs, rfl, sq, _, q⟩ := id r1.lst'
    cases rz
    obtain ⟨its, _, isL, _⟩ := I1.list (SqL.of_lst sq)
    refine call_enumerate_list isL.isList fun h' isE isI _ kept => wpAny_pyIter_enum isE ?_
    exact ⟨_, _, _, _, H1, rfl, I1.kept (t' := s1.toks) kept, turn_enum b _ _, ⟨⟨_, isE⟩, isI, Nat.succ_ne_self _⟩, two, by rw [hK]; exact k _ β1 H1 i1 g1.hr (jw_enumL r1)⟩
end
end Mi

namespace Mi
open PySem PySem.Spec PyProof.Rows L2

mutual
def tgN : Tg → List Nat
  | .nm i => [i]
  | .tup l => tgsN l
def tgsN : List Tg → List Nat
  | [] => []
  | t :: l => tgN t ++ tgsN l
end
theorem wipe_comm {σ : L2.St} {i : Nat} {x : Option V} : ∀ {vs : List Nat}, i ∉ vs → wipe (σ.set i x) vs = (wipe σ vs).set i x
  | [], _ => rfl
  | v :: vs, h => by
    simp only [List.mem_cons, not_or] at h
    show (wipe (σ.set i x) vs).set v none = ((wipe σ vs).set v none).set i x
    rw [wipe_comm h.2, List.set_comm _ _ h.1]
theorem wipe_set {σ : L2.St} {i : Nat} {x : Option V} : ∀ {vs : List Nat}, i ∈ vs → wipe (σ.set i x) vs = wipe σ vs
  | [], h => by cases h
  | v :: vs, h => by
    show (wipe (σ.set i x) vs).set v none = (wipe σ vs).set v none
    by_cases e : i ∈ vs
    · rw [wipe_set e]
    · have : i = v := by
        rcases List.mem_cons.mp h with z | z
        · exact z
        · exact absurd z e
      subst this
      rw [wipe_comm e, List.set_set]
theorem wipe_idem {σ : L2.St} {vs : List Nat} : ∀ {ws : List Nat}, (∀ i ∈ ws, i ∈ vs) → wipe (wipe σ ws) vs = wipe σ vs
  | [], _ => rfl
  | w :: ws, h => by
    show wipe ((wipe σ ws).set w none) vs = wipe σ vs
    rw [wipe_set (h w (List.mem_cons_self ..)), wipe_idem fun i hi => h i (List.mem_cons_of_mem _ hi)]
/-- a target's reading -/
def tGt (T : Tb) (w : World) (t : Tg) : TG := fun v σ H Q => ∃ (Av : Addr → Prop) (β : List Addr) (hm : MH) (σm σ2 : MS) (m : MV), Sg T w Av β hm H σm σ ∧ RV T (lv Av β hm) β H m v ∧ stT t m σm hm = some σ2 ∧
  ∀ σ', Sg T w Av β hm H σ2 σ' → (∀ vs, (∀ i ∈ tgN t, i ∈ vs) → wipe σ' vs = wipe σ vs) → Q σ' H
def tGs (T : Tb) (w : World) (ts : List Tg) : TGs := fun vs σ H Q => ∃ (Av : Addr → Prop) (β : List Addr) (hm : MH) (σm σ2 : MS) (l : List MV), Sg T w Av β hm H σm σ ∧ RVs T (lv Av β hm) β H l vs ∧ stTs ts l σm hm = some σ2 ∧
  ∀ σ', Sg T w Av β hm H σ2 σ' → (∀ vs, (∀ i ∈ tgsN ts, i ∈ vs) → wipe σ' vs = wipe σ vs) → Q σ' H
section
variable {X : Cx} {T : Tb} {w : World} {pos : Pos}
theorem PGs.of {e : List Expr} {t t' : TGs} (h : PGs X e t) (i : ∀ v σ H Q, t' v σ H Q → t v σ H Q) : PGs X e t' := ⟨fun pins s σ H v u Q I r q => h.run pins s σ H v u Q I r (i v σ H Q q)⟩
theorem g_nm {i : Nat} {y : Str} (hN : X.N.Nodup) (hi : X.N[i]? = some y) (hx : Loc X.env.scope y) (hf : X.fn y = true ∨ X.env.scope.names.lookup y = some .local) : PG X (.Name y pos) (tGt T w (.nm i)) := by
  refine PG.of (pg_name hN hi hx hf) fun v σ H Q h => ?_
  obtain ⟨Av, β, hm, σm, σ2, m, g, r, e, k⟩ := h
  simp only [stT, Option.some.injEq] at e
  subst e
  exact k _ ⟨g.hr, g.ss.set r⟩ fun vs hv => wipe_set (hv i (by simp [tgN]))
theorem gs_nil : PGs X [] (tGs T w []) := by
  refine PGs.of pgs_nil fun v σ H Q h => ?_
  obtain ⟨Av, β, hm, σm, σ2, m, g, r, e, k⟩ := h
  cases m with
  | nil =>
    simp only [stTs, Option.some.injEq] at e
    subst e
    cases r
    exact ⟨rfl, k _ g fun vs _ => rfl⟩
  | cons a l => simp only [stTs] at e; cases e
theorem gs_cons {t : Tg} {ts : List Tg} {p : Expr} {es : List Expr} (h1 : PG X p (tGt T w t)) (h2 : PGs X es (tGs T w ts)) (hs : assignEach (p :: es) X.env = (false, assign p X.env) :: assignEach es X.env) : PGs X (p :: es) (tGs T w (t :: ts)) := by
  refine PGs.of (pgs_cons h1 h2 (by rw [hs]; rfl)) fun v σ H Q h => ?_
  obtain ⟨Av, β, hm, σm, σ2, m, g, r, e, k⟩ := h
  cases m with
  | nil => simp only [stTs] at e; cases e
  | cons a l =>
    simp only [stTs] at e
    split at e
    · rename_i σ3 e1
      cases r with
      | cons ra rl =>
        refine ⟨_, _, rfl, Av, β, hm, σm, σ3, a, g, ra, e1, fun σ' g' hw => ?_⟩
        refine ⟨Av, β, hm, σ3, σ2, l, g', rl, e, fun σ4 g4 hw4 => k σ4 g4 fun vs hv => ?_⟩
        rw [hw4 vs fun i hi => hv i (by simp [tgsN, hi]), hw vs fun i hi => hv i (by simp [tgsN, hi])]
    · cases e
theorem stTs_len : ∀ {ts : List Tg} {l : List MV} {σ σ2 : MS} {hm : MH}, stTs ts l σ hm = some σ2 → l.length = ts.length
  | [], [], _, _, _, _ => rfl
  | [], _ :: _, _, _, _, e => by simp only [stTs] at e; cases e
  | _ :: _, [], _, _, _, e => by simp only [stTs] at e; cases e
  | t :: ts, a :: l, σ, σ2, hm, e => by
    simp only [stTs] at e
    split at e
    · rw [List.length_cons, List.length_cons, stTs_len e]
    · cases e
theorem g_tup {ts : List Tg} {es : List Expr} {kk : Nat} (hK : X.K = T.K) (hc : X.calm = true) (h : PGs X es (tGs T w ts)) (hn : (assignEach es X.env).length = ts.length) (hst : (assignEach es X.env).findIdx? (·.1) = none) : PG X (.Tuple es kk pos) (tGt T w (.tup ts)) := by
  refine PG.of (pg_tup hc h hn hst) fun v σ H Q h => ?_
  obtain ⟨Av, β, hm, σm, σ2, m, g, r, e, k⟩ := h
  simp only [stT] at e
  split at e
  · rename_i l
    obtain ⟨a, xs, rfl, sq, q⟩ := r.tup'
    exact ⟨a, xs, rfl, hK ▸ sq, by rw [← q.length, stTs_len e], Av, β, hm, σm, σ2, l, g, q, e, fun σ' g' hw => k σ' g' fun vs hv => hw vs fun i hi => hv i (by simpa [tgN] using hi)⟩
  · cases e
end

/-! ### what is kept away from may change -/
section
variable {T : Tb} {w : World} {Av : Addr → Prop} {β : List Addr} {hm : MH} {H : Hp} {p : Addr} {u : HO} {σm : MS} {σ : L2.St}
theorem RV.poke {T : Tb} (hp : Av p) {m : MV} {x : V} (r : RV T (lv Av β hm) β H m x) : RV T (lv Av β hm) β (upd H p u) m x :=
  r.imp (fun _ _ e => e) fun a o h n => ⟨by rw [upd_ne (fun e => by subst e; exact n (.inl hp))]; exact h, n⟩
theorem RVs.poke {T : Tb} (hp : Av p) {m : List MV} {x : List V} (r : RVs T (lv Av β hm) β H m x) : RVs T (lv Av β hm) β (upd H p u) m x :=
  r.imp (fun _ _ e => e) fun a o h n => ⟨by rw [upd_ne (fun e => by subst e; exact n (.inl hp))]; exact h, n⟩
theorem HR.poke (hp : Av p) (h : HR T (hsOf w) Av β hm H) : HR T (hsOf w) Av β hm (upd H p u) := by
  have nb : ∀ a ∈ β, a ≠ p := fun a ha e => h.av a ha (by rw [e]; exact hp)
  refine ⟨h.len, h.nd, h.av, fun a ha => by rw [upd_ne (nb a ha)]; exact h.thr a ha, fun a ha => ?_, fun i a o h1 h2 h3 => ?_⟩
  · by_cases e : a = p
    · subst e; rw [upd_same]; exact fun z => nomatch z
    · rw [upd_ne e]; exact h.avt a ha
  · obtain ⟨v, hv, r⟩ := h.obj i a o h1 h2 h3
    exact ⟨v, by rw [upd_ne (nb a (List.mem_of_getElem? h1))]; exact hv, r.imp fun _ _ z => z.poke hp⟩
/-- less is kept away from -/
theorem HR.less {Av' : Addr → Prop} (i : ∀ a, Av a → Av' a) (h : HR T (hsOf w) Av' β hm H) : HR T (hsOf w) Av β hm H := by
  refine ⟨h.len, h.nd, fun a ha q => h.av a ha (i a q), h.thr, fun a ha => h.avt a (i a ha), fun j a o h1 h2 h3 => ?_⟩
  obtain ⟨v, hv, r⟩ := h.obj j a o h1 h2 h3
  refine ⟨v, hv, r.imp fun _ _ z => z.imp (fun _ _ e => e) fun a o h n => ⟨h, fun q => n (q.imp (i a) id)⟩⟩
theorem RVs.less {Av' : Addr → Prop} (i : ∀ a, Av a → Av' a) {m : List MV} {x : List V} (r : RVs T (lv Av' β hm) β H m x) : RVs T (lv Av β hm) β H m x :=
  r.imp (fun _ _ e => e) fun a o h n => ⟨h, fun q => n (q.imp (i a) id)⟩
/-- a new thing that is kept away from at once -/
theorem HR.avoid (h : HR T (hsOf w) Av β hm H) (hp : H p = none) : HR T (hsOf w) (avo Av p) β hm (upd H p u) :=
  (Sg.avoid (σm := []) (σ := []) ⟨h, rfl, fun i v e => by simp at e⟩ hp).hr
theorem more_avo (hp : H p = none) : More Av (avo Av p) H := ⟨fun a h => .inl h, fun a h => h.imp id fun e => by rw [e]; exact hp⟩
end
theorem upd_self {H : Hp} {a : Addr} {o : HO} (h : H a = some o) : upd H a o = H := by
  funext b
  unfold upd
  split
  · rename_i e; rw [e, h]
  · rfl

/-! ### comprehensions -/
/-- the tests -/
def tTs (T : Tb) (w : World) (F : Fn) (l : List Ex) : TT := fun σ H Q => ∃ (Av : Addr → Prop) (β : List Addr) (hm : MH) (σm : MS) (v : MV) (hm' : MH) (b : Bool), Sg T w Av β hm H σm σ ∧ evTs T.G F l σm hm = .ok v hm' ∧ truth hm' v = some b ∧ Kpt T w Av β hm H hm' (Q b)
section
variable {X : Cx} {T : Tb} {w : World} {F : Fn} {pos : Pos}
theorem PTs.of {e : List Expr} {t t' : TT} (h : PTs X e t) (i : ∀ σ H Q, t' σ H Q → t σ H Q) : PTs X e t' := ⟨fun pins s σ H Q I q => h.run pins s σ H Q I (i σ H Q q)⟩
theorem ts_nil : PTs X [] (tTs T w F []) := by
  refine PTs.of pts_nil fun σ H Q h => ?_
  obtain ⟨Av, β, hm, σm, v, hm', b, g, e, t, k⟩ := h
  simp only [evTs] at e
  obtain ⟨rfl, rfl⟩ := out_inj e
  cases t
  exact k β H Ex'.refl g.hr
theorem ts_one {a : Ex} {p : Expr} (h : PT X p (tT T w F a)) : PTs X [p] (tTs T w F [a]) := by
  refine PTs.of (pts_one h) fun σ H Q h => ?_
  obtain ⟨Av, β, hm, σm, v, hm', b, g, e, t, k⟩ := h
  simp only [evTs] at e
  exact ⟨Av, β, hm, σm, v, hm', b, g, e, t, k⟩
/-- what is made so far at the i-th turn -/
structure CI (T : Tb) (w : World) (F : Fn) (tg : Tg) (ifs : List Ex) (elt : Ex) (own : List Nat) (Av : Addr → Prop) (β1 : List Addr) (h1 : MH) (H1 : Hp) (σm : MS) (l vs : List MV) (h2 : MH) (D : Addr) (i n : Nat) (H : Hp) : Prop where
  ex : ∃ (β : List Addr) (hm : MH) (acc : List MV) (xs : List V), n = l.length - i ∧ i ≤ l.length ∧ Ex' β1 h1 H1 β hm H ∧ HR T (hsOf w) (avo Av D) β hm H ∧ H D = some (.lst xs) ∧ RVs T (lv (avo Av D) β hm) β H acc xs ∧
    loopC tg (fun σ h => evTs T.G F ifs σ h) (fun σ h => evE T.G F elt σ h) (wipeM σm own) (l.drop i) acc hm = .ok vs h2
theorem loopC_cons {tg : Tg} {tt e : MS → MH → Out MV} {σ : MS} {v : MV} {l acc vs : List MV} {h h2 : MH} (ev : loopC tg tt e σ (v :: l) acc h = .ok vs h2) : ∃ σ2 c h3 b, stT tg v σ h = some σ2 ∧ tt σ2 h = .ok c h3 ∧ truth h3 c = some b ∧
    ((b = true ∧ ∃ x h4, e σ2 h3 = .ok x h4 ∧ acc.length < 100000 ∧ loopC tg tt e σ l (acc ++ [x]) h4 = .ok vs h2) ∨ (b = false ∧ loopC tg tt e σ l acc h3 = .ok vs h2)) := by
  simp only [loopC] at ev
  split at ev
  · rename_i σ2 e1
    split at ev
    · rename_i c h3 e2
      split at ev
      · rename_i e3
        split at ev
        · rename_i x h4 e4
          split at ev
          · rename_i hz
            exact ⟨σ2, c, h3, true, e1, e2, e3, .inl ⟨rfl, x, h4, e4, of_decide_eq_true hz, ev⟩⟩
          · cases ev
        · cases ev
      · rename_i e3
        exact ⟨σ2, c, h3, false, e1, e2, e3, .inr ⟨rfl, ev⟩⟩
      · cases ev
    · cases ev
  · cases ev
theorem comp_of {tg : Tg} {it elt : Ex} {ifs : List Ex} {own : List Nat} (hown : ∀ i ∈ tgN tg, i ∈ own) {Av : Addr → Prop} {β : List Addr} {hm h1 h2 : MH} {σm : MS} {σ : L2.St} {H : Hp} {l vs : List MV} {Q : VK} (g : Sg T w Av β hm H σm σ)
    (e1 : evI T.G F it σm hm = .ok l h1) (e2 : loopC tg (fun σ h => evTs T.G F ifs σ h) (fun σ h => evE T.G F elt σ h) (wipeM σm own) l [] h1 = .ok vs h2)
    (k : ∀ (D : Addr) (β2 : List Addr) (H2 : Hp) (xs : List V), Ex' β hm H β2 h2 H2 → HR T (hsOf w) (avo Av D) β2 h2 H2 → H2 D = some (.lst xs) → RVs T (lv (avo Av D) β2 h2) β2 H2 vs xs → H D = none → ¬ Av D → Q (.ref D) H2) :
    tLc (tIi T w F it) (tGt T w tg) (tTs T w F ifs) (tE T w F elt) own σ H Q := by
  refine ⟨Av, β, hm, σm, l, h1, g, e1, fun J β1 H1 i1 hr1 jw D hD => ?_⟩
  have g1 := g.mono i1 hr1
  have nAv : ¬ Av D := fun z => hr1.avt D z hD
  have mo : More Av (avo Av D) H1 := more_avo hD
  have hDH : H D = none := by
    cases z : H D with
    | none => rfl
    | some o => exact absurd hD (i1.thr D (by rw [z]; exact fun q => nomatch q))
  refine ⟨CI T w F tg ifs elt own Av β1 h1 H1 σm l vs h2 D, ⟨_, β1, h1, [], [], rfl, Nat.zero_le _, Ex'.new hD, hr1.avoid hD, upd_same, .nil, e2⟩, fun i n H3 inv => ?_⟩
  obtain ⟨β3, h3, acc, xs, rfl, hi, i3, hr3, hD3, racc, ev⟩ := inv.ex
  obtain ⟨jstop, jgo⟩ := jw (avo Av D) β3 h3 H3 mo i3 hr3
  by_cases lt : i < l.length
  · refine .inr ⟨(jgo i lt).1, CI T w F tg ifs elt own Av β1 h1 H1 σm l vs h2 D (i + 1) (l.length - (i + 1)), fun H' z => ⟨_, by omega, z⟩, fun x H' y => ?_⟩
    obtain ⟨i4, hr4, m, hm1, rm⟩ := (jgo i lt).2 x H' y
    have dr : l.drop i = m :: l.drop (i + 1) := by
      obtain ⟨_, e⟩ := List.getElem?_eq_some_iff.mp hm1
      rw [List.drop_eq_getElem_cons lt, e]
    rw [dr] at ev
    obtain ⟨σ2, c, h5, b, q1, q2, q3, q4⟩ := loopC_cons ev
    have ss : SS T (lv (avo Av D) β3 h3) β3 H' σm σ := (g1.ss.monoA i3 mo).mono i4
    have avD : avo Av D D := .inr rfl
    -- the list that is being made stays as it is
    have keepD : ∀ {β' : List Addr} {h' : MH} {H'' : Hp} {u : HO}, H' D = some u → Ex' β3 h3 H' β' h' H'' → H'' D = some u := fun hu e => e.frm D _ hu fun z => hr4.av D (mineThere hr4 z) avD
    have hD4 : H' D = some (.lst xs) := i4.frm D _ hD3 fun z => hr3.av D (mineThere hr3 z) avD
    refine ⟨avo Av D, β3, h3, wipeM σm own, σ2, m, ⟨hr4, ss.wipe own⟩, rm, q1, fun σ5 g5 hw => ⟨?_, ?_⟩⟩
    · rw [hw own hown]
      exact wipe_idem fun _ z => z
    · refine ⟨avo Av D, β3, h3, σ2, c, h5, b, g5, q2, q3, fun β6 H6 i6 hr6 => ?_⟩
      rcases q4 with ⟨rfl, y1, h7, q5, hz, q6⟩ | ⟨rfl, q6⟩
      · rw [if_pos rfl]
        refine tE_then (g5.mono i6 hr6) q5 fun β7 H7 y2 i7 g7 ry => ?_
        have hD7 := keepD hD4 (i6.trans i7)
        have r7 := (racc.mono (i4.trans (i6.trans i7)))
        refine ⟨xs, hD7, by rw [← r7.length, sizeLine_eq]; omega, ⟨β7, h7, acc ++ [y1], xs ++ [y2], rfl, lt, ?_, g7.hr.poke avD, upd_same, (r7.append (.one ry)).poke avD, q6⟩⟩
        have whole := i3.trans (i4.trans (i6.trans i7))
        refine ⟨whole.pre, whole.liv, fun a o z nn => ?_, fun a z => ?_⟩
        · rw [upd_ne (ne_of_none z hD)]; exact whole.frm a o z nn
        · by_cases e : a = D
          · subst e; exact absurd hD z
          · rw [upd_ne e]; exact whole.thr a z
      · rw [if_neg (by decide)]
        exact ⟨β6, h5, acc, xs, rfl, lt, i3.trans (i4.trans i6), hr6, keepD hD4 i6, racc.mono (i4.trans i6), q6⟩
  · have ei : i = l.length := by omega
    subst ei
    rw [List.drop_length] at ev
    simp only [loopC] at ev
    obtain ⟨rfl, rfl⟩ := out_inj ev
    exact .inl ⟨jstop, k D β3 H3 xs (i1.trans i3) hr3 hD3 racc hDH nAv⟩
theorem comp_split {m : Bool} {tg : Tg} {it elt : Ex} {ifs : List Ex} {own : List Nat} {σm : MS} {hm hm' : MH} {v : MV} {G : Gm} (e : evE G F (.comp m tg it ifs elt own) σm hm = .ok v hm') : ∃ l h1 vs h2, evI G F it σm hm = .ok l h1 ∧
    loopC tg (fun σ h => evTs G F ifs σ h) (fun σ h => evE G F elt σ h) (wipeM σm own) l [] h1 = .ok vs h2 ∧ ((m = true ∧ v = .loc h2.length ∧ hm' = h2 ++ [.lst vs]) ∨ (m = false ∧ v = .lst vs ∧ hm' = h2)) := by
  simp only [evE] at e
  (split at e; (case h_2 => cases e); rename_i l h1 e1)
  (split at e; (case h_2 => cases e); rename_i vs h2 e2)
  refine ⟨l, h1, vs, h2, e1, e2, ?_⟩
  cases m with
  | true => obtain ⟨rfl, rfl⟩ := out_inj e; exact .inl ⟨rfl, rfl, rfl⟩
  | false => obtain ⟨rfl, rfl⟩ := out_inj e; exact .inr ⟨rfl, rfl, rfl⟩
theorem comp_red {m : Bool} {tg : Tg} {it elt : Ex} {ifs : List Ex} {own : List Nat} (hown : ∀ i ∈ tgN tg, i ∈ own) {σ : L2.St} {H : Hp} {Q : VK} (h : tE T w F (.comp m tg it ifs elt own) σ H Q) : tLc (tIi T w F it) (tGt T w tg) (tTs T w F ifs) (tE T w F elt) own σ H Q := by
  obtain ⟨Av, β, hm, σm, v, hm', g, e, k⟩ := h
  obtain ⟨l, h1, vs, h2, e1, e2, fin⟩ := comp_split e
  refine comp_of hown g e1 e2 fun D β2 H2 xs i2 hr2 hD rv hn nAv => ?_
  have nb : D ∉ β2 := fun z => hr2.av D z (.inr rfl)
  rcases fin with ⟨rfl, rfl, rfl⟩ | ⟨rfl, rfl, rfl⟩
  · have us : upd H2 D (.lst xs) = H2 := upd_self hD
    have hr := HR.adopt (w := w) (u2 := .lst xs) (o := .lst vs) nAv hr2 (.lst (rv.imp (fun i a e => by rw [List.getElem?_append_left (List.getElem?_eq_some_iff.mp e).1]; exact e) fun a v h n => by
      have ne : a ≠ D := fun e => n (.inl (.inr e))
      refine ⟨by rw [upd_ne ne]; exact h, fun q => ?_⟩
      rcases q with q | ⟨i, m', e1, e2, e3⟩
      · exact n (.inl (.inl q))
      · by_cases hi : i < β2.length
        · rw [List.getElem?_append_left hi] at e1
          rw [List.getElem?_append_left (by have := hr2.len; omega)] at e2
          exact n (.inr ⟨i, m', e1, e2, e3⟩)
        · rw [List.getElem?_append_right (by omega)] at e1
          have := List.mem_of_getElem? e1
          rw [List.mem_singleton] at this
          exact ne this))
    rw [us] at hr
    refine k (β2 ++ [D]) H2 (.ref D) ⟨fun i a z => ?_, fun a z => ?_, i2.frm, i2.thr⟩ hr (.loc (by rw [← hr2.len]; exact getLen))
    · have z2 := i2.pre i a z
      rw [List.getElem?_append_left (List.getElem?_eq_some_iff.mp z2).1]; exact z2
    · obtain ⟨i, m, z1, z2, z3⟩ := z
      by_cases hi : i < β2.length
      · rw [List.getElem?_append_left hi] at z1
        rw [List.getElem?_append_left (by have := hr2.len; omega)] at z2
        exact i2.liv a ⟨i, m, z1, z2, z3⟩
      · rw [List.getElem?_append_right (by omega)] at z1
        have e1 := List.mem_of_getElem? z1
        rw [List.mem_singleton] at e1
        subst e1
        exact .inr hn
  · refine k β2 H2 (.ref D) i2 (hr2.less fun a z => .inl z) (.lst hD (fun q => ?_) (rv.less fun a z => .inl z))
    rcases q with q | ⟨i, m, z1, _⟩
    · exact nAv q
    · exact nb (List.mem_of_getElem? z1)
end
end Mi

namespace Mi
open PySem PySem.Spec PyProof.Rows L2

/-- what is wanted behind a statement -/
def Ks (T : Tb) (w : World) (Av : Addr → Prop) (β : List Addr) (hm : MH) (H : Hp) (D : Ends) (r : SR) : Prop := match r with
  | .nx σ2 h2 => ∀ β' H' σ', Ex' β hm H β' h2 H' → Sg T w Av β' h2 H' σ2 σ' → D.nx σ' H'
  | .rt v h2 => ∀ β' H' x, Ex' β hm H β' h2 H' → HR T (hsOf w) Av β' h2 H' → RV T (lv Av β' h2) β' H' v x → D.rt x H'
  | .bk σ2 h2 => ∀ β' H' σ', Ex' β hm H β' h2 H' → Sg T w Av β' h2 H' σ2 σ' → D.bk σ' H'
  | .ct σ2 h2 => ∀ β' H' σ', Ex' β hm H β' h2 H' → Sg T w Av β' h2 H' σ2 σ' → D.ct σ' H'
  | .bad => False
section
variable (T : Tb) (w : World) (F : Fn) (W : Nat)
def tSx (s : Sx) : TS := fun D σ H => ∃ (Av : Addr → Prop) (β : List Addr) (hm : MH) (σm : MS), Sg T w Av β hm H σm σ ∧ Ks T w Av β hm H D (evS T.G F W s σm hm)
def tSxs (l : List Sx) : TS := fun D σ H => ∃ (Av : Addr → Prop) (β : List Addr) (hm : MH) (σm : MS), Sg T w Av β hm H σm σ ∧ Ks T w Av β hm H D (evSs T.G F W l σm hm)
end
section
variable {T : Tb} {w : World} {F : Fn} {W : Nat} {Av : Addr → Prop} {β β' : List Addr} {hm hm' : MH} {H H' : Hp} {D : Ends} {r : SR} {σm : MS} {σ : L2.St}
theorem Ks.after (k : Ks T w Av β hm H D r) (e : Ex' β hm H β' hm' H') : Ks T w Av β' hm' H' D r := by
  cases r with
  | nx _ _ => exact fun β2 H2 σ' e2 => k β2 H2 σ' (e.trans e2)
  | rt _ _ => exact fun β2 H2 σ' e2 => k β2 H2 σ' (e.trans e2)
  | bk _ _ => exact fun β2 H2 σ' e2 => k β2 H2 σ' (e.trans e2)
  | ct _ _ => exact fun β2 H2 σ' e2 => k β2 H2 σ' (e.trans e2)
  | bad => exact k
theorem Ks.nx {σ2 : MS} {σ' : L2.St} (k : Ks T w Av β hm H D (.nx σ2 hm)) (g : Sg T w Av β hm H σ2 σ') : D.nx σ' H := k β H σ' Ex'.refl g
end
section
variable {X : Cx} {T : Tb} {w : World} {F : Fn} {W : Nat} {pos : Pos}
theorem ss_nil : PSs X [] (tSxs T w F W []) := by
  refine PSs.of pss_nil fun D σ H h => ?_
  obtain ⟨Av, β, hm, σm, g, k⟩ := h
  exact Ks.nx (by simpa only [evSs] using k) g
theorem ss_cons {s : Sx} {l : List Sx} {p : Stmt} {ps : List Stmt} (h1 : PS X p (tSx T w F W s)) (h2 : PSs X ps (tSxs T w F W l)) : PSs X (p :: ps) (tSxs T w F W (s :: l)) := by
  refine PSs.of (pss_cons h1 h2) fun D σ H h => ?_
  obtain ⟨Av, β, hm, σm, g, k⟩ := h
  simp only [evSs] at k
  refine ⟨Av, β, hm, σm, g, ?_⟩
  cases hr : evS T.G F W s σm hm with
  | nx σ2 h2 =>
    rw [hr] at k
    exact fun β' H' σ' e g' => ⟨Av, β', h2, σ2, g', k.after e⟩
  | rt v h2 => rw [hr] at k; exact k
  | bk σ2 h2 => rw [hr] at k; exact k
  | ct σ2 h2 => rw [hr] at k; exact k
  | bad => rw [hr] at k; exact k
/-- a docstring -/
theorem ss_doc {x : Str} {j : Nat} {p1 p2 : Pos} {l : List Sx} {ps : List Stmt} (h2 : PSs X ps (tSxs T w F W l)) : PSs X (.Expr (.Constant (.str x) j p1) p2 :: ps) (tSxs T w F W l) := by
  refine PSs.of (pss_cons ps_doc h2) fun D σ H h => ?_
  exact h
theorem s_expr {e : Ex} {p : Expr} (he : PE X p (tE T w F e)) (hs : swapsWith p none pos.line X.env = pure false) : PS X (.Expr p pos) (tSx T w F W (.expr e)) := by
  refine PS.of (ps_expr he hs) fun D σ H h => ?_
  obtain ⟨Av, β, hm, σm, g, k⟩ := h
  simp only [evS] at k
  split at k
  · rename_i v h1 e1
    exact tE_then g e1 fun β1 H1 x i1 g1 _ => k β1 H1 σ i1 g1
  · exact k.elim
theorem set_red {i : Nat} {e : Ex} {D : Ends} {σ : L2.St} {H : Hp} {te : TE} (hred : ∀ σ H Q, tE T w F e σ H Q → te σ H Q) (h : tSx T w F W (.set i e) D σ H) : tAsg te (gName i) D σ H := by
  obtain ⟨Av, β, hm, σm, g, k⟩ := h
  simp only [evS] at k
  split at k
  · rename_i v h1 e1
    exact hred _ _ _ (tE_then g e1 fun β1 H1 x i1 g1 r1 => k β1 H1 _ i1 ⟨g1.hr, g1.ss.set r1⟩)
  · exact k.elim
theorem s_set {i : Nat} {y : Str} {e : Ex} {p : Expr} {p' : Pos} (hN : X.N.Nodup) (hi : X.N[i]? = some y) (hx : Loc X.env.scope y) (hf : X.fn y = true ∨ X.env.scope.names.lookup y = some .local) (he : PE X p (tE T w F e)) (hs : swapsWith p (some (.Name y p')) pos.line X.env = pure false) :
    PS X (.Assign [.Name y p'] p pos) (tSx T w F W (.set i e)) :=
  PS.of (ps_set hN hi hx he hs hf) fun D σ H h => set_red (fun _ _ _ q => q) h
theorem s_unp {t : Tg} {e : Ex} {p : Expr} {es : List Expr} {kk : Nat} {tp : Pos} (he : PE X p (tE T w F e)) (hg : PG X (.Tuple es kk tp) (tGt T w t)) (hs : swapsWithSole [.Tuple es kk tp] p pos.line X.env = pure false) (hw : swappedStores [.Tuple es kk tp] p X.env = pure none) :
    PS X (.Assign [.Tuple es kk tp] p pos) (tSx T w F W (.unp t e)) := by
  refine PS.of (ps_asg he hg hs hw (by rfl)) fun D σ H h => ?_
  obtain ⟨Av, β, hm, σm, g, k⟩ := h
  simp only [evS] at k
  split at k
  · rename_i v h1 e1
    refine tE_then g e1 fun β1 H1 x i1 g1 r1 => ?_
    split at k
    · rename_i σ2 e2
      exact ⟨Av, β1, h1, σm, σ2, v, g1, r1, e2, fun σ' g' _ => k β1 H1 σ' i1 g'⟩
    · exact k.elim
  · exact k.elim
theorem s_par {i j : Nat} {x y : Str} {a b : Ex} {p q : Expr} {px py pt : Pos} {kt k2 : Nat} {pt2 : Pos} (hc : X.calm = true) (hN : X.N.Nodup) (hi : X.N[i]? = some x) (hj : X.N[j]? = some y) (hij : i ≠ j) (hx : X.env.scope.names.lookup x = some .local) (hy : X.env.scope.names.lookup y = some .local)
    (ha : PA X [p, q] (tAs T w F [a, b])) (hw : swappedStores [.Tuple [.Name x px, .Name y py] kt pt] (.Tuple [p, q] k2 pt2) X.env = pure (some [x, y])) : PS X (.Assign [.Tuple [.Name x px, .Name y py] kt pt] (.Tuple [p, q] k2 pt2) pos) (tSx T w F W (.par i j a b)) := by
  refine PS.of (ps_par hc hN hi hj hij hx hy ha hw) fun D σ H h => ?_
  obtain ⟨Av, β, hm, σm, g, k⟩ := h
  simp only [evS] at k
  split at k
  · rename_i v h1 e1
    split at k
    · rename_i u h2 e2
      refine tAs_then (vs := [v, u]) (h1 := h2) g (by simp only [evL, e1, e2]) fun β1 H1 xs i1 g1 r1 => ?_
      obtain ⟨x1, y1, rfl, r1, r2⟩ := r1.two'
      exact ⟨x1, y1, rfl, k β1 H1 _ i1 ⟨g1.hr, (g1.ss.set r1).set r2⟩⟩
    · exact k.elim
  · exact k.elim
theorem s_par3 {i j l : Nat} {x y z : Str} {a b c : Ex} {p q r : Expr} {px py pz pt : Pos} {kt k2 : Nat} {pt2 : Pos} (hc : X.calm = true) (hN : X.N.Nodup) (hi : X.N[i]? = some x) (hj : X.N[j]? = some y) (hl : X.N[l]? = some z) (hij : i ≠ j) (hil : i ≠ l) (hjl : j ≠ l)
    (hx : X.env.scope.names.lookup x = some .local) (hy : X.env.scope.names.lookup y = some .local) (hz : X.env.scope.names.lookup z = some .local) (ha : PA X [p, q, r] (tAs T w F [a, b, c]))
    (hw : swappedStores [.Tuple [.Name x px, .Name y py, .Name z pz] kt pt] (.Tuple [p, q, r] k2 pt2) X.env = pure (some [x, y, z])) : PS X (.Assign [.Tuple [.Name x px, .Name y py, .Name z pz] kt pt] (.Tuple [p, q, r] k2 pt2) pos) (tSx T w F W (.par3 i j l a b c)) := by
  refine PS.of (ps_par3 hc hN hi hj hl hij hil hjl hx hy hz ha hw) fun D σ H h => ?_
  obtain ⟨Av, β, hm, σm, g, k⟩ := h
  simp only [evS] at k
  split at k
  · rename_i v h1 e1
    split at k
    · rename_i u h2 e2
      split at k
      · rename_i t h3 e3
        refine tAs_then (vs := [v, u, t]) (h1 := h3) g (by simp only [evL, e1, e2, e3]) fun β1 H1 xs i1 g1 r1 => ?_
        cases r1 with
        | cons r1 r2 =>
          obtain ⟨x2, x3, rfl, r2, r3⟩ := r2.two'
          exact ⟨_, x2, x3, rfl, k β1 H1 _ i1 ⟨g1.hr, ((g1.ss.set r1).set r2).set r3⟩⟩
      · exact k.elim
    · exact k.elim
  · exact k.elim
theorem s_sub {o i e : Ex} {p q x : Expr} {sp : Pos} (hK : X.K = T.K) (hw : X.w = w) (hu : X.A.units + 65 < cLine) (he : PE X x (tE T w F e)) (ho : PE X p (tE T w F o)) (hi : PE X q (tE T w F i))
    (ha : ∀ v, assign (.Subscript p q sp) X.env v = (do
      let ov ← holding [v] (eval p X.env)
      let iv ← holding [v, ov] (eval q X.env)
      standAt sp
      holding [v, ov, iv] (setItem ov iv v)
      release [v, ov, iv] [])) (hs : swapsWithSole [.Subscript p q sp] x pos.line X.env = pure false) :
    PS X (.Assign [.Subscript p q sp] x pos) (tSx T w F W (.sub o i e)) := by
  refine PS.of (ps_asg he (pg_sub ho hi (setIx_ok (T := T) hK hw hu) ha) hs (by rfl) (by rfl)) fun D σ H h => ?_
  obtain ⟨Av, β, hm, σm, g, k⟩ := h
  simp only [evS] at k
  split at k
  case h_2 => exact k.elim
  rename_i v h1 e1
  split at k
  case h_2 => exact k.elim
  rename_i u h2 e2
  split at k
  case h_2 => exact k.elim
  rename_i y h3 e3
  split at k
  case h_2 => exact k.elim
  rename_i h4 e4
  refine tE_then g e1 fun β1 H1 z1 i1 g1 r1 => tE_then g1 e2 fun β2 H2 z2 i2 g2 r2 => tE_then g2 e3 fun β3 H3 z3 i3 g3 r3 => ?_
  exact ⟨Av, β3, h3, u, y, v, h4, g3.hr, r2.mono i3, r3, (r1.mono i2).mono i3, e4, fun H4 i4 hr4 => k β3 H4 σ (((i1.trans i2).trans i3).trans i4) (g3.mono i4 hr4)⟩
theorem asg1 {p : Expr} (h : flatE p = true) (es : List Expr) (env : Env) : assignEach (p :: es) env = (false, assign p env) :: assignEach es env := by
  cases p <;> first | rfl | cases h
theorem asg_len {env : Env} : ∀ {es : List Expr}, es.all flatE = true → (assignEach es env).length = es.length
  | [], _ => rfl
  | p :: es, h => by
    rw [List.all_cons, Bool.and_eq_true] at h
    rw [asg1 h.1, List.length_cons, asg_len h.2, List.length_cons]
theorem asg_find {env : Env} : ∀ {es : List Expr}, es.all flatE = true → (assignEach es env).findIdx? (·.1) = none
  | [], _ => rfl
  | p :: es, h => by
    rw [List.all_cons, Bool.and_eq_true] at h
    rw [asg1 h.1, List.findIdx?_cons, asg_find h.2]
    rfl
theorem s_subn {o i e : Ex} {j : Nat} {y : Str} {p q x : Expr} {sp np tp : Pos} {kk : Nat} (hK : X.K = T.K) (hw : X.w = w) (hc : X.calm = true) (hu : X.A.units + 65 < cLine) (he : PE X x (tE T w F e)) (ho : PE X p (tE T w F o)) (hi : PE X q (tE T w F i))
    (hN : X.N.Nodup) (hj : X.N[j]? = some y) (hx : Loc X.env.scope y) (hf : X.fn y = true ∨ X.env.scope.names.lookup y = some .local)
    (ha : ∀ v, assign (.Subscript p q sp) X.env v = (do
      let ov ← holding [v] (eval p X.env)
      let iv ← holding [v, ov] (eval q X.env)
      standAt sp
      holding [v, ov, iv] (setItem ov iv v)
      release [v, ov, iv] [])) (hs : swapsWithSole [.Tuple [.Subscript p q sp, .Name y np] kk tp] x pos.line X.env = pure false) (hsw : swappedStores [.Tuple [.Subscript p q sp, .Name y np] kk tp] x X.env = pure none) :
    PS X (.Assign [.Tuple [.Subscript p q sp, .Name y np] kk tp] x pos) (tSx T w F W (.subn o i j e)) := by
  refine PS.of (ps_asg he (pg_tup (n := 2) hc (pgs_cons (pg_sub ho hi (setIx_ok (T := T) hK hw hu) ha) (pgs_cons (pg_name hN hj hx hf) pgs_nil (by rw [asg1 rfl]; rfl)) (by rw [asg1 rfl]; rfl)) (asg_len rfl) (asg_find rfl)) hs hsw (by rfl)) fun D σ H h => ?_
  obtain ⟨Av, β, hm, σm, g, k⟩ := h
  simp only [evS] at k
  split at k
  case h_2 => exact k.elim
  rename_i v u h1 e1
  split at k
  case h_2 => exact k.elim
  rename_i x2 h2 e2
  split at k
  case h_2 => exact k.elim
  rename_i y3 h3 e3
  split at k
  case h_2 => exact k.elim
  rename_i h4 e4
  refine tE_then g e1 fun β1 H1 z1 i1 g1 r1 => ?_
  obtain ⟨a, xs, rfl, sq, q⟩ := r1.tup'
  obtain ⟨va, ua, rfl, rv, ru⟩ := q.two'
  refine ⟨a, [va, ua], rfl, hK ▸ sq, rfl, va, [ua], rfl, ?_⟩
  refine tE_then g1 e2 fun β2 H2 z2 i2 g2 r2 => tE_then g2 e3 fun β3 H3 z3 i3 g3 r3 => ?_
  refine ⟨Av, β3, h3, x2, y3, v, h4, g3.hr, r2.mono i3, r3, (rv.mono i2).mono i3, e4, fun H4 i4 hr4 => ⟨ua, [], rfl, rfl, ?_⟩⟩
  have g4 := g3.mono i4 hr4
  exact k β3 H4 _ (((i1.trans i2).trans i3).trans i4) ⟨g4.hr, g4.ss.set (((ru.mono i2).mono i3).mono i4)⟩
theorem s_fld {o e : Ex} {f n : Nat} {p x : Expr} {y : Str} {ap : Pos} (hK : X.K = T.K) (inj : Inj T) (cs : CsOk T n) (hf : f < n) (hy : T.an f = y) (he : PE X x (tE T w F e)) (ho : PE X p (tE T w F o)) (hs : swapsWith x (some (.Attribute p y ap)) pos.line X.env = pure false) :
    PS X (.Assign [.Attribute p y ap] x pos) (tSx T w F W (.fld o f e)) := by
  subst hy
  refine PS.of (ps_fld ho he hs) fun D σ H h => ?_
  obtain ⟨Av, β, hm, σm, g, k⟩ := h
  simp only [evS] at k
  split at k
  case h_2 => exact k.elim
  rename_i v h1 e1
  split at k
  case h_2 => exact k.elim
  rename_i i h2 e2
  split at k
  case h_2 => exact k.elim
  rename_i c fs ho2
  split at k
  case isFalse => exact k.elim
  rename_i hc
  simp only [Bool.and_eq_true, decide_eq_true_eq] at hc
  obtain ⟨cl, hcl⟩ := Option.isSome_iff_exists.mp hc.2
  refine tE_then g e1 fun β1 H1 z1 i1 g1 r1 => tE_then g1 e2 fun β2 H2 z2 i2 g2 r2 => ?_
  obtain ⟨a, rfl, hi⟩ := r2.loc'
  obtain ⟨dx, gs, hH, q⟩ := g2.hr.ins hi ho2
  have rv := r1.mono i2
  have ew := Ex'.write (u := .ins (T.ca c) dx (putF (T.an f) z1 gs)) (o' := .ins c (putA f v fs)) g2.hr hi ho2 (fun z => nomatch z)
  refine ⟨a, T.ca c, dx, gs, rfl, hH, hK ▸ cs.cls _ _ hcl, hK ▸ cs.noat _ _ _ hcl hf, by rw [← q.length]; omega, ?_⟩
  have q2 := (q.put (f := f) inj rv).imp (L' := lv Av β2 (h2.set i (.ins c (putA f v fs)))) (β' := β2) (H' := upd H2 a (.ins (T.ca c) dx (putF (T.an f) z1 gs))) fun _ _ z => z.mono ew
  exact k β2 _ σ ((i1.trans i2).trans ew) (g2.mono ew (g2.hr.write hi ho2 (fun z => nomatch z) (.ins q2)))
theorem s_aug {i : Nat} {y : Str} {o : Bop} {e : Ex} {x : Expr} {op : Operator} {np : Pos} (hop : (o = .add ∧ op = .Add) ∨ (o = .sub ∧ op = .Sub)) (hN : X.N.Nodup) (hi : X.N[i]? = some y) (hx : Loc X.env.scope y) (hf : X.fn y = true ∨ X.env.scope.names.lookup y = some .local)
    (he : PE X x (tE T w F e)) (rule : ∀ ti, PIp X op ti → PS X (.AugAssign (.Name y np) op x pos) (tAug i (tE T w F e) ti)) : PS X (.AugAssign (.Name y np) op x pos) (tSx T w F W (.aug i o e)) := by
  rcases hop with ⟨rfl, rfl⟩ | ⟨rfl, rfl⟩
  · refine PS.of (rule _ ip_add) fun D σ H h => ?_
    obtain ⟨Av, β, hm, σm, g, k⟩ := h
    simp only [evS] at k
    split at k
    case h_2 => exact k.elim
    rename_i u hu
    split at k
    case h_2 => exact k.elim
    rename_i v h1 e1
    obtain ⟨z, hz, rz⟩ := g.ss.2 i _ hu
    cases u with
    | int a =>
      cases v with
      | int b =>
        cases rz.int'
        have k : Ks T w Av β hm H D (.nx (σm.set i (some (.int (a + b)))) h1) := k
        refine ⟨_, hz, tE_then g e1 fun β1 H1 z1 i1 g1 r1 => ⟨a, b, rfl, r1.int', ?_⟩⟩
        exact k β1 H1 _ i1 ⟨g1.hr, g1.ss.set (.int _)⟩
      | _ => exact (show False from k).elim
    | _ => cases v <;> exact (show False from k).elim
  · refine PS.of (rule _ ip_sub) fun D σ H h => ?_
    obtain ⟨Av, β, hm, σm, g, k⟩ := h
    simp only [evS] at k
    split at k
    case h_2 => exact k.elim
    rename_i u hu
    split at k
    case h_2 => exact k.elim
    rename_i v h1 e1
    obtain ⟨z, hz, rz⟩ := g.ss.2 i _ hu
    cases u with
    | int a =>
      cases v with
      | int b =>
        cases rz.int'
        have k : Ks T w Av β hm H D (.nx (σm.set i (some (.int (a - b)))) h1) := k
        refine ⟨_, hz, tE_then g e1 fun β1 H1 z1 i1 g1 r1 => ⟨a, b, rfl, r1.int', ?_⟩⟩
        exact k β1 H1 _ i1 ⟨g1.hr, g1.ss.set (.int _)⟩
      | _ => exact (show False from k).elim
    | _ => cases v <;> exact (show False from k).elim
theorem s_ifs {c : Ex} {a b : List Sx} {p : Expr} {as bs : List Stmt} (hc : PT X p (tT T w F c)) (ha : PSs X as (tSxs T w F W a)) (hb : PSs X bs (tSxs T w F W b)) : PS X (.If p as bs pos) (tSx T w F W (.ifs c a b)) := by
  refine PS.of (ps_if hc ha hb) fun D σ H h => ?_
  obtain ⟨Av, β, hm, σm, g, k⟩ := h
  simp only [evS] at k
  split at k
  case h_2 => exact k.elim
  rename_i v h1 e1
  split at k
  · rename_i ht
    exact tT_then g e1 ht fun β1 H1 i1 g1 => ⟨Av, β1, h1, σm, g1, k.after i1⟩
  · rename_i ht
    exact tT_then g e1 ht fun β1 H1 i1 g1 => ⟨Av, β1, h1, σm, g1, k.after i1⟩
  · exact k.elim
theorem s_ret {e : Ex} {p : Expr} (he : PE X p (tE T w F e)) : PS X (.Return (some p) pos) (tSx T w F W (.ret e)) := by
  refine PS.of (ps_ret he) fun D σ H h => ?_
  obtain ⟨Av, β, hm, σm, g, k⟩ := h
  simp only [evS] at k
  split at k
  case h_2 => exact k.elim
  rename_i v h1 e1
  exact tE_then g e1 fun β1 H1 x i1 g1 r1 => k β1 H1 x i1 g1.hr r1
theorem s_retn : PS X (.Return none pos) (tSx T w F W .retn) := by
  refine PS.of ps_retN fun D σ H h => ?_
  obtain ⟨Av, β, hm, σm, g, k⟩ := h
  simp only [evS] at k
  exact k β H .non Ex'.refl g.hr .non
theorem s_brk : PS X (.Break pos) (tSx T w F W .brk) := by
  refine PS.of ps_break fun D σ H h => ?_
  obtain ⟨Av, β, hm, σm, g, k⟩ := h
  simp only [evS] at k
  exact k β H σ Ex'.refl g
theorem s_cnt : PS X (.Continue pos) (tSx T w F W .cnt) := by
  refine PS.of ps_continue fun D σ H h => ?_
  obtain ⟨Av, β, hm, σm, g, k⟩ := h
  simp only [evS] at k
  exact k β H σ Ex'.refl g
theorem s_pass : PS X (.Pass pos) (tSx T w F W .pass) := by
  refine PS.of ps_pass fun D σ H h => ?_
  obtain ⟨Av, β, hm, σm, g, k⟩ := h
  simp only [evS] at k
  exact k β H σ Ex'.refl g
theorem s_whl {c : Ex} {b : List Sx} {p : Expr} {bs : List Stmt} (hp : PassesOwn (model X.prog X.w) X.A X.env X.xe) (hc : PT X p (tT T w F c)) (hb : PSs X bs (tSxs T w F W b)) : PS X (.While p bs [] pos) (tSx T w F W (.whl c b)) := by
  refine PS.of (ps_while hp hc hb) fun D σ H h => ?_
  obtain ⟨Av, β, hm, σm, g, k⟩ := h
  simp only [evS] at k
  refine ⟨fun n σ H => ∃ β hm σm, Sg T w Av β hm H σm σ ∧ Ks T w Av β hm H D (loopW (fun σ h => evE T.G F c σ h) (fun σ h => evSs T.G F W b σ h) n σm hm), ⟨W, β, hm, σm, g, k⟩, fun n σ H inv => ?_⟩
  obtain ⟨β, hm, σm, g, k⟩ := inv
  cases n with
  | zero => exact (show False from k).elim
  | succ n =>
    simp only [loopW] at k
    split at k
    case h_2 => exact k.elim
    rename_i v h1 e1
    split at k
    · rename_i ht
      refine tT_then g e1 ht fun β1 H1 i1 g1 => ?_
      rw [if_pos rfl]
      refine ⟨fun σ H => ∃ β hm σm, Sg T w Av β hm H σm σ ∧ Ks T w Av β hm H D (loopW (fun σ h => evE T.G F c σ h) (fun σ h => evSs T.G F W b σ h) n σm hm), fun σ' H' z => ⟨n, Nat.lt_succ_self n, z⟩, Av, β1, h1, σm, g1, ?_⟩
      have k1 := k.after i1
      cases hr : evSs T.G F W b σm h1 with
      | nx σ2 h2 => rw [hr] at k1; exact fun β' H' σ' e g' => ⟨β', h2, σ2, g', k1.after e⟩
      | ct σ2 h2 => rw [hr] at k1; exact fun β' H' σ' e g' => ⟨β', h2, σ2, g', k1.after e⟩
      | bk σ2 h2 => rw [hr] at k1; exact k1
      | rt v h2 => rw [hr] at k1; exact k1
      | bad => rw [hr] at k1; exact k1
    · rename_i ht
      refine tT_then g e1 ht fun β1 H1 i1 g1 => ?_
      rw [if_neg (by decide)]
      exact k β1 H1 σ i1 g1
    · exact k.elim
theorem s_for {t : Tg} {it : Ex} {b : List Sx} {tg p : Expr} {bs : List Stmt} (hp : PassesOwn (model X.prog X.w) X.A X.env X.xe) (hc : X.calm = true) (hi : PI X tg p (tIi T w F it)) (hg : PG X tg (tGt T w t)) (hb : PSs X bs (tSxs T w F W b)) (hs : ∀ x, foldedSetIterable p X.env x = pure x) :
    PS X (.For tg p bs [] pos) (tSx T w F W (.for_ t it b)) := by
  refine PS.of (ps_for hp hc hi hg hb hs) fun D σ H h => ?_
  obtain ⟨Av, β, hm, σm, g, k⟩ := h
  simp only [evS] at k
  split at k
  case h_2 => exact k.elim
  rename_i l h1 e1
  refine ⟨Av, β, hm, σm, l, h1, g, e1, fun J β1 H1 i1 hr1 jw => ?_⟩
  refine ⟨fun i n σ H => n = l.length - i ∧ i ≤ l.length ∧ ∃ β hm σm, Ex' β1 h1 H1 β hm H ∧ Sg T w Av β hm H σm σ ∧ Ks T w Av β hm H D (loopF t (fun σ h => evSs T.G F W b σ h) (l.drop i) σm hm), ⟨_, rfl, Nat.zero_le _, β1, h1, σm, Ex'.refl, g.mono i1 hr1, k.after i1⟩, fun i n σ H inv => ?_⟩
  obtain ⟨rfl, le, β3, h3, σm3, i3, g3, k3⟩ := inv
  obtain ⟨jstop, jgo⟩ := jw Av β3 h3 H More.refl i3 g3.hr
  by_cases lt : i < l.length
  · refine .inr ⟨(jgo i lt).1, fun σ H => ∃ β hm σm, Ex' β1 h1 H1 β hm H ∧ Sg T w Av β hm H σm σ ∧ Ks T w Av β hm H D (loopF t (fun σ h => evSs T.G F W b σ h) (l.drop (i + 1)) σm hm), fun σ' H' z => ⟨l.length - (i + 1), by omega, rfl, lt, z⟩, fun x H' y => ?_⟩
    obtain ⟨i4, hr4, m, hm1, rm⟩ := (jgo i lt).2 x H' y
    have dr : l.drop i = m :: l.drop (i + 1) := by
      obtain ⟨_, e⟩ := List.getElem?_eq_some_iff.mp hm1
      rw [List.drop_eq_getElem_cons lt, e]
    rw [dr] at k3
    simp only [loopF] at k3
    split at k3
    · rename_i σ2 e2
      refine ⟨Av, β3, h3, σm3, σ2, m, g3.mono i4 hr4, rm, e2, fun σ' g' _ => ⟨Av, β3, h3, σ2, g', ?_⟩⟩
      have k4 := k3.after i4
      cases hr : evSs T.G F W b σ2 h3 with
      | nx σ5 h5 => rw [hr] at k4; exact fun β' H'' σ'' e g'' => ⟨β', h5, σ5, i3.trans (i4.trans e), g'', k4.after e⟩
      | ct σ5 h5 => rw [hr] at k4; exact fun β' H'' σ'' e g'' => ⟨β', h5, σ5, i3.trans (i4.trans e), g'', k4.after e⟩
      | bk σ5 h5 => rw [hr] at k4; exact k4
      | rt v h5 => rw [hr] at k4; exact k4
      | bad => rw [hr] at k4; exact k4
    · exact k3.elim
  · have ei : i = l.length := by omega
    subst ei
    rw [List.drop_length] at k3
    exact .inl ⟨jstop, Ks.nx k3 g3⟩
end
end Mi

namespace Mi
open PySem PySem.Spec PyProof.Rows L2

/-! ### names -/
def okN (y : Str) : Bool := !(y == ("__debug__" : Str)) && (!(y == ("__classdict__" : Str)) && !(y == ("" : Str)))
def visB (ws : Scope) (y : Str) : Bool := match ws.names.lookup y with
  | some .local => true | some .cell => true | some .free => true
  | _ => false
def locB (ws : Scope) (y : Str) : Bool := match ws.names.lookup y with
  | some .local => true | some .cell => true
  | _ => false
def glB (ws : Scope) (y : Str) : Bool := match ws.names.lookup y with
  | some .globalImplicit => true
  | _ => false
def varB (N : List Str) (ws : Scope) (i : Nat) (y : Str) : Bool := decide (N[i]? = some y) && (visB ws y && okN y)
def tgtB (N : List Str) (ws : Scope) (i : Nat) (y : Str) : Bool := decide (N[i]? = some y) && locB ws y
def glbB (l : List Str) (ws : Scope) (j : Nat) (y : Str) : Bool := decide (l[j]? = some y) && (glB ws y && okN y)
def tstB : Expr → Bool
  | .IfExp .. => false
  | _ => true
def plainB : Expr → Bool
  | .Slice .. => false
  | _ => true
def noSet : Expr → Bool
  | .Set .. => false
  | _ => true
def noComp : Expr → Bool
  | .ListComp .. => false | .SetComp .. => false | .DictComp .. => false
  | _ => true
def nmB : Expr → Bool
  | .Name .. => true
  | _ => false
def callB (es : List Expr) : Bool := !es.isEmpty && (es.all flatE && decide (es.length < 20))
def ownOf (N : List Str) (own : List Nat) : List (Str × Nat) := own.map fun i => ((N[i]?).getD "", i)

/-! ### targets -/
mutual
def mG (N : List Str) (ws : Scope) (t : Tg) (x : Expr) : Bool := match t with
  | .nm i => match x with
    | .Name y _ => tgtB N ws i y
    | _ => false
  | .tup l => match x with
    | .Tuple es _ _ => es.all flatE && mGs N ws l es
    | _ => false
def mGs (N : List Str) (ws : Scope) (l : List Tg) (es : List Expr) : Bool := match l with
  | [] => match es with
    | [] => true
    | _ => false
  | t :: l => match es with
    | [] => false
    | x :: es => mG N ws t x && mGs N ws l es
end

section
variable (S : Sig) (N : List Str)
mutual
def mE (ws : Scope) (e : Ex) (x : Expr) : Bool := match e with
  | .var i => match x with
    | .Name y _ => varB N ws i y
    | _ => false
  | .non => match x with
    | .Constant .none _ _ => true
    | _ => false
  | .bl b => match x with
    | .Constant (.bool c) _ _ => decide (b = c)
    | _ => false
  | .int i => match x with
    | .Constant (.int j) _ _ => decide (i = j)
    | _ => false
  | .str s => match x with
    | .Constant (.str z) _ _ => decide (s = z)
    | _ => false
  | .glb j => match x with
    | .Name y _ => glbB S.gn ws j y
    | _ => false
  | .bin o a b => match x with
    | .BinOp p op q _ => decide (op = opOf o) && (mE ws a p && mE ws b q)
    | _ => false
  | .neg a => match x with
    | .UnaryOp .USub p _ => mE ws a p
    | _ => false
  | .cmp o a b => match x with
    | .Compare p [op] [q] _ => decide (op = coOf o) && (!behindInMarks op q && (mE ws a p && mE ws b q))
    | _ => false
  | .isN a => match x with
    | .Compare p [.Is] [.Constant .none _ _] _ => mE ws a p
    | _ => false
  | .notN a => match x with
    | .Compare p [.IsNot] [.Constant .none _ _] _ => mE ws a p
    | _ => false
  | .chn o o' a b c => match x with
    | .Compare p [op, op'] [q, r] _ => decide (op = coOf o) && (decide (op' = coOf o') && (!lastMarks [op, op'] [q, r] && (mE ws a p && (mE ws b q && mE ws c r))))
    | _ => false
  | .and a b => match x with
    | .BoolOp .And (p :: q :: rest) pos => tstB p && (mE ws a p && (match rest with
      | [] => tstB q && mE ws b q
      | _ :: _ => mE ws b (.BoolOp .And (q :: rest) pos)))
    | _ => false
  | .or a b => match x with
    | .BoolOp .Or (p :: q :: rest) pos => tstB p && (mE ws a p && (match rest with
      | [] => tstB q && mE ws b q
      | _ :: _ => mE ws b (.BoolOp .Or (q :: rest) pos)))
    | _ => false
  | .not a => match x with
    | .UnaryOp .Not p _ => tstB p && mE ws a p
    | _ => false
  | .ife c a b => match x with
    | .IfExp r p q _ => tstB r && (mE ws c r && (mE ws a p && mE ws b q))
    | _ => false
  | .tup l => match x with
    | .Tuple es _ _ => decide (l.length ≤ 100000) && (es.all flatE && mL ws l es)
    | _ => false
  | .lst _ l => match x with
    | .List es _ => decide (l.length ≤ 100000) && (es.all flatE && mL ws l es)
    | _ => false
  | .idx a b => match x with
    | .Subscript p q _ => plainB q && (mE ws a p && mE ws b q)
    | _ => false
  | .slc a lo hi => match x with
    | .Subscript p (.Slice lo' hi' none _) _ => mE ws a p && (mO ws lo lo' && mO ws hi hi')
    | _ => false
  | .rev a => match x with
    | .Subscript p (.Slice none none (some (.UnaryOp .USub (.Constant (.int 1) _ _) _)) _) _ => mE ws a p
    | _ => false
  | .call j l => match x with
    | .Call (.Name y _) es [] _ => glbB S.dn ws j y && (callB es && mL ws l es)
    | _ => false
  | .callK j ks l => match x with
    | .Call (.Name y _) es kws _ => glbB S.dn ws j y && (es.all flatE && (decide (kws.map (·.arg) = (kws.filterMap (·.arg)).map some) && (decide ((j, es.length, kws.filterMap (·.arg), ks) ∈ S.kws) && mLK ws l es kws)))
    | _ => false
  | .callV i l => match x with
    | .Call (.Name y _) es [] _ => varB N ws i y && (callB es && mL ws l es)
    | _ => false
  | .blt b l => match x with
    | .Call (.Name y _) es [] _ => decide (y = bname b) && (glB ws y && (callB es && mL ws l es))
    | _ => false
  | .isi a t => match x with
    | .Call (.Name y _) [p, .Name tn _] [] _ => decide (y = ("isinstance" : Str)) && (glB ws y && (decide (tn = Str.ofString (tname t)) && (glB ws tn && (flatE p && mE ws a p))))
    | _ => false
  | .mth m o l => match x with
    | .Call (.Attribute p y apos) es [] cpos => decide (y = mname m) && ((apos.endLine == cpos.line) && (baseE p && (mE ws o p && (match m with
      | .pop => match l with
        | [] => es.isEmpty
        | _ => false
      | .join => (match es with
        | [q] => flatE q && mL ws l [q]
        | _ => false)
      | _ => callB es && mL ws l es))))
    | _ => false
  | .fld o f => match x with
    | .Attribute p y _ => decide (S.an[f]? = some y) && (baseE p && mE ws o p)
    | _ => false
  | .new c l => match x with
    | .Call (.Name y _) es [] _ => glbB S.cn ws c y && (callB es && mL ws l es)
    | _ => false
  | .comp _ tg it ifs elt own => match x with
    | .ListComp el [⟨tg', it', ifs', a⟩] scope _ => decide (a = 0) && (blkC N ws scope (ownOf N own) && ((tgN tg).all (fun i => decide (i ∈ own)) && (mG N scope tg tg' && (noSet it' && ((match specB it with | true => mI ws it tg' it' | false => mE ws it it') && (mF scope ifs ifs' && mE scope elt el))))))
    | _ => false
  | .dic0 => match x with
    | .Dict [] [] _ => true
    | _ => false
  | .dic1 k v => match x with
    | .Dict [some p] [q] _ => mE ws k p && mE ws v q
    | _ => false
  | .frz a => nmB x && mE ws a x
  | .lstM a => match x with
    | .Call (.Name y _) [p] [] _ => decide (y = ("list" : Str)) && (glB ws y && (flatE p && mE ws a p))
    | _ => false
  | .prp o f => match x with
    | .Attribute p y _ => decide (S.pn[f]? = some y) && (baseE p && mE ws o p)
    | _ => false
  | .isc a c => match x with
    | .Call (.Name y _) [p, .Name z _] [] _ => decide (y = ("isinstance" : Str)) && (glB ws y && (glbB S.cn ws c z && (flatE p && mE ws a p)))
    | _ => false
  | .fmt a => match x with
    | .FormattedValue p cv none _ => decide (cv = -1) && mE ws a p
    | _ => false
  | .fstr l => match x with
    | .JoinedStr es _ => (match es with
      | [] => false
      | _ :: _ => mL ws l es)
    | _ => false
  | .isB a b => match x with
    | .Compare p [.Is] [.Constant (.bool c) _ _] _ => decide (b = c) && mE ws a p
    | _ => false
  | .niB a b => match x with
    | .Compare p [.IsNot] [.Constant (.bool c) _ _] _ => decide (b = c) && mE ws a p
    | _ => false
  | .rng1 _ => false
  | .rng2 _ _ => false
  | .rngd _ _ => false
  | .enm _ => false
  | .zip _ _ => false
def mL (ws : Scope) (l : List Ex) (es : List Expr) : Bool := match l with
  | [] => match es with
    | [] => true
    | _ => false
  | a :: l => match es with
    | [] => false
    | p :: es => mE ws a p && mL ws l es
def mLK (ws : Scope) (l : List Ex) (es : List Expr) (kws : List Keyword) : Bool := match l with
  | [] => match es, kws with
    | [], [] => true
    | _, _ => false
  | a :: l => match es with
    | p :: es => mE ws a p && mLK ws l es kws
    | [] => match kws with
      | ⟨_, p, _⟩ :: kws => mE ws a p && mLK ws l [] kws
      | [] => false
def mO (ws : Scope) (e : Option Ex) (x : Option Expr) : Bool := match e with
  | none => match x with
    | none => true
    | some _ => false
  | some e => match x with
    | none => false
    | some x => mE ws e x
/-- what is walked -/
def mI (ws : Scope) (e : Ex) (tg x : Expr) : Bool := match e with
  | .rng1 a => match x with
    | .Call (.Name y _) [p] [] _ => decide (y = ("range" : Str)) && (glB ws y && (flatE p && mE ws a p))
    | _ => false
  | .rng2 a b => match x with
    | .Call (.Name y _) [p, q] [] _ => decide (y = ("range" : Str)) && (glB ws y && (flatE p && (flatE q && (mE ws a p && mE ws b q))))
    | _ => false
  | .zip a b => match x with
    | .Call (.Name y _) [p, q] [] _ => decide (y = ("zip" : Str)) && (glB ws y && (flatE p && (flatE q && (mE ws a p && (mE ws b q && (match tg with
      | .Tuple _ _ _ => true
      | _ => false))))))
    | _ => false
  | .enm a => match x with
    | .Call (.Name y _) [p] [] _ => decide (y = ("enumerate" : Str)) && (glB ws y && (flatE p && (mE ws a p && (match tg with
      | .Tuple _ _ _ => true
      | _ => false))))
    | _ => false
  | _ => false
def mF (ws : Scope) (l : List Ex) (es : List Expr) : Bool := match l with
  | [] => match es with
    | [] => true
    | _ => false
  | a :: l => match l, es with
    | [], [p] => tstB p && mE ws a p
    | _, _ => false
end
end
end Mi

namespace Mi
open PySem PySem.Spec PyProof.Rows L2

/-- what the module holds -/
structure StOk (T : Tb) (w : World) (S : Sig) : Prop where
  kd : KdOk T w
  inj : Inj T
  cs : CsOk T S.an.length
  anm : ∀ (f : Nat) (y : Str), S.an[f]? = some y → T.an f = y
  glo : ∀ (j : Nat) (m : MV) (y : Str), T.G.glo[j]? = some m → S.gn[j]? = some y → ∃ v u, T.mg y = some u ∧ RelV v u ∧ ∀ L β H, RV T L β H m v
  free : ∀ y ∈ bltNames, T.mg y = none
  dnm : ∀ (j : Nat) (y : Str), S.dn[j]? = some y → (y == ("" : Str)) = false → T.mg y = some (.ref (T.fa j))
  cnm : ∀ (c : Nat) (y : Str), S.cn[c]? = some y → T.mg y = some (.ref (T.ca c))
  isc : ∀ c cl, T.G.cls[c]? = some cl → C8.InsC T.K (T.ca c)
  prp : ∀ (f : Nat) (y : Str), S.pn[f]? = some y → ∀ c j, prF T.G c f = some j → Cls T.K (T.ca c) ∧ ∃ q, PropOf T.K (T.ca c) y q (T.fa j)
/-- the defs that may be called -/
structure CaOk (P : Program) (w : World) (T : Tb) (base : Heap) (k : Nat) (F : Fn) (S : Sig) : Prop where
  def_ : ∀ j d, T.G.defs[j]? = some d → DfOk P w T base k F S.kws j d
  len : ∀ j d, T.G.defs[j]? = some d → ∀ l hm v hm', F j l hm = .ok v hm' → l.length = d.np
  mkc : ∀ c cl, T.G.cls[c]? = some cl → MkOk P w T base k F c cl
/-- a body (or a block) under way -/
structure CO (T : Tb) (w : World) (F : Fn) (k : Nat) (S : Sig) (N : List Str) (X : Cx) (ws : Scope) : Prop where
  hK : X.K = T.K
  hmg : X.mg = T.mg
  hw : X.w = w
  hN : X.N = N
  nd : N.Nodup
  calm : X.calm = true
  roo : Roo (k + 1) X.A
  kind : X.env.scope.kind = .function
  loc : ∀ y, ws.names.lookup y = some .local → X.env.scope.names.lookup y = some .local
  cel : ∀ y, ws.names.lookup y = some .cell → X.env.scope.names.lookup y = some .cell ∧ X.fn y = true
  fre : ∀ y, ws.names.lookup y = some .free → X.env.scope.names.lookup y = some .free ∨ X.env.scope.names.lookup y = some .cell
  gl : ∀ y, ws.names.lookup y = some .globalImplicit → X.env.scope.names.lookup y = some .globalImplicit
  st : StOk T w S
  ca : CaOk X.prog w T X.base k F S
section
variable {T : Tb} {w : World} {F : Fn} {k : Nat} {S : Sig} {N : List Str} {X : Cx} {ws : Scope}
theorem CO.u66 (c : CO T w F k S N X ws) : X.A.units + 66 < cLine := by have := c.roo.room.un; omega
theorem CO.u65 (c : CO T w F k S N X ws) : X.A.units + 65 < cLine := by have := c.roo.room.un; omega
theorem CO.u64 (c : CO T w F k S N X ws) : X.A.units + 64 < cLine := by have := c.roo.room.un; omega
theorem okN_d {y : Str} (h : okN y = true) : (y == ("__debug__" : Str)) = false ∧ (y == ("__classdict__" : Str)) = false ∧ (y == ("" : Str)) = false := by
  unfold okN at h
  rw [Bool.and_eq_true, Bool.and_eq_true, Bool.not_eq_true', Bool.not_eq_true', Bool.not_eq_true'] at h
  exact h
theorem CO.vis (c : CO T w F k S N X ws) {y : Str} (h : visB ws y = true) : Vis X.env.scope y := by
  unfold visB at h
  split at h
  · exact .inl (c.loc y (by assumption))
  · exact .inr (.inl (c.cel y (by assumption)).1)
  · rcases c.fre y (by assumption) with e | e
    · exact .inr (.inr e)
    · exact .inr (.inl e)
  · cases h
theorem CO.glo (c : CO T w F k S N X ws) {y : Str} (h : glB ws y = true) : Gl X y := by
  unfold glB at h
  split at h
  · exact c.gl y (by assumption)
  · cases h
theorem CO.var (c : CO T w F k S N X ws) {i : Nat} {y : Str} (h : varB N ws i y = true) : X.N[i]? = some y ∧ Vis X.env.scope y ∧ (y == ("__debug__" : Str)) = false ∧ (y == ("__classdict__" : Str)) = false := by
  unfold varB at h
  simp only [Bool.and_eq_true, decide_eq_true_eq] at h
  obtain ⟨a, b, _⟩ := okN_d h.2.2
  exact ⟨by rw [c.hN]; exact h.1, c.vis h.2.1, a, b⟩
theorem CO.tgt (c : CO T w F k S N X ws) {i : Nat} {y : Str} (h : tgtB N ws i y = true) : X.N[i]? = some y ∧ Loc X.env.scope y ∧ (X.fn y = true ∨ X.env.scope.names.lookup y = some .local) := by
  unfold tgtB at h
  simp only [Bool.and_eq_true, decide_eq_true_eq] at h
  refine ⟨by rw [c.hN]; exact h.1, ?_⟩
  have h2 := h.2
  unfold locB at h2
  split at h2
  · have e := c.loc y (by assumption)
    exact ⟨.inl e, .inr e⟩
  · have e := c.cel y (by assumption)
    exact ⟨.inr e.1, .inl e.2⟩
  · cases h2
theorem CO.glb (c : CO T w F k S N X ws) {l : List Str} {j : Nat} {y : Str} (h : glbB l ws j y = true) : l[j]? = some y ∧ Gl X y ∧ (y == ("__debug__" : Str)) = false ∧ (y == ("" : Str)) = false := by
  unfold glbB at h
  simp only [Bool.and_eq_true, decide_eq_true_eq] at h
  obtain ⟨a, _, b⟩ := okN_d h.2.2
  exact ⟨h.1, c.glo h.2.1, a, b⟩
theorem CO.free (c : CO T w F k S N X ws) {y : Str} (h : y ∈ bltNames) : X.mg y = none := by rw [c.hmg]; exact c.st.free y h
theorem call_cons {es : List Expr} (h : callB es = true) : ∃ q r, es = q :: r ∧ (q :: r).all flatE = true ∧ (q :: r).length < 20 := by
  unfold callB at h
  simp only [Bool.and_eq_true, decide_eq_true_eq] at h
  cases es with
  | nil => cases h.1
  | cons q r => exact ⟨q, r, rfl, h.2.1, h.2.2⟩
theorem relS_fre {sc : Scope} {names : List (Str × NameKind)} {y : Str} (h : names.lookup y = some .free) :
    (names.map fun (n, k) => if (k == NameKind.free && sc.kind == .function && sc.names.lookup n == some .cell) then (n, NameKind.cell) else (n, k)).lookup y = some .free ∨
    (names.map fun (n, k) => if (k == NameKind.free && sc.kind == .function && sc.names.lookup n == some .cell) then (n, NameKind.cell) else (n, k)).lookup y = some .cell := by
  induction names with
  | nil => cases h
  | cons p r ih =>
    obtain ⟨n, k0⟩ := p
    rw [List.lookup_cons] at h
    cases hx : y == n with
    | true =>
      rw [hx] at h
      cases h
      by_cases hc : (NameKind.free == NameKind.free && sc.kind == .function && sc.names.lookup n == some .cell) = true
      · refine .inr ?_
        rw [List.map_cons]; dsimp only; rw [if_pos hc, List.lookup_cons, hx]
      · refine .inl ?_
        rw [List.map_cons]; dsimp only; rw [if_neg hc, List.lookup_cons, hx]
    | false =>
      rw [hx] at h
      by_cases hc : (k0 == NameKind.free && sc.kind == .function && sc.names.lookup n == some .cell) = true
      · rw [List.map_cons]; dsimp only; rw [if_pos hc, List.lookup_cons, hx]; exact ih h
      · rw [List.map_cons]; dsimp only; rw [if_neg hc, List.lookup_cons, hx]; exact ih h
/-- within a comprehension's block -/
theorem CO.blk (c : CO T w F k S N X ws) {scope : Scope} (hk : scope.kind = .function) (s : Shared) (H : Hp) (C : Addr) (cl : List (Str × Addr)) (fp : List Addr) : CO T w F k S N (X.blk s H scope (compEnvC scope cl C X.env) fp) scope := by
  refine ⟨c.hK, c.hmg, c.hw, c.hN, c.nd, c.calm, c.roo, hk, fun y h => ?_, fun y h => ⟨?_, ?_⟩, fun y h => ?_, fun y h => ?_, c.st, c.ca⟩
  · exact lookup_relS_keep (sc := X.env.scope) (by decide) h
  · exact lookup_relS_keep (sc := X.env.scope) (by decide) h
  · show (scope.names.lookup y == some .cell) = true
    rw [h]; rfl
  · exact relS_fre h
  · exact lookup_relS_keep (sc := X.env.scope) (by decide) h
theorem CO.blkOk (c : CO T w F k S N X ws) {scope : Scope} {own : List (Str × Nat)} (h : blkC N ws scope own = true) : BlkOk X.N X.env.scope scope own := by
  have b := blkOk_by h
  refine ⟨b.kind, b.uniq, by rw [c.hN]; exact b.ix, fun y hy e => ?_, by rw [c.hN]; exact b.own⟩
  rcases b.free y hy e with z | z
  · exact .inl (c.cel _ z).1
  · exact (c.fre _ z).symm
/-! ### targets -/
mutual
theorem mG_ok (c : CO T w F k S N X ws) : ∀ {t : Tg} {x : Expr}, mG N ws t x = true → PG X x (tGt T w t)
  | .nm i, x, h => by
    simp only [mG] at h
    split at h
    · obtain ⟨h1, h2, h3⟩ := c.tgt h
      exact g_nm (by rw [c.hN]; exact c.nd) h1 h2 h3
    · cases h
  | .tup l, x, h => by
    simp only [mG] at h
    split at h
    · rename_i es kk pos
      rw [Bool.and_eq_true] at h
      have gs := mGs_ok c h.2 h.1
      exact g_tup c.hK c.calm gs.1 (by rw [asg_len h.1, gs.2]) (asg_find h.1)
    · cases h
theorem mGs_ok (c : CO T w F k S N X ws) : ∀ {l : List Tg} {es : List Expr}, mGs N ws l es = true → es.all flatE = true → PGs X es (tGs T w l) ∧ es.length = l.length
  | [], es, h, _ => by
    simp only [mGs] at h
    split at h
    · exact ⟨gs_nil, rfl⟩
    · cases h
  | t :: l, es, h, hf => by
    simp only [mGs] at h
    split at h
    · cases h
    · rename_i x es
      rw [Bool.and_eq_true] at h
      rw [List.all_cons, Bool.and_eq_true] at hf
      have gs := mGs_ok c h.2 hf.2
      exact ⟨gs_cons (mG_ok c h.1) gs.1 (asg1 hf.1 _ _), by rw [List.length_cons, gs.2, List.length_cons]⟩
end
/-! ### expressions -/
structure Good (T : Tb) (w : World) (F : Fn) (X : Cx) (e : Ex) (x : Expr) : Prop where
  pe : PE X x (tE T w F e)
  pt : tstB x = true → PT X x (tT T w F e)
  pw : ∀ op l pos, x = .BoolOp op l pos → PW X x (tT T w F e)
theorem Good.val {e : Ex} {x : Expr} (c : CO T w F k S N X ws) (h : PE X x (tE T w F e)) (ht : ∀ whole, isTrue x X.env whole = (do let v ← whole; standAt x.pos; holding [v] (truthy v))) (hb : ∀ op l pos, x ≠ .BoolOp op l pos) : Good T w F X e x :=
  ⟨h, fun _ => t_val c.hK h ht, fun op l pos z => absurd z (hb op l pos)⟩
theorem bname_mem (b : Blt) : bname b ∈ bltNames := by cases b <;> decide +kernel
theorem tname_mem (t : Ty) : Str.ofString (tname t) ∈ bltNames := by cases t <;> decide +kernel
theorem evI_gen {G : Gm} {e : Ex} (hs : specB e = false) {σm : MS} {hm h1 : MH} {l : List MV} (ev : evI G F e σm hm = .ok l h1) : ∃ v, evE G F e σm hm = .ok v h1 ∧ (v = .tup l ∨ v = .lst l) := by
  unfold evI at ev
  rw [hs] at ev
  dsimp only at ev
  unfold seqOf at ev
  split at ev
  · obtain ⟨rfl, rfl⟩ := out_inj ev
    exact ⟨_, by assumption, .inl rfl⟩
  · obtain ⟨rfl, rfl⟩ := out_inj ev
    exact ⟨_, by assumption, .inr rfl⟩
  · cases ev
end
end Mi

namespace Mi
open PySem PySem.Spec PyProof.Rows L2

section
variable {T : Tb} {w : World} {F : Fn} {k : Nat} {S : Sig} {N : List Str}
theorem an_lt {S : Sig} {f : Nat} {y : Str} (h : S.an[f]? = some y) : f < S.an.length := (List.getElem?_eq_some_iff.mp h).1
/-- the parts of a comprehension -/
structure CompOk (T : Tb) (w : World) (F : Fn) (X : Cx) (N : List Str) (tg : Tg) (it elt : Ex) (ifs : List Ex) (own : List Nat) (tg' it' : Expr) (ifs' : List Expr) (el : Expr) (scope : Scope) : Prop where
  ok : BlkOk X.N X.env.scope scope (ownOf N own)
  own : ∀ i ∈ tgN tg, i ∈ own
  hi : PI X tg' it' (tIi T w F it)
  hg : ∀ (s : Shared) (H : Hp) (C : Addr) (cl : List (Str × Addr)) (fp : List Addr), PG (X.blk s H scope (compEnvC scope cl C X.env) fp) tg' (tGt T w tg)
  ht : ∀ (s : Shared) (H : Hp) (C : Addr) (cl : List (Str × Addr)) (fp : List Addr), PTs (X.blk s H scope (compEnvC scope cl C X.env) fp) ifs' (tTs T w F ifs)
  he : ∀ (s : Shared) (H : Hp) (C : Addr) (cl : List (Str × Addr)) (fp : List Addr), PE (X.blk s H scope (compEnvC scope cl C X.env) fp) el (tE T w F elt)
  hs : ∀ x, foldedSetIterable it' X.env x = pure x
theorem ownOf_map {own : List Nat} : (ownOf N own).map (·.2) = own := by
  unfold ownOf
  rw [List.map_map]
  exact List.map_id _
theorem noSet_ok {x : Expr} (h : noSet x = true) (env : Env) : ∀ v, foldedSetIterable x env v = pure v := by
  intro v
  cases x <;> first | (cases h; done) | rfl
theorem CompOk.pe {X : Cx} {m : Bool} {tg : Tg} {it elt : Ex} {ifs : List Ex} {own : List Nat} {tg' it' el : Expr} {ifs' : List Expr} {scope : Scope} {pos : Pos} (hc : X.calm = true) (hN : X.N.Nodup) (c : CompOk T w F X N tg it elt ifs own tg' it' ifs' el scope) :
    PE X (.ListComp el [⟨tg', it', ifs', 0⟩] scope pos) (tE T w F (.comp m tg it ifs elt own)) := by
  have main := pe_lc (pos := pos) hc hN c.hi c.ok c.hg c.ht c.he c.hs
  rw [ownOf_map] at main
  exact PE.of main fun σ H Q h => comp_red c.own h
mutual
theorem mE_ok : ∀ {e : Ex} {x : Expr} {X : Cx} {ws : Scope}, CO T w F k S N X ws → mE S N ws e x = true → Good T w F X e x
  | .var i, x, X, ws, c, h => by
    simp only [mE] at h
    split at h
    · obtain ⟨h1, h2, h3, h4⟩ := c.var h
      exact .val c (e_var h1 h2 h3 h4) (fun _ => rfl) (fun _ _ _ z => nomatch z)
    · cases h
  | .non, x, X, ws, c, h => by
    simp only [mE] at h
    split at h
    · exact .val c (e_const (m := .non) pe_non (fun _ _ => by simp only [evE]) fun _ _ _ => .non) (fun _ => rfl) (fun _ _ _ z => nomatch z)
    · cases h
  | .bl b, x, X, ws, c, h => by
    simp only [mE] at h
    split at h
    · rename_i b' _ _
      have h := of_decide_eq_true h
      subst h
      exact .val c (e_const (m := .bl b) pe_bl (fun _ _ => by simp only [evE]) fun _ _ _ => .bl b) (fun _ => rfl) (fun _ _ _ z => nomatch z)
    · cases h
  | .int b, x, X, ws, c, h => by
    simp only [mE] at h
    split at h
    · rename_i b' _ _
      have h := of_decide_eq_true h
      subst h
      exact .val c (e_const (m := .int b) pe_int (fun _ _ => by simp only [evE]) fun _ _ _ => .int b) (fun _ => rfl) (fun _ _ _ z => nomatch z)
    · cases h
  | .str b, x, X, ws, c, h => by
    simp only [mE] at h
    split at h
    · rename_i b' _ _
      have h := of_decide_eq_true h
      subst h
      exact .val c (e_const (m := .str b) pe_str (fun _ _ => by simp only [evE]) fun _ _ _ => .str b) (fun _ => rfl) (fun _ _ _ z => nomatch z)
    · cases h
  | .glb j, x, X, ws, c, h => by
    simp only [mE] at h
    split at h
    · rename_i y pos
      obtain ⟨h1, h2, h3, _⟩ := c.glb h
      refine .val c ?_ (fun _ => rfl) (fun _ _ _ z => nomatch z)
      refine ⟨fun pins s σ H Q I q => ?_⟩
      obtain ⟨Av, β, hm, σm, v, hm', g, ev, kk⟩ := q
      simp only [evE] at ev
      split at ev
      · rename_i m hj
        obtain ⟨rfl, rfl⟩ := out_inj ev
        obtain ⟨z, u, e1, e2, e3⟩ := c.st.glo j m y hj h1
        exact (pe_glob (pos := pos) h2 (by rw [c.hmg]; exact e1) e2 h3).run pins s σ H Q I (kk.same g.hr (e3 _ _ _))
      · cases ev
    · cases h
  | .bin o a b, x, X, ws, c, h => by
    simp only [mE] at h
    split at h
    · simp only [Bool.and_eq_true, decide_eq_true_eq] at h
      obtain ⟨rfl, ha, hb⟩ := h
      exact .val c (e_bin c.hK (mE_ok c ha).pe (mE_ok c hb).pe) (fun _ => rfl) (fun _ _ _ z => nomatch z)
    · cases h
  | .neg a, x, X, ws, c, h => by
    simp only [mE] at h
    split at h
    · exact .val c (e_neg (mE_ok c h).pe) (fun _ => rfl) (fun _ _ _ z => nomatch z)
    · cases h
  | .cmp o a b, x, X, ws, c, h => by
    simp only [mE] at h
    split at h
    · simp only [Bool.and_eq_true, decide_eq_true_eq, Bool.not_eq_true'] at h
      obtain ⟨rfl, hm, ha, hb⟩ := h
      exact ⟨e_cmp c.hK c.hw c.st.kd c.u65 (mE_ok c ha).pe (mE_ok c hb).pe hm, fun _ => t_cmp c.hK c.hw c.st.kd c.u65 (mE_ok c ha).pe (mE_ok c hb).pe hm, fun _ _ _ z => nomatch z⟩
    · cases h
  | .isN a, x, X, ws, c, h => by
    simp only [mE] at h
    split at h
    · exact ⟨e_isN (mE_ok c h).pe, fun _ => t_isN (mE_ok c h).pe, fun _ _ _ z => nomatch z⟩
    · cases h
  | .notN a, x, X, ws, c, h => by
    simp only [mE] at h
    split at h
    · exact ⟨e_notN (mE_ok c h).pe, fun _ => t_notN (mE_ok c h).pe, fun _ _ _ z => nomatch z⟩
    · cases h
  | .chn o o' a b d, x, X, ws, c, h => by
    simp only [mE] at h
    split at h
    · simp only [Bool.and_eq_true, decide_eq_true_eq, Bool.not_eq_true'] at h
      obtain ⟨rfl, rfl, hm, ha, hb, hd⟩ := h
      exact ⟨e_chn c.hK c.u64 (mE_ok c ha).pe (mE_ok c hb).pe (mE_ok c hd).pe hm, fun _ => t_chn c.hK c.u64 (mE_ok c ha).pe (mE_ok c hb).pe (mE_ok c hd).pe hm, fun _ _ _ z => nomatch z⟩
    · cases h
  | .and a b, x, X, ws, c, h => by
    simp only [mE] at h
    split at h
    · rename_i p q rest pos
      simp only [Bool.and_eq_true] at h
      obtain ⟨h1, ha, h2⟩ := h
      have A := mE_ok c ha
      have B : PE X (.BoolOp .And (q :: rest) pos) (tE T w F b) ∧ PW X (.BoolOp .And (q :: rest) pos) (tT T w F b) := by
        cases rest with
        | nil =>
          simp only [Bool.and_eq_true] at h2
          have B := mE_ok c h2.2
          exact ⟨pe_one B.pe, pw_and1 (B.pt h2.1)⟩
        | cons r rest =>
          have B := mE_ok c h2
          exact ⟨B.pe, B.pw _ _ _ rfl⟩
      have W := w_and (A.pt h1) B.2
      exact ⟨e_and c.hK A.pe B.1, fun _ => W.pt, fun _ _ _ _ => W⟩
    · cases h
  | .or a b, x, X, ws, c, h => by
    simp only [mE] at h
    split at h
    · rename_i p q rest pos
      simp only [Bool.and_eq_true] at h
      obtain ⟨h1, ha, h2⟩ := h
      have A := mE_ok c ha
      have B : PE X (.BoolOp .Or (q :: rest) pos) (tE T w F b) ∧ PW X (.BoolOp .Or (q :: rest) pos) (tT T w F b) := by
        cases rest with
        | nil =>
          simp only [Bool.and_eq_true] at h2
          have B := mE_ok c h2.2
          exact ⟨pe_one B.pe, pw_or1 (B.pt h2.1)⟩
        | cons r rest =>
          have B := mE_ok c h2
          exact ⟨B.pe, B.pw _ _ _ rfl⟩
      have W := w_or (A.pt h1) B.2
      exact ⟨e_or c.hK A.pe B.1, fun _ => W.pt, fun _ _ _ _ => W⟩
    · cases h
  | .not a, x, X, ws, c, h => by
    simp only [mE] at h
    split at h
    · simp only [Bool.and_eq_true] at h
      exact ⟨e_not c.hK (mE_ok c h.2).pe, fun _ => t_not ((mE_ok c h.2).pt h.1), fun _ _ _ z => nomatch z⟩
    · cases h
  | .ife d a b, x, X, ws, c, h => by
    simp only [mE] at h
    split at h
    · simp only [Bool.and_eq_true] at h
      exact ⟨e_ife ((mE_ok c h.2.1).pt h.1) (mE_ok c h.2.2.1).pe (mE_ok c h.2.2.2).pe, fun z => (nomatch z), fun _ _ _ z => nomatch z⟩
    · cases h
  | .tup l, x, X, ws, c, h => by
    simp only [mE] at h
    split at h
    · simp only [Bool.and_eq_true, decide_eq_true_eq] at h
      exact .val c (e_tup (mL_ok c h.2.2 h.2.1) h.1) (fun _ => rfl) (fun _ _ _ z => nomatch z)
    · cases h
  | .lst m l, x, X, ws, c, h => by
    simp only [mE] at h
    split at h
    · simp only [Bool.and_eq_true, decide_eq_true_eq] at h
      exact .val c (e_lst (mL_ok c h.2.2 h.2.1) h.1) (fun _ => rfl) (fun _ _ _ z => nomatch z)
    · cases h
  | .idx a b, x, X, ws, c, h => by
    simp only [mE] at h
    split at h
    · rename_i p q pos
      simp only [Bool.and_eq_true] at h
      have pl : PlainIx q := fun o i => by
        have h1 := h.1
        cases q <;> first | (cases h1; done) | rfl
      exact .val c (e_idx c.hK c.hw c.st.kd c.u65 (mE_ok c h.2.1).pe (mE_ok c h.2.2).pe pl) (fun _ => rfl) (fun _ _ _ z => nomatch z)
    · cases h
  | .slc a lo hi, x, X, ws, c, h => by
    simp only [mE] at h
    split at h
    · simp only [Bool.and_eq_true] at h
      exact .val c (e_slc c.hK (mE_ok c h.1).pe (mO_ok c h.2.1) (mO_ok c h.2.2)) (fun _ => rfl) (fun _ _ _ z => nomatch z)
    · cases h
  | .rev a, x, X, ws, c, h => by
    simp only [mE] at h
    split at h
    · exact .val c (e_rev c.hK (mE_ok c h).pe) (fun _ => rfl) (fun _ _ _ z => nomatch z)
    · cases h
  | .call j l, x, X, ws, c, h => by
    simp only [mE] at h
    split at h
    · rename_i y np es pos
      simp only [Bool.and_eq_true] at h
      obtain ⟨h1, h2, h3⟩ := h
      obtain ⟨hj, hg, hd, he0⟩ := c.glb h1
      obtain ⟨q, r, rfl, hf, _⟩ := call_cons h2
      have A := mL_ok c h3 hf
      refine .val c ?_ (fun _ => rfl) (fun _ _ _ z => nomatch z)
      cases hdef : T.G.defs[j]? with
      | some d => exact e_call c.hK c.hmg c.hw hdef (c.ca.def_ j d hdef) (c.roo.mono (Nat.le_succ _)) (c.ca.len j d hdef) hg (c.st.dnm j y hj he0) hd A hf
      | none =>
        refine ⟨fun pins s σ H Q I qq => ?_⟩
        obtain ⟨Av, β, hm, σm, v, hm', g, ev, kk⟩ := qq
        simp only [evE] at ev
        (split at ev; (case h_2 => cases ev); rename_i vs h1 e1)
        simp only [callD, hdef] at ev
        cases ev
    · cases h
  | .callK j ks l, x, X, ws, c, h => by
    simp only [mE] at h
    split at h
    · rename_i y np es kws pos
      simp only [Bool.and_eq_true, decide_eq_true_eq] at h
      obtain ⟨h1, hf, hn, hk, h3⟩ := h
      obtain ⟨hj, hg, hd, he0⟩ := c.glb h1
      obtain ⟨l1, l2, rfl, e1, A, K, e2⟩ := mLK_ok c h3 hf
      refine .val c ?_ (fun _ => rfl) (fun _ _ _ z => nomatch z)
      cases hdef : T.G.defs[j]? with
      | some d => exact e_callK c.hK c.hmg c.hw hdef (c.ca.def_ j d hdef) (c.roo.mono (Nat.le_succ _)) (by rw [e1]; exact hk) hn (by rw [e2]; have := congrArg List.length hn; simpa using this.symm) hg (c.st.dnm j y hj he0) hd A K hf e1.symm
      | none =>
        refine ⟨fun pins s σ H Q I qq => ?_⟩
        obtain ⟨Av, β, hm, σm, v, hm', g, ev, kk⟩ := qq
        simp only [evE] at ev
        (split at ev; (case h_2 => cases ev); rename_i vs h1 e1)
        simp only [callD, hdef] at ev
        cases ev
    · cases h
  | .callV i l, x, X, ws, c, h => by
    simp only [mE] at h
    split at h
    · rename_i y np es pos
      simp only [Bool.and_eq_true] at h
      obtain ⟨h1, h2, h3⟩ := h
      obtain ⟨hN, hv, hd, hcd⟩ := c.var h1
      obtain ⟨q, r, rfl, hf, _⟩ := call_cons h2
      exact .val c (e_callV c.hK c.hmg c.hw c.ca.def_ (c.roo.mono (Nat.le_succ _)) c.ca.len hN hv hd hcd (mL_ok c h3 hf) hf) (fun _ => rfl) (fun _ _ _ z => nomatch z)
    · cases h
  | .blt b l, x, X, ws, c, h => by
    simp only [mE] at h
    split at h
    · rename_i y np es pos
      simp only [Bool.and_eq_true, decide_eq_true_eq] at h
      obtain ⟨rfl, hg, h2, h3⟩ := h
      obtain ⟨q, r, rfl, hf, _⟩ := call_cons h2
      exact .val c (e_blt c.hK c.hw c.calm c.roo.gd c.u66 (c.glo hg) (c.free (bname_mem b)) (mL_ok c h3 hf) hf) (fun _ => rfl) (fun _ _ _ z => nomatch z)
    · cases h
  | .isi a t, x, X, ws, c, h => by
    simp only [mE] at h
    split at h
    · simp only [Bool.and_eq_true, decide_eq_true_eq] at h
      obtain ⟨rfl, hg, rfl, hgt, hf, ha⟩ := h
      exact .val c (e_isi c.hK (mE_ok c ha).pe hf (c.glo hg) (c.free (by decide +kernel)) (c.glo hgt) (c.free (tname_mem t)) rfl) (fun _ => rfl) (fun _ _ _ z => nomatch z)
    · cases h
  | .mth m o l, x, X, ws, c, h => by
    simp only [mE] at h
    split at h
    · rename_i p y apos es cpos
      simp only [Bool.and_eq_true, decide_eq_true_eq] at h
      obtain ⟨rfl, hl, hb, ho, h3⟩ := h
      have O := (mE_ok c ho).pe
      refine .val c ?_ (fun _ => rfl) (fun _ _ _ z => nomatch z)
      cases m with
      | append =>
        simp only [Bool.and_eq_true] at h3
        obtain ⟨q, r, rfl, hf, hn⟩ := call_cons h3.1
        exact e_mthL c.hK c.u65 (.inl rfl) O (mL_ok c h3.2 hf) hb hf hn hl
      | extend =>
        simp only [Bool.and_eq_true] at h3
        obtain ⟨q, r, rfl, hf, hn⟩ := call_cons h3.1
        exact e_mthL c.hK c.u65 (.inr (.inl rfl)) O (mL_ok c h3.2 hf) hb hf hn hl
      | remove =>
        simp only [Bool.and_eq_true] at h3
        obtain ⟨q, r, rfl, hf, hn⟩ := call_cons h3.1
        exact e_mthL c.hK c.u65 (.inr (.inr rfl)) O (mL_ok c h3.2 hf) hb hf hn hl
      | get =>
        simp only [Bool.and_eq_true] at h3
        obtain ⟨q, r, rfl, hf, hn⟩ := call_cons h3.1
        exact e_get c.hK c.hw c.u66 O (mL_ok c h3.2 hf) hb hf hn hl
      | join =>
        cases es with
        | nil => cases h3
        | cons q r =>
          cases r with
          | nil =>
            have h6 : (flatE q && mL S N ws l [q]) = true := h3
            rw [Bool.and_eq_true] at h6
            obtain ⟨hf, h4⟩ := h6
            cases l with
            | nil => simp only [mL] at h4; cases h4
            | cons a l =>
              simp only [mL] at h4
              rw [Bool.and_eq_true] at h4
              obtain ⟨ha, h5⟩ := h4
              cases l with
              | nil => exact e_join c.hK O (mE_ok c ha).pe hb hf hl
              | cons b l => simp only [mL] at h5; cases h5
          | cons _ _ => cases h3
      | pop =>
        cases l with
        | nil =>
          have he := List.isEmpty_iff.mp h3
          subst he
          exact e_pop O hb hl
        | cons a l => cases h3
    · cases h
  | .fld o f, x, X, ws, c, h => by
    simp only [mE] at h
    split at h
    · simp only [Bool.and_eq_true, decide_eq_true_eq] at h
      obtain ⟨hy, hb, ho⟩ := h
      exact .val c (e_fld c.hK c.st.inj c.st.cs (an_lt hy) (c.st.anm _ _ hy) (mE_ok c ho).pe hb) (fun _ => rfl) (fun _ _ _ z => nomatch z)
    · cases h
  | .new d l, x, X, ws, c, h => by
    simp only [mE] at h
    split at h
    · rename_i y np es pos
      simp only [Bool.and_eq_true] at h
      obtain ⟨h1, h2, h3⟩ := h
      obtain ⟨hj, hg, hd, he0⟩ := c.glb h1
      obtain ⟨q, r, rfl, hf, _⟩ := call_cons h2
      have A := mL_ok c h3 hf
      refine .val c ?_ (fun _ => rfl) (fun _ _ _ z => nomatch z)
      cases hcl : T.G.cls[d]? with
      | some cl => exact e_new c.hK c.hmg c.hw hcl (c.ca.mkc d cl hcl) c.roo hg (c.st.cnm d y hj) hd A hf
      | none =>
        refine ⟨fun pins s σ H Q I qq => ?_⟩
        obtain ⟨Av, β, hm, σm, v, hm', g, ev, kk⟩ := qq
        simp only [evE] at ev
        (split at ev; (case h_2 => cases ev); rename_i vs h1 e1)
        simp only [newO, hcl] at ev
        cases ev
    · cases h
  | .comp m tg it ifs elt own, x, X, ws, c, h => by
    have hh := h
    simp only [mE] at h
    split at h
    · simp only [Bool.and_eq_true, decide_eq_true_eq, List.all_eq_true] at h
      obtain ⟨rfl, hblk, hown, hg, hset, hit, hif, hel⟩ := h
      have bk := c.blkOk hblk
      have CI : CompOk T w F X N tg it elt ifs own _ _ _ _ _ := ⟨bk, hown, by
        split at hit
        · exact mI_ok c hit
        · rename_i hs
          exact i_val c.hK (mE_ok c hit).pe fun _ _ _ _ => evI_gen hs, fun s H C cl fp => mG_ok (c.blk bk.kind s H C cl fp) hg, fun s H C cl fp => mF_ok (c.blk bk.kind s H C cl fp) hif, fun s H C cl fp => (mE_ok (c.blk bk.kind s H C cl fp) hel).pe, noSet_ok hset _⟩
      exact .val c (CI.pe c.calm (by rw [c.hN]; exact c.nd)) (fun _ => rfl) (fun _ _ _ z => nomatch z)
    · cases h
  | .dic0, x, X, ws, c, h => by
    simp only [mE] at h
    split at h
    · exact .val c e_dic0 (fun _ => rfl) (fun _ _ _ z => nomatch z)
    · cases h
  | .dic1 a b, x, X, ws, c, h => by
    simp only [mE] at h
    split at h
    · simp only [Bool.and_eq_true] at h
      exact .val c (e_dic1 c.hK c.hw c.u66 (mE_ok c h.1).pe (mE_ok c h.2).pe) (fun _ => rfl) (fun _ _ _ z => nomatch z)
    · cases h
  | .frz a, x, X, ws, c, h => by
    simp only [mE] at h
    rw [Bool.and_eq_true] at h
    have A := e_frz (mE_ok c h.2).pe
    have h1 := h.1
    cases x with
    | Name y p => exact .val c A (fun _ => rfl) (fun _ _ _ z => nomatch z)
    | _ => cases h1
  | .lstM a, x, X, ws, c, h => by
    simp only [mE] at h
    split at h
    · simp only [Bool.and_eq_true, decide_eq_true_eq] at h
      obtain ⟨rfl, hg, hf, ha⟩ := h
      exact .val c (e_lstM c.hK (mE_ok c ha).pe hf (c.glo hg) (c.free (by decide +kernel))) (fun _ => rfl) (fun _ _ _ z => nomatch z)
    · cases h
  | .prp o f, x, X, ws, c, h => by
    simp only [mE] at h
    split at h
    · simp only [Bool.and_eq_true, decide_eq_true_eq] at h
      obtain ⟨hy, hb, ho⟩ := h
      exact .val c (e_prp c.hK c.hmg c.hw c.roo (c.st.prp _ _ hy) c.ca.def_ c.ca.len (mE_ok c ho).pe hb) (fun _ => rfl) (fun _ _ _ z => nomatch z)
    · cases h
  | .isc a d, x, X, ws, c, h => by
    simp only [mE] at h
    split at h
    · simp only [Bool.and_eq_true, decide_eq_true_eq] at h
      obtain ⟨rfl, hg, h1, hf, ha⟩ := h
      obtain ⟨hj, hgt, hd, _⟩ := c.glb h1
      exact .val c (e_isc c.hK (c.st.isc d) (mE_ok c ha).pe hf (c.glo hg) (c.free (by decide +kernel)) hgt (by rw [c.hmg]; exact c.st.cnm d _ hj) hd) (fun _ => rfl) (fun _ _ _ z => nomatch z)
    · cases h
  | .fmt a, x, X, ws, c, h => by
    simp only [mE] at h
    split at h
    · rw [Bool.and_eq_true, decide_eq_true_eq] at h
      obtain ⟨rfl, ha⟩ := h
      exact .val c (e_fmt (mE_ok c ha).pe) (fun _ => rfl) (fun _ _ _ z => nomatch z)
    · cases h
  | .fstr l, x, X, ws, c, h => by
    simp only [mE] at h
    split at h
    · split at h
      · cases h
      · rename_i q r
        have J := mJ_ok c h
        refine .val c ?_ (fun _ => rfl) (fun _ _ _ z => nomatch z)
        cases r with
        | nil =>
          cases l with
          | nil => cases J
          | cons a l =>
            cases l with
            | nil =>
              cases J with
              | cons p _ => exact e_fstr1 p
            | cons b l => cases J with
              | cons _ z => cases z
        | cons r1 r => exact e_fstr J
    · cases h
  | .isB a b, x, X, ws, c, h => by
    simp only [mE] at h
    split at h
    · rw [Bool.and_eq_true, decide_eq_true_eq] at h
      obtain ⟨rfl, ha⟩ := h
      exact ⟨e_isB (mE_ok c ha).pe, fun _ => t_isB (mE_ok c ha).pe, fun _ _ _ z => nomatch z⟩
    · cases h
  | .niB a b, x, X, ws, c, h => by
    simp only [mE] at h
    split at h
    · rw [Bool.and_eq_true, decide_eq_true_eq] at h
      obtain ⟨rfl, ha⟩ := h
      exact ⟨e_niB (mE_ok c ha).pe, fun _ => t_niB (mE_ok c ha).pe, fun _ _ _ z => nomatch z⟩
    · cases h
  | .rng1 _, x, X, ws, c, h => by simp only [mE] at h; cases h
  | .rng2 _ _, x, X, ws, c, h => by simp only [mE] at h; cases h
  | .rngd _ _, x, X, ws, c, h => by simp only [mE] at h; cases h
  | .enm _, x, X, ws, c, h => by simp only [mE] at h; cases h
  | .zip _ _, x, X, ws, c, h => by simp only [mE] at h; cases h
theorem mL_ok : ∀ {l : List Ex} {es : List Expr} {X : Cx} {ws : Scope}, CO T w F k S N X ws → mL S N ws l es = true → es.all flatE = true → PA X es (tAs T w F l)
  | [], es, X, ws, c, h, _ => by
    simp only [mL] at h
    split at h
    · exact a_nil
    · cases h
  | a :: l, es, X, ws, c, h, hf => by
    simp only [mL] at h
    split at h
    · cases h
    · rw [Bool.and_eq_true] at h
      rw [List.all_cons, Bool.and_eq_true] at hf
      exact a_cons (mE_ok c h.1).pe (mL_ok c h.2 hf.2) (star1 hf.1 _ _)
theorem mJ_ok : ∀ {l : List Ex} {es : List Expr} {X : Cx} {ws : Scope}, CO T w F k S N X ws → mL S N ws l es = true → PJ X es (l.map (tE T w F))
  | [], es, X, ws, c, h => by
    simp only [mL] at h
    split at h
    · exact .nil
    · cases h
  | a :: l, es, X, ws, c, h => by
    simp only [mL] at h
    split at h
    · cases h
    · rw [Bool.and_eq_true] at h
      exact .cons (mE_ok c h.1).pe (mJ_ok c h.2)
theorem mLK_ok : ∀ {l : List Ex} {es : List Expr} {kws : List Keyword} {X : Cx} {ws : Scope}, CO T w F k S N X ws → mLK S N ws l es kws = true → es.all flatE = true →
    ∃ l1 l2, l = l1 ++ l2 ∧ l1.length = es.length ∧ PA X es (tAs T w F l1) ∧ PK X kws (tAs T w F l2) ∧ l2.length = kws.length
  | [], es, kws, X, ws, c, h, _ => by
    simp only [mLK] at h
    split at h
    · exact ⟨[], [], rfl, rfl, a_nil, k_nil, rfl⟩
    · cases h
  | a :: l, es, kws, X, ws, c, h, hf => by
    simp only [mLK] at h
    split at h
    · rw [Bool.and_eq_true] at h
      rw [List.all_cons, Bool.and_eq_true] at hf
      obtain ⟨l1, l2, rfl, e1, A, K, e2⟩ := mLK_ok c h.2 hf.2
      exact ⟨a :: l1, l2, rfl, by rw [List.length_cons, e1, List.length_cons], a_cons (mE_ok c h.1).pe A (star1 hf.1 _ _), K, e2⟩
    · split at h
      · rw [Bool.and_eq_true] at h
        obtain ⟨l1, l2, rfl, e1, A, K, e2⟩ := mLK_ok c h.2 rfl
        have l1n : l1 = [] := List.length_eq_zero_iff.mp e1
        subst l1n
        exact ⟨[], a :: l2, rfl, rfl, a_nil, k_cons (mE_ok c h.1).pe K, by rw [List.length_cons, e2, List.length_cons]⟩
      · cases h
theorem mO_ok : ∀ {e : Option Ex} {x : Option Expr} {X : Cx} {ws : Scope}, CO T w F k S N X ws → mO S N ws e x = true → PO X x (tOo T w F e)
  | none, x, X, ws, c, h => by
    simp only [mO] at h
    split at h
    · exact o_none
    · cases h
  | some e, x, X, ws, c, h => by
    simp only [mO] at h
    split at h
    · cases h
    · exact o_some (mE_ok c h).pe
theorem mI_ok : ∀ {e : Ex} {tg x : Expr} {X : Cx} {ws : Scope}, CO T w F k S N X ws → mI S N ws e tg x = true → PI X tg x (tIi T w F e)
  | .rng1 a, tg, x, X, ws, c, h => by
    simp only [mI] at h
    split at h
    · simp only [Bool.and_eq_true, decide_eq_true_eq] at h
      obtain ⟨rfl, hg, hf, ha⟩ := h
      exact i_rng1 (c.glo hg) (c.free (by decide +kernel)) (mE_ok c ha).pe hf
    · cases h
  | .rng2 a b, tg, x, X, ws, c, h => by
    simp only [mI] at h
    split at h
    · simp only [Bool.and_eq_true, decide_eq_true_eq] at h
      obtain ⟨rfl, hg, hf, hf2, ha, hb⟩ := h
      exact i_rng2 (c.glo hg) (c.free (by decide +kernel)) (mE_ok c ha).pe (mE_ok c hb).pe hf hf2
    · cases h
  | .zip a b, tg, x, X, ws, c, h => by
    simp only [mI] at h
    split at h
    · simp only [Bool.and_eq_true, decide_eq_true_eq] at h
      obtain ⟨rfl, hg, hf, hf2, ha, hb, ht⟩ := h
      cases tg with
      | Tuple es kk tp => exact i_zip c.hK (c.glo hg) (c.free (by decide +kernel)) (mE_ok c ha).pe (mE_ok c hb).pe hf hf2
      | _ => cases ht
    · cases h
  | .enm a, tg, x, X, ws, c, h => by
    simp only [mI] at h
    split at h
    · simp only [Bool.and_eq_true, decide_eq_true_eq] at h
      obtain ⟨rfl, hg, hf, ha, ht⟩ := h
      cases tg with
      | Tuple es kk tp => exact i_enm c.hK (c.glo hg) (c.free (by decide +kernel)) (mE_ok c ha).pe hf
      | _ => cases ht
    · cases h
  | .var _, tg, x, X, ws, c, h => by simp only [mI] at h; cases h
  | .non, tg, x, X, ws, c, h => by simp only [mI] at h; cases h
  | .bl _, tg, x, X, ws, c, h => by simp only [mI] at h; cases h
  | .int _, tg, x, X, ws, c, h => by simp only [mI] at h; cases h
  | .str _, tg, x, X, ws, c, h => by simp only [mI] at h; cases h
  | .glb _, tg, x, X, ws, c, h => by simp only [mI] at h; cases h
  | .bin _ _ _, tg, x, X, ws, c, h => by simp only [mI] at h; cases h
  | .neg _, tg, x, X, ws, c, h => by simp only [mI] at h; cases h
  | .cmp _ _ _, tg, x, X, ws, c, h => by simp only [mI] at h; cases h
  | .isN _, tg, x, X, ws, c, h => by simp only [mI] at h; cases h
  | .notN _, tg, x, X, ws, c, h => by simp only [mI] at h; cases h
  | .chn _ _ _ _ _, tg, x, X, ws, c, h => by simp only [mI] at h; cases h
  | .and _ _, tg, x, X, ws, c, h => by simp only [mI] at h; cases h
  | .or _ _, tg, x, X, ws, c, h => by simp only [mI] at h; cases h
  | .not _, tg, x, X, ws, c, h => by simp only [mI] at h; cases h
  | .ife _ _ _, tg, x, X, ws, c, h => by simp only [mI] at h; cases h
  | .tup _, tg, x, X, ws, c, h => by simp only [mI] at h; cases h
  | .lst _ _, tg, x, X, ws, c, h => by simp only [mI] at h; cases h
  | .idx _ _, tg, x, X, ws, c, h => by simp only [mI] at h; cases h
  | .slc _ _ _, tg, x, X, ws, c, h => by simp only [mI] at h; cases h
  | .rev _, tg, x, X, ws, c, h => by simp only [mI] at h; cases h
  | .call _ _, tg, x, X, ws, c, h => by simp only [mI] at h; cases h
  | .callK _ _ _, tg, x, X, ws, c, h => by simp only [mI] at h; cases h
  | .callV _ _, tg, x, X, ws, c, h => by simp only [mI] at h; cases h
  | .blt _ _, tg, x, X, ws, c, h => by simp only [mI] at h; cases h
  | .isi _ _, tg, x, X, ws, c, h => by simp only [mI] at h; cases h
  | .mth _ _ _, tg, x, X, ws, c, h => by simp only [mI] at h; cases h
  | .fld _ _, tg, x, X, ws, c, h => by simp only [mI] at h; cases h
  | .new _ _, tg, x, X, ws, c, h => by simp only [mI] at h; cases h
  | .comp _ _ _ _ _ _, tg, x, X, ws, c, h => by simp only [mI] at h; cases h
  | .dic0, tg, x, X, ws, c, h => by simp only [mI] at h; cases h
  | .dic1 _ _, tg, x, X, ws, c, h => by simp only [mI] at h; cases h
  | .rngd _ _, tg, x, X, ws, c, h => by simp only [mI] at h; cases h
  | .frz _, tg, x, X, ws, c, h => by simp only [mI] at h; cases h
  | .lstM _, tg, x, X, ws, c, h => by simp only [mI] at h; cases h
  | .prp _ _, tg, x, X, ws, c, h => by simp only [mI] at h; cases h
  | .isc _ _, tg, x, X, ws, c, h => by simp only [mI] at h; cases h
  | .fmt _, tg, x, X, ws, c, h => by simp only [mI] at h; cases h
  | .fstr _, tg, x, X, ws, c, h => by simp only [mI] at h; cases h
  | .isB _ _, tg, x, X, ws, c, h => by simp only [mI] at h; cases h
  | .niB _ _, tg, x, X, ws, c, h => by simp only [mI] at h; cases h
theorem mF_ok : ∀ {l : List Ex} {es : List Expr} {X : Cx} {ws : Scope}, CO T w F k S N X ws → mF S N ws l es = true → PTs X es (tTs T w F l)
  | [], es, X, ws, c, h => by
    simp only [mF] at h
    split at h
    · exact ts_nil
    · cases h
  | a :: l, es, X, ws, c, h => by
    simp only [mF] at h
    split at h
    · rw [Bool.and_eq_true] at h
      exact ts_one ((mE_ok c h.2).pt h.1)
    · cases h
end
end
end Mi

namespace Mi
open PySem PySem.Spec PyProof.Rows L2

def isLoc (ws : Scope) (y : Str) : Bool := match ws.names.lookup y with
  | some .local => true
  | _ => false
def swB (ws : Scope) (y : Str) (py : Pos) (x : Expr) : Bool := match x with
  | .ListComp _ _ sc pos => isLoc ws y && (py.line == pos.line && !(sc.names.any fun (n, k) => n == y && (k == .local || k == .cell)))
  | _ => false
def noSD : Expr → Bool
  | .SetComp .. => false | .DictComp .. => false
  | _ => true
def noTup : Expr → Bool
  | .Tuple .. => false
  | _ => true
def isComp : Ex → Bool
  | .comp .. => true
  | _ => false
/-- the stores go from the left -/
def strB (x : Expr) : Bool := match x with
  | .Tuple vs _ _ => vs.all (foldedForSure 8)
  | _ => true
def celB (ws : Scope) (x : Expr) : Bool := match x with
  | .Name y _ => (match ws.names.lookup y with | some .cell => true | _ => false)
  | _ => false
def augB (o : Bop) (op : Operator) : Bool := match o, op with
  | .add, .Add => true | .sub, .Sub => true
  | _, _ => false
section
variable (S : Sig) (N : List Str) (ws : Scope)
mutual
def mS (s : Sx) (p : Stmt) : Bool := match s with
  | .expr e => match p with
    | .Expr x _ => noComp x && mE S N ws e x
    | _ => false
  | .set i e => match p with
    | .Assign [.Name y py] x _ => tgtB N ws i y && (mE S N ws e x && (match swB ws y py x with
      | true => isComp e
      | false => noSD x))
    | _ => false
  | .unp t e => match p with
    | .Assign [.Tuple es kk tp] x _ => noComp x && ((strB x || es.any (celB ws)) && (mE S N ws e x && mG N ws t (.Tuple es kk tp)))
    | _ => false
  | .par i j a b => match p with
    | .Assign [.Tuple [.Name y py, .Name z pz] _ _] (.Tuple [p, q] _ _) _ => tgtB N ws i y && (tgtB N ws j z && (decide (i ≠ j) && (isLoc ws y && (isLoc ws z && ((py.line == pz.line) && (!(y == z) && (flatE p && (flatE q &&
      (!(foldedForSure 8 p && foldedForSure 8 q) && (!(constantsAlone 8 p && constantsAlone 8 q) && (mE S N ws a p && mE S N ws b q)))))))))))
    | _ => false
  | .par3 i j l a b c => match p with
    | .Assign [.Tuple [.Name y py, .Name z pz, .Name u pu] _ _] (.Tuple [p, q, r] _ _) _ => tgtB N ws i y && (tgtB N ws j z && (tgtB N ws l u && (decide (i ≠ j ∧ i ≠ l ∧ j ≠ l) && (isLoc ws y && (isLoc ws z && (isLoc ws u && ((py.line == pz.line) && ((py.line == pu.line) &&
      (decide (y ≠ z ∧ y ≠ u ∧ z ≠ u) && (flatE p && (flatE q && (flatE r && (!([p, q, r].all (foldedForSure 8)) && (!([p, q, r].all (constantsAlone 8)) && (mE S N ws a p && (mE S N ws b q && mE S N ws c r))))))))))))))))
    | _ => false
  | .sub o i e => match p with
    | .Assign [.Subscript p q _] x _ => noComp x && (plainB q && (mE S N ws e x && (mE S N ws o p && mE S N ws i q)))
    | _ => false
  | .subn o i j e => match p with
    | .Assign [.Tuple [.Subscript p q _, .Name y _] _ _] x _ => noComp x && (noTup x && (plainB q && (tgtB N ws j y && (mE S N ws e x && (mE S N ws o p && mE S N ws i q)))))
    | _ => false
  | .fld o f e => match p with
    | .Assign [.Attribute p y _] x _ => noComp x && (decide (S.an[f]? = some y) && (mE S N ws e x && mE S N ws o p))
    | _ => false
  | .aug i o e => match p with
    | .AugAssign (.Name y _) op x _ => tgtB N ws i y && (augB o op && mE S N ws e x)
    | _ => false
  | .ifs c a b => match p with
    | .If x as bs _ => tstB x && (mE S N ws c x && (mSs a as && mSs b bs))
    | _ => false
  | .whl c b => match p with
    | .While x bs [] _ => tstB x && (mE S N ws c x && mSs b bs)
    | _ => false
  | .for_ t it b => match p with
    | .For tg x bs [] _ => mG N ws t tg && (noSet x && ((match specB it with | true => mI S N ws it tg x | false => mE S N ws it x) && mSs b bs))
    | _ => false
  | .ret e => match p with
    | .Return (some x) _ => mE S N ws e x
    | _ => false
  | .retn => match p with
    | .Return none _ => true
    | _ => false
  | .brk => match p with
    | .Break _ => true
    | _ => false
  | .cnt => match p with
    | .Continue _ => true
    | _ => false
  | .pass => match p with
    | .Pass _ => true
    | _ => false
  | .never => true
def mSs (l : List Sx) (ps : List Stmt) : Bool := match l with
  | [] => match ps with
    | [] => true
    | _ => false
  | s :: l => match ps with
    | [] => false
    | p :: ps => mS s p && mSs l ps
end
def undoc : List Stmt → List Stmt
  | .Expr (.Constant (.str _) _ _) _ :: ps => ps
  | ps => ps
def mB (l : List Sx) (ps : List Stmt) : Bool := mSs S N ws l (undoc ps)
end
theorem sw_no {x : Expr} (h : noComp x = true) (t : Option Expr) (l : Nat) (env : Env) : swapsWith x t l env = pure false := by
  cases x <;> first | (cases h; done) | rfl
theorem sws_no {x t : Expr} (h : noComp x = true) (l : Nat) (env : Env) : swapsWithSole [t] x l env = pure false := by
  cases x <;> first | (cases h; done) | rfl
theorem swst_no {x : Expr} (h : noTup x = true) (t : Expr) (env : Env) : swappedStores [t] x env = pure none := by
  cases x <;> first | (cases h; done) | (cases t <;> rfl)
section
variable {T : Tb} {w : World} {F : Fn} {k : Nat} {S : Sig} {N : List Str} {X : Cx} {ws : Scope} {W : Nat}
theorem CO.bk (c : CO T w F k S N X ws) : X.env.blockKind = .function := by
  unfold Env.blockKind
  rw [c.kind]
  rfl
theorem sw_eq (c : CO T w F k S N X ws) {i : Nat} {y : Str} {py : Pos} {x : Expr} (h : tgtB N ws i y = true) (hn : noSD x = true) (l : Nat) : swapsWith x (some (.Name y py)) l X.env = pure (swB ws y py x) := by
  cases x with
  | ListComp el gs sc pos =>
    have hb := c.bk
    have hk : isLoc ws y = true ∧ X.env.kindOf y = some .local ∨ isLoc ws y = false ∧ X.env.kindOf y = some .cell := by
      unfold tgtB locB at h
      simp only [Bool.and_eq_true] at h
      have h2 := h.2
      unfold isLoc
      split at h2
      · rename_i e
        rw [e]
        exact .inl ⟨rfl, c.loc y e⟩
      · rename_i e
        rw [e]
        exact .inr ⟨rfl, (c.cel y e).1⟩
      · cases h2
    unfold swapsWith swB
    rcases hk with ⟨e1, e2⟩ | ⟨e1, e2⟩
    · simp only [hb, e2, e1, Expr.pos, Bool.true_and]
      rfl
    · simp only [hb, e2, e1, Expr.pos, Bool.false_and]
      rfl
  | SetComp _ _ _ _ => cases hn
  | DictComp _ _ _ _ _ => cases hn
  | _ => rfl
theorem comp_ok (c : CO T w F k S N X ws) {m : Bool} {tg : Tg} {it elt : Ex} {ifs : List Ex} {own : List Nat} {x : Expr} (h : mE S N ws (.comp m tg it ifs elt own) x = true) : ∃ el tg' it' ifs' scope pos, x = .ListComp el [⟨tg', it', ifs', 0⟩] scope pos ∧ CompOk T w F X N tg it elt ifs own tg' it' ifs' el scope := by
  simp only [mE] at h
  split at h
  · simp only [Bool.and_eq_true, decide_eq_true_eq, List.all_eq_true] at h
    obtain ⟨rfl, hblk, hown, hg, hset, hit, hif, hel⟩ := h
    have bk := c.blkOk hblk
    refine ⟨_, _, _, _, _, _, rfl, bk, hown, ?_, fun s H C cl fp => mG_ok (c.blk bk.kind s H C cl fp) hg, fun s H C cl fp => mF_ok (c.blk bk.kind s H C cl fp) hif, fun s H C cl fp => (mE_ok (c.blk bk.kind s H C cl fp) hel).pe, noSet_ok hset _⟩
    split at hit
    · exact mI_ok c hit
    · rename_i hs
      exact i_val c.hK (mE_ok c hit).pe fun _ _ _ _ => evI_gen hs
  · cases h
theorem asgSub {p q : Expr} {sp : Pos} (h : plainB q = true) (env : Env) (v : Value) : assign (.Subscript p q sp) env v = (do
      let ov ← holding [v] (eval p env)
      let iv ← holding [v, ov] (eval q env)
      standAt sp
      holding [v, ov, iv] (setItem ov iv v)
      release [v, ov, iv] []) := by
  cases q <;> first | (cases h; done) | rfl
theorem fm_ne {α β : Type} {f : α → Option β} : ∀ {l : List α} {x : α}, x ∈ l → f x = none → ((l.filterMap f).length != l.length) = true
  | a :: l, x, hx, hf => by
    have le := List.length_filterMap_le f l
    rw [bne_iff_ne]
    cases hx with
    | head =>
      rw [List.filterMap_cons_none hf, List.length_cons]
      omega
    | tail _ hx =>
      have ih := fm_ne hx hf
      rw [bne_iff_ne] at ih
      cases e : f a with
      | none =>
        rw [List.filterMap_cons_none e, List.length_cons]
        omega
      | some b =>
        rw [List.filterMap_cons_some e, List.length_cons, List.length_cons]
        omega
theorem swst_cel (c : CO T w F k S N X ws) {es : List Expr} (h : es.any (celB ws) = true) (x : Expr) (kk : Nat) (tp : Pos) : swappedStores [.Tuple es kk tp] x X.env = pure none := by
  cases x with
  | Tuple vs k2 p2 =>
    obtain ⟨y, hy, hc⟩ := List.any_eq_true.1 h
    have ne : ∀ line : Nat, ((es.filterMap fun | .Name id pos => if X.env.kindOf id == some .local && pos.line == line then some id else none | _ => none).length != es.length) = true := by
      intro line
      refine fm_ne hy ?_
      cases y with
      | Name z zp =>
        have e : X.env.kindOf z = some .cell := by
          unfold celB at hc
          dsimp only at hc
          split at hc
          · rename_i e
            exact (c.cel z e).1
          · cases hc
        dsimp only
        rw [e]
        rfl
      | _ => cases hc
    unfold swappedStores
    dsimp only
    split
    · rfl
    · split
      · rfl
      · exact Eq.trans (if_pos (Bool.or_eq_true_iff.2 (.inl (ne _)))) rfl
  | _ => rfl
theorem swst_str {x : Expr} (h : strB x = true) (es : List Expr) (kk : Nat) (tp : Pos) (env : Env) : swappedStores [.Tuple es kk tp] x env = pure none := by
  cases x with
  | Tuple vs k2 p2 =>
    have h : vs.all (foldedForSure 8) = true := h
    unfold swappedStores
    simp only [h]
    split
    · rfl
    · split
      · rfl
      · split
        · rfl
        · rfl
  | _ => rfl
end
end Mi

namespace Mi
open PySem PySem.Spec PyProof.Rows L2

section
variable {T : Tb} {w : World} {F : Fn} {k : Nat} {S : Sig} {N : List Str} {X : Cx} {ws : Scope} {W : Nat}
theorem noStar2 {p q : Expr} (hp : flatE p = true) (hq : flatE q = true) : ([p, q].any fun | .Starred .. => true | _ => false) = false := by
  cases p <;> first | (cases hp; done) | (cases q <;> first | (cases hq; done) | rfl)
theorem isLoc_k (c : CO T w F k S N X ws) {y : Str} (h : isLoc ws y = true) : X.env.kindOf y = some .local := by
  unfold isLoc at h
  split at h
  · exact c.loc y (by assumption)
  · cases h
theorem swst_par (c : CO T w F k S N X ws) {y z : Str} {py pz tp tp2 : Pos} {kt k2 : Nat} {p q : Expr} (hy : isLoc ws y = true) (hz : isLoc ws z = true) (hl : (py.line == pz.line) = true) (hyz : (y == z) = false) (hp : flatE p = true) (hq : flatE q = true)
    (h1 : (foldedForSure 8 p && foldedForSure 8 q) = false) (h2 : (constantsAlone 8 p && constantsAlone 8 q) = false) : swappedStores [.Tuple [.Name y py, .Name z pz] kt tp] (.Tuple [p, q] k2 tp2) X.env = pure (some [y, z]) := by
  have ky := isLoc_k c hy
  have kz := isLoc_k c hz
  have e1 : ([p, q].all (foldedForSure 8)) = false := by simpa [List.all_cons] using h1
  have e2 : ([p, q].all (constantsAlone 8)) = false := by simpa [List.all_cons] using h2
  have l1 : (pz.line == py.line) = true := by rw [beq_iff_eq] at hl ⊢; exact hl.symm
  have l2 : (py.line == py.line) = true := beq_self_eq_true _
  have hne : (z == y) = false := by
    rw [beq_eq_false_iff_ne] at hyz ⊢
    exact fun e => hyz e.symm
  have dd : [y, z].eraseDups = [y, z] := by simp [List.eraseDups_cons, hne]
  unfold swappedStores
  simp only [c.bk, noStar2 hp hq, e1, e2]
  simp only [List.head?_cons, Option.map_some, Option.getD_some, Expr.pos, List.filterMap_cons, List.filterMap_nil, ky, kz, l1, l2, beq_self_eq_true, Bool.and_self, if_true, dd]
  clear h1 h2 e1 e2
  cases p <;> first | (cases hp; done) | (cases q <;> first | (cases hq; done) | rfl)
theorem noStar3 {p q r : Expr} (hp : flatE p = true) (hq : flatE q = true) (hr : flatE r = true) : ([p, q, r].any fun | .Starred .. => true | _ => false) = false := by
  have e : ([p, q, r].any fun | .Starred .. => true | _ => false) = (([p, q].any fun | .Starred .. => true | _ => false) || ([r, r].any fun | .Starred .. => true | _ => false)) := by
    simp [List.any_cons, Bool.or_assoc]
  rw [e, noStar2 hp hq, noStar2 hr hr]
  rfl
theorem swst_par3 (c : CO T w F k S N X ws) {y z u : Str} {py pz pu tp tp2 : Pos} {kt k2 : Nat} {p q r : Expr} (hy : isLoc ws y = true) (hz : isLoc ws z = true) (hu : isLoc ws u = true) (hl : (py.line == pz.line) = true) (hl2 : (py.line == pu.line) = true) (hne : y ≠ z ∧ y ≠ u ∧ z ≠ u)
    (hp : flatE p = true) (hq : flatE q = true) (hr : flatE r = true) (h1 : ([p, q, r].all (foldedForSure 8)) = false) (h2 : ([p, q, r].all (constantsAlone 8)) = false) :
    swappedStores [.Tuple [.Name y py, .Name z pz, .Name u pu] kt tp] (.Tuple [p, q, r] k2 tp2) X.env = pure (some [y, z, u]) := by
  have ky := isLoc_k c hy
  have kz := isLoc_k c hz
  have ku := isLoc_k c hu
  have l1 : (pz.line == py.line) = true := by rw [beq_iff_eq] at hl ⊢; exact hl.symm
  have l3 : (pu.line == py.line) = true := by rw [beq_iff_eq] at hl2 ⊢; exact hl2.symm
  have l2 : (py.line == py.line) = true := beq_self_eq_true _
  have n1 : (z == y) = false := beq_eq_false_iff_ne.mpr fun e => hne.1 e.symm
  have n2 : (u == y) = false := beq_eq_false_iff_ne.mpr fun e => hne.2.1 e.symm
  have n3 : (u == z) = false := beq_eq_false_iff_ne.mpr fun e => hne.2.2 e.symm
  have dd : [y, z, u].eraseDups = [y, z, u] := by simp [List.eraseDups_cons, n1, n2, n3]
  unfold swappedStores
  simp only [c.bk, noStar3 hp hq hr, h1, h2]
  simp only [List.head?_cons, Option.map_some, Option.getD_some, Expr.pos, List.filterMap_cons, List.filterMap_nil, ky, kz, ku, l1, l2, l3, beq_self_eq_true, Bool.and_self, if_true, dd]
  clear h1 h2
  cases p <;> first | (cases hp; done) | (cases q <;> first | (cases hq; done) | (cases r <;> first | (cases hr; done) | rfl))
theorem par_names (c : CO T w F k S N X ws) {i : Nat} {y : Str} (h : tgtB N ws i y = true) (hl : isLoc ws y = true) : X.N[i]? = some y ∧ X.env.scope.names.lookup y = some .local := ⟨(c.tgt h).1, isLoc_k c hl⟩
mutual
theorem mS_ok (c : CO T w F k S N X ws) (hx : X.xe = fun _ _ => False) : ∀ {s : Sx} {p : Stmt}, mS S N ws s p = true → PS X p (tSx T w F W s)
  | .expr e, p, h => by
    simp only [mS] at h
    split at h
    · rw [Bool.and_eq_true] at h
      exact s_expr (mE_ok c h.2).pe (sw_no h.1 _ _ _)
    · cases h
  | .set i e, p, h => by
    simp only [mS] at h
    split at h
    · rename_i y py x pos
      simp only [Bool.and_eq_true] at h
      obtain ⟨h1, h2, h3⟩ := h
      obtain ⟨hN, hl, hf⟩ := c.tgt h1
      have nd : X.N.Nodup := by rw [c.hN]; exact c.nd
      split at h3
      · rename_i hsw
        cases e with
        | comp m tg it ifs elt own =>
          obtain ⟨el, tg', it', ifs', scope, lpos, rfl, CK⟩ := comp_ok c h2
          have loc : X.env.scope.names.lookup y = some .local := by
            unfold swB at hsw
            rw [Bool.and_eq_true] at hsw
            exact isLoc_k c hsw.1
          have main := ps_setLc (pos := lpos) (spos := pos) (py := py) c.calm nd hN loc (by rw [sw_eq c h1 rfl, hsw]) CK.hi CK.ok CK.hg CK.ht CK.he CK.hs
          rw [ownOf_map] at main
          exact PS.of main fun D σ H q => set_red (fun _ _ _ z => comp_red CK.own z) q
        | _ => cases h3
      · rename_i hsw
        exact s_set nd hN hl hf (mE_ok c h2).pe (by rw [sw_eq c h1 h3, hsw])
    · cases h
  | .unp t e, p, h => by
    simp only [mS] at h
    split at h
    · simp only [Bool.and_eq_true] at h
      obtain ⟨h1, h2, h3, h4⟩ := h
      exact s_unp (mE_ok c h3).pe (mG_ok c h4) (sws_no h1 _ _) ((Bool.or_eq_true _ _ ▸ h2).elim (fun h2 => swst_str h2 _ _ _ _) fun h2 => swst_cel c h2 _ _ _)
    · cases h
  | .par i j a b, p, h => by
    simp only [mS] at h
    split at h
    · simp only [Bool.and_eq_true, decide_eq_true_eq, Bool.not_eq_true'] at h
      obtain ⟨h1, h2, hij, hy, hz, hl, hyz, hp, hq, hf, hk, ha, hb⟩ := h
      obtain ⟨n1, l1⟩ := par_names c h1 hy
      obtain ⟨n2, l2⟩ := par_names c h2 hz
      exact s_par c.calm (by rw [c.hN]; exact c.nd) n1 n2 hij l1 l2 (a_cons (mE_ok c ha).pe (a_cons (mE_ok c hb).pe a_nil (star1 hq _ _)) (star1 hp _ _)) (swst_par c hy hz hl hyz hp hq hf hk)
    · cases h
  | .par3 i j l a b d, p, h => by
    simp only [mS] at h
    split at h
    · simp only [Bool.and_eq_true, decide_eq_true_eq, Bool.not_eq_true'] at h
      obtain ⟨h1, h2, h3, hij, hy, hz, hu, hl, hl2, hne, hp, hq, hr, hf, hk, ha, hb, hd⟩ := h
      obtain ⟨n1, l1⟩ := par_names c h1 hy
      obtain ⟨n2, l2⟩ := par_names c h2 hz
      obtain ⟨n3, l3⟩ := par_names c h3 hu
      exact s_par3 c.calm (by rw [c.hN]; exact c.nd) n1 n2 n3 hij.1 hij.2.1 hij.2.2 l1 l2 l3 (a_cons (mE_ok c ha).pe (a_cons (mE_ok c hb).pe (a_cons (mE_ok c hd).pe a_nil (star1 hr _ _)) (star1 hq _ _)) (star1 hp _ _)) (swst_par3 c hy hz hu hl hl2 hne hp hq hr hf hk)
    · cases h
  | .sub o i e, p, h => by
    simp only [mS] at h
    split at h
    · simp only [Bool.and_eq_true] at h
      obtain ⟨h1, h2, h3, h4, h5⟩ := h
      exact s_sub c.hK c.hw c.u65 (mE_ok c h3).pe (mE_ok c h4).pe (mE_ok c h5).pe (asgSub h2 _) (sws_no h1 _ _)
    · cases h
  | .subn o i j e, p, h => by
    simp only [mS] at h
    split at h
    · simp only [Bool.and_eq_true] at h
      obtain ⟨h1, h2, h3, h4, h5, h6, h7⟩ := h
      obtain ⟨hN, hl, hf⟩ := c.tgt h4
      exact s_subn c.hK c.hw c.calm c.u65 (mE_ok c h5).pe (mE_ok c h6).pe (mE_ok c h7).pe (by rw [c.hN]; exact c.nd) hN hl hf (asgSub h3 _) (sws_no h1 _ _) (swst_no h2 _ _)
    · cases h
  | .fld o f e, p, h => by
    simp only [mS] at h
    split at h
    · simp only [Bool.and_eq_true, decide_eq_true_eq] at h
      obtain ⟨h1, h2, h3, h4⟩ := h
      exact s_fld c.hK c.st.inj c.st.cs (an_lt h2) (c.st.anm _ _ h2) (mE_ok c h3).pe (mE_ok c h4).pe (sw_no h1 _ _ _)
    · cases h
  | .aug i o e, p, h => by
    simp only [mS] at h
    split at h
    · rename_i y np op x pos
      simp only [Bool.and_eq_true] at h
      obtain ⟨h1, h2, h3⟩ := h
      obtain ⟨hN, hl, hf⟩ := c.tgt h1
      have E := (mE_ok c h3).pe
      have nd : X.N.Nodup := by rw [c.hN]; exact c.nd
      have ho : (o = .add ∧ op = .Add) ∨ (o = .sub ∧ op = .Sub) := by
        unfold augB at h2
        split at h2
        · exact .inl ⟨rfl, rfl⟩
        · exact .inr ⟨rfl, rfl⟩
        · cases h2
      exact s_aug ho nd hN hl hf E fun ti hp => ps_aug nd hN hl E hp hf
    · cases h
  | .ifs d a b, p, h => by
    simp only [mS] at h
    split at h
    · simp only [Bool.and_eq_true] at h
      obtain ⟨h1, h2, h3, h4⟩ := h
      exact s_ifs ((mE_ok c h2).pt h1) (mSs_ok c hx h3) (mSs_ok c hx h4)
    · cases h
  | .whl d b, p, h => by
    simp only [mS] at h
    split at h
    · simp only [Bool.and_eq_true] at h
      obtain ⟨h1, h2, h3⟩ := h
      exact s_whl (by rw [hx]; exact PassesOwn.never) ((mE_ok c h2).pt h1) (mSs_ok c hx h3)
    · cases h
  | .for_ t it b, p, h => by
    simp only [mS] at h
    split at h
    · rename_i tg x bs pos
      simp only [Bool.and_eq_true] at h
      obtain ⟨h1, h2, h3, h4⟩ := h
      have hi : PI X tg x (tIi T w F it) := by
        split at h3
        · exact mI_ok c h3
        · rename_i hs
          exact i_val c.hK (mE_ok c h3).pe fun _ _ _ _ => evI_gen hs
      exact s_for (by rw [hx]; exact PassesOwn.never) c.calm hi (mG_ok c h1) (mSs_ok c hx h4) (noSet_ok h2 _)
    · cases h
  | .ret e, p, h => by
    simp only [mS] at h
    split at h
    · exact s_ret (mE_ok c h).pe
    · cases h
  | .retn, p, h => by
    simp only [mS] at h
    split at h
    · exact s_retn
    · cases h
  | .brk, p, h => by
    simp only [mS] at h
    split at h
    · exact s_brk
    · cases h
  | .cnt, p, h => by
    simp only [mS] at h
    split at h
    · exact s_cnt
    · cases h
  | .pass, p, h => by
    simp only [mS] at h
    split at h
    · exact s_pass
    · cases h
  | .never, p, h => PS.of ps_never fun D σ H h => by
    obtain ⟨Av, β, hm, σm, g, k⟩ := h
    simp only [evS] at k
    exact k
theorem mSs_ok (c : CO T w F k S N X ws) (hx : X.xe = fun _ _ => False) : ∀ {l : List Sx} {ps : List Stmt}, mSs S N ws l ps = true → PSs X ps (tSxs T w F W l)
  | [], ps, h => by
    simp only [mSs] at h
    split at h
    · exact ss_nil
    · cases h
  | s :: l, ps, h => by
    simp only [mSs] at h
    split at h
    · cases h
    · rw [Bool.and_eq_true] at h
      exact ss_cons (mS_ok c hx h.1) (mSs_ok c hx h.2)
end
theorem mB_ok (c : CO T w F k S N X ws) (hx : X.xe = fun _ _ => False) {l : List Sx} {ps : List Stmt} (h : mB S N ws l ps = true) : PSs X ps (tSxs T w F W l) := by
  unfold mB undoc at h
  split at h
  · exact ss_doc (mSs_ok c hx h)
  · exact mSs_ok c hx h
end
end Mi

namespace Mi
open PySem PySem.Spec PyProof.Rows L2

/-- a def of the text, for the interpreter's -/
structure FdOk (T : Tb) (S : Sig) (j : Nat) (d : Df) : Prop where
  ex : ∃ (x qual : Str) (params : Arguments) (body : List Stmt) (scope : Scope) (N ps : List Str) (fd : FuncData), FunD T.K x qual params body scope (d.dfl.map V.int) [] (T.fa j) fd ∧ FnScope N ps scope ∧ ps.length = d.np ∧ N.length = d.nn ∧ mB S N scope d.body body = true ∧ Binds T.K fd ps [] ∧
    KwOk T.K fd ps S.kws j d
structure FxOk (T : Tb) (w : World) (S : Sig) : Prop where
  st : StOk T w S
  fd : ∀ j d, T.G.defs[j]? = some d → FdOk T S j d
  mkc : ∀ c cl, T.G.cls[c]? = some cl → ∃ d, T.G.defs[cl.init]? = some d ∧ Mk T.K (T.ca c) (T.fa cl.init)
section
variable {T : Tb} {w : World} {S : Sig} {W : Nat}
theorem runF_ok {G : Gm} {k j : Nat} {l : List MV} {h h' : MH} {v : MV} (e : runF G W (k + 1) j l h = .ok v h') : ∃ d, G.defs[j]? = some d ∧ l.length = d.np ∧
    (evSs G (runF G W k) W d.body (startM d.nn l) h = .rt v h' ∨ (v = .non ∧ ∃ σ, evSs G (runF G W k) W d.body (startM d.nn l) h = .nx σ h')) := by
  simp only [runF] at e
  split at e
  · rename_i d hd
    split at e
    · rename_i hl
      split at e
      · rename_i v' h2 hr
        obtain ⟨rfl, rfl⟩ := out_inj e
        exact ⟨d, hd, hl, .inl hr⟩
      · rename_i σ h2 hr
        obtain ⟨rfl, rfl⟩ := out_inj e
        exact ⟨d, hd, hl, .inr ⟨rfl, σ, hr⟩⟩
      · cases e
    · cases e
  · cases e
theorem runF_len {G : Gm} {k j : Nat} {d : Df} (hd : G.defs[j]? = some d) : ∀ l hm v hm', runF G W k j l hm = .ok v hm' → l.length = d.np := by
  intro l hm v hm' e
  cases k with
  | zero => simp only [runF] at e; cases e
  | succ k =>
    obtain ⟨d', h1, h2, _⟩ := runF_ok e
    rw [hd] at h1
    cases h1
    exact h2
theorem start_ss {Av : Addr → Prop} {β : List Addr} {hm : MH} {H : Hp} {l : List MV} {vs : List V} {N : List Str} {n : Nat} (hn : N.length = n) (r : RVs T (lv Av β hm) β H l vs) : SS T (lv Av β hm) β H (startM n l) (start N vs) := by
  subst hn
  unfold startM L2.start
  refine ⟨by simp [r.length], fun i v h => ?_⟩
  by_cases hi : i < l.length
  · rw [List.getElem?_append_left (by simpa using hi), List.getElem?_map] at h
    cases hl : l[i]? with
    | none => rw [hl] at h; cases h
    | some m =>
      rw [hl] at h
      cases h
      obtain ⟨x, h1, h2⟩ := r.get hl
      refine ⟨x, ?_, h2⟩
      rw [List.getElem?_append_left (by have := r.length; simp; omega), List.getElem?_map, h1]
      rfl
  · rw [List.getElem?_append_right (by simpa using hi), List.getElem?_replicate] at h
    split at h <;> cases h
theorem level (P : Program) (base : Heap) (fx : FxOk T w S) : ∀ k, CaOk P w T base (2 * k) (runF T.G W k) S
  | 0 => by
    have none_ : ∀ np j vs H Q, ¬ spF T w (runF T.G W 0) np j vs H Q := fun np j vs H Q h => by
      obtain ⟨Av, β, hm, l, v, hm', _, _, _, e, _⟩ := h
      simp only [runF] at e
      cases e
    have fn : ∀ f fd ps np j, FnG P w T.K T.mg base (2 * 0) f fd ps (spF T w (runF T.G W 0) np j) := fun f fd ps np j => ⟨fun vs H Q h => (none_ _ _ _ _ _ h).elim, fun _ _ _ _ _ _ _ _ _ _ _ _ h => (none_ _ _ _ _ _ h).elim⟩
    refine ⟨fun j d hd => ?_, fun j d hd => runF_len hd, fun c cl hc => ?_⟩
    · obtain ⟨x, qual, params, body, scope, N, ps, fd, hF, hS, hp, hN, hm, hb, hk⟩ := (fx.fd j d hd).ex
      exact ⟨hF.kp, fd, ps, hp, fn _ _ _ _ _, hb, hk⟩
    · obtain ⟨d, hd, mk⟩ := fx.mkc c cl hc
      obtain ⟨x, qual, params, body, scope, N, ps, fd, hF, hS, hp, hN, hm, hb, hk⟩ := (fx.fd _ d hd).ex
      exact ⟨_, fd, ps, d, mk, hd, fn _ _ _ _ _, hb, runF_len hd⟩
  | k + 1 => by
    have ih := level P base fx k
    have step : ∀ j d, T.G.defs[j]? = some d → ∃ (fd : FuncData) (ps : List Str), ps.length = d.np ∧ FnG P w T.K T.mg base (2 * (k + 1)) (T.fa j) fd ps (spF T w (runF T.G W (k + 1)) d.np j) ∧ Binds T.K fd ps [] ∧ PySem.W.keepIn T.K (.ref (T.fa j)) = true ∧
        KwOk T.K fd ps S.kws j d := by
      intro j d hd
      obtain ⟨x, qual, params, body, scope, N, ps, fd, hF, hS, hp, hN, hm, hb, hk⟩ := (fx.fd j d hd).ex
      refine ⟨fd, ps, hp, ?_, hb, hF.kp, hk⟩
      show FnG P w T.K T.mg base (2 * k + 1 + 1) (T.fa j) fd ps (spF T w (runF T.G W (k + 1)) d.np j)
      refine fnG_of hF hS (fun vs H Q h => ?_) fun cdv A outer s H vs Q roo h => ?_
      · obtain ⟨Av, β, hm, l, v, hm', _, r, hl, _⟩ := h
        rw [← r.length, hl, hp]
      · have co : CO T w (runF T.G W k) (2 * k) S N (cxG P w T.K T.mg base N qual scope (T.fa j) cdv A outer s H).nox scope :=
          { hK := rfl, hmg := rfl, hw := rfl, hN := rfl, nd := hS.nd, calm := rfl, roo := roo, kind := hS.kind, loc := fun _ z => z, cel := fun _ z => ⟨z, rfl⟩, fre := fun _ z => .inl z, gl := fun _ z => z, st := fx.st, ca := ih }
        refine ⟨_, (mB_ok (W := W) co rfl hm).nox, ?_⟩
        obtain ⟨Av, β, hm0, l, v, hm', hr, r, hl, e, kp⟩ := h
        obtain ⟨d', h1, _, e2⟩ := runF_ok e
        rw [hd] at h1
        cases h1
        refine ⟨Av, β, hm0, startM d.nn l, ⟨hr, start_ss hN r⟩, ?_⟩
        rcases e2 with e2 | ⟨rfl, σ2, e2⟩
        · rw [e2]
          exact fun β' H' x i1 hr1 rx => kp β' H' x i1 hr1 rx
        · rw [e2]
          exact fun β' H' σ' i1 g1 => kp β' H' .non i1 g1.hr .non
    refine ⟨fun j d hd => ?_, fun j d hd => runF_len hd, fun c cl hc => ?_⟩
    · obtain ⟨fd, ps, hp, fn, hb, kp, hk⟩ := step j d hd
      exact ⟨kp, fd, ps, hp, fn, hb, hk⟩
    · obtain ⟨d, hd, mk⟩ := fx.mkc c cl hc
      obtain ⟨fd, ps, hp, fn, hb, kp, hk⟩ := step _ d hd
      exact ⟨_, fd, ps, d, mk, hd, fn, hb, runF_len hd⟩
/-- the law: from the script -/
theorem law_of {P : Program} {base : Heap} (fx : FxOk T w S) {j : Nat} {d : Df} (hd : T.G.defs[j]? = some d) (k : Nat) (hrun : ∀ ns : List Int, ns.length ≤ 63 → ∃ hm, runF T.G W k j [.scr (ns.map .int)] [] = .ok (.bl true) hm) (hnp : d.np = 1) :
    ∃ (fd : FuncData) (ps : List Str), ps.length = 1 ∧ FnG P w T.K T.mg base (2 * k) (T.fa j) fd ps (spF T w (runF T.G W k) 1 j) ∧ Binds T.K fd ps [] := by
  obtain ⟨fd, ps, hp, fn, hb, _⟩ := ((level (W := W) P base fx k).def_ j d hd).fn
  rw [hnp] at hp fn
  exact ⟨fd, ps, hp, fn, hb⟩
/-- a script at the entry -/
theorem entry {F : Fn} {j : Nat} {H : Hp} {a : Addr} {ns : List Int} (hO : Only H) (hS : SqL T.K H a (ns.map V.int)) {hm' : MH} (e : F j [.scr (ns.map .int)] [] = .ok (.bl true) hm') : spF T w F 1 j [.ref a] H (fun v _ => v = .bl true) := by
  have hr : HR T (hsOf w) (fun _ => False) [] [] H := ⟨rfl, List.nodup_nil, (fun a ha => nomatch ha), (fun a ha => nomatch ha), (fun a ha => ha.elim), (fun i a o h1 _ _ => by simp at h1)⟩
  have nl : ∀ b, ¬ lv (fun _ => False) ([] : List Addr) ([] : MH) b := fun b q => lv_nil q
  refine ⟨fun _ => False, [], [], [.scr (ns.map .int)], .bl true, hm', hr, .one ?_, rfl, e, fun β' H' x _ _ rx => rx.bl'⟩
  rcases hS with h | h
  · exact .scr h (nl a) (RVs.ofInts ns)
  · exact .scrK h (RVs.ofInts ns)
end
end Mi

namespace Mi
open PySem PySem.Spec PyProof.Rows L2

/-! ### attributes' names -/
def anOf (l : List Str) (i : Nat) : Str := (l[i]?).getD ⟨#[1099511627776 + i]⟩
def anB (l : List Str) : Bool := decide l.Nodup && l.all fun s => s.cps.toList.all fun c => decide (c < 1099511627776)
theorem anOf_inj {l : List Str} (h : anB l = true) : ∀ f g, anOf l f = anOf l g → f = g := by
  unfold anB at h
  rw [Bool.and_eq_true, decide_eq_true_eq, List.all_eq_true] at h
  have out : ∀ (i : Nat) (s : Str), s ∈ l → s ≠ ⟨#[1099511627776 + i]⟩ := fun i s hs e => by
    have q := h.2 s hs
    rw [e] at q
    have q2 := List.all_eq_true.mp q (1099511627776 + i) (by simp)
    rw [decide_eq_true_eq] at q2
    omega
  intro f g e
  unfold anOf at e
  cases hf : l[f]? with
  | some s =>
    cases hg : l[g]? with
    | some t =>
      rw [hf, hg] at e
      have e : s = t := e
      subst e
      exact nodup_ix h.1 hf hg
    | none =>
      rw [hf, hg] at e
      exact absurd e (out g s (List.mem_of_getElem? hf))
  | none =>
    cases hg : l[g]? with
    | some t =>
      rw [hf, hg] at e
      exact absurd e.symm (out f t (List.mem_of_getElem? hg))
    | none =>
      rw [hf, hg] at e
      simp only [Option.getD_none, Str.mk.injEq] at e
      have e2 : [1099511627776 + f] = [1099511627776 + g] := congrArg Array.toList e
      simp only [List.cons.injEq, and_true] at e2
      omega

/-! ### tables -/
theorem kvL_ok (z : Str) : ∀ {es : List DictEntry} {t : List (Str × MV)}, kvL es t = true →
    (t.lookup z = none → es.find? (·.key.isStr z) = none ∧ es.any (·.refKey) = false) ∧ ∀ m, t.lookup z = some m → ∃ (e : DictEntry) (i : Int) (u : Tok), es.find? (·.key.isStr z) = some e ∧ m = .int i ∧ e.val = .int i u
  | [], [], _ => ⟨fun _ => ⟨rfl, rfl⟩, fun m h => by cases h⟩
  | [], _ :: _, h => by cases h
  | _ :: _, [], h => by cases h
  | e :: es, (k, m) :: t, h => by
    simp only [kvL, Bool.and_eq_true] at h
    obtain ⟨h1, h2⟩ := h
    obtain ⟨i1, i2⟩ := kvL_ok z h2
    split at h1
    · rename_i x tk i tk2 j hk hv
      simp only [Bool.and_eq_true, decide_eq_true_eq] at h1
      obtain ⟨rfl, rfl⟩ := h1
      by_cases q : z = x
      · subst q
        refine ⟨fun n => ?_, fun m hm => ?_⟩
        · simp [List.lookup_cons] at n
        · simp only [List.lookup_cons, beq_self_eq_true, Option.some.injEq] at hm
          exact ⟨e, i, tk2, by simp [List.find?_cons, hk, Value.isStr], hm.symm, hv⟩
      · have q1 : (z == x) = false := beq_false_of_ne q
        have q2 : e.key.isStr z = false := by rw [hk]; exact beq_false_of_ne fun e => q e.symm
        refine ⟨fun n => ?_, fun m hm => ?_⟩
        · rw [List.lookup_cons, q1] at n
          obtain ⟨a1, a2⟩ := i1 n
          refine ⟨by rw [List.find?_cons, q2]; exact a1, ?_⟩
          rw [List.any_cons, a2]
          simp [DictEntry.refKey, hk]
        · rw [List.lookup_cons, q1] at hm
          obtain ⟨e', i', u', a1, a2, a3⟩ := i2 m hm
          exact ⟨e', i', u', by rw [List.find?_cons, q2]; exact a1, a2, a3⟩
    · cases h1
theorem kvB_ok {K : PySem.W.Frag} {a : Addr} {t : List (Str × MV)} (h : kvB K a t = true) (z : Str) : (t.lookup z = none → PySem.W.nsIn K a z = some none) ∧ ∀ m, t.lookup z = some m → ∃ (i : Int) (u : Tok), m = .int i ∧ PySem.W.nsIn K a z = some (some (.int i u)) := by
  unfold kvB at h
  split at h
  · rename_i oc od es n sl hl
    obtain ⟨h1, h2⟩ := kvL_ok z h
    unfold PySem.W.nsIn
    rw [hl]
    dsimp only
    refine ⟨fun n => ?_, fun m hm => ?_⟩
    · obtain ⟨a1, a2⟩ := h1 n
      rw [a1]
      dsimp only
      rw [a2]
      rfl
    · obtain ⟨e, i, u, a1, a2, a3⟩ := h2 m hm
      exact ⟨i, u, a2, by rw [a1, ← a3]⟩
  · cases h

theorem fdAt_ok {K : PySem.W.Frag} {a : Addr} {f : FuncData} (e : fdAt K a = some f) : ∃ oc od osl, K.lookup a = some ⟨oc, od, .func f, osl⟩ := by
  unfold fdAt at e
  obtain ⟨⟨oc, od, dt, osl⟩, h1, h2⟩ := Option.bind_eq_some_iff.mp e
  cases dt with
  | func g =>
    cases h2
    exact ⟨oc, od, osl, h1⟩
  | _ => cases h2
theorem funP {K : PySem.W.Frag} {d : He.DefD} (e : tellP K d.at_ = d.val) (c : okP K d = true) : ∃ fd, FunD K d.name d.qual d.params d.body d.scope (d.dvs K) (d.kws K) (fAdP K d.at_) fd := by
  unfold okP at c
  unfold tellP He.DefD.val at e
  obtain ⟨kp, c⟩ := Bool.and_eq_true_iff.mp c
  generalize fAdP K d.at_ = a at e c kp
  cases hf : fdAt K a with
  | none => rw [hf] at c; cases c
  | some f =>
    rw [hf] at c e
    obtain ⟨c1, c2⟩ := Bool.and_eq_true_iff.mp c
    obtain ⟨c2, c3⟩ := Bool.and_eq_true_iff.mp c2
    obtain ⟨oc, od, osl, lk⟩ := fdAt_ok hf
    cases f with
    | mk =>
      simp only [Option.map_some, Option.some.injEq, Prod.mk.injEq] at e
      obtain ⟨rfl, rfl, rfl, rfl, rfl, rfl, rfl, rfl⟩ := e
      exact ⟨_, ⟨oc, od, _, _, _, _, _, _, _, osl, rfl, lk, c1, He.dflB_ok c2, He.kwdB_ok c3⟩, kp⟩
theorem insB_ok {K : PySem.W.Frag} {C : Addr} (c : Cls K C) (h : insB K C = true) : C8.InsC K C := by
  unfold insB at h
  simp only [Bool.and_eq_true, decide_eq_true_eq] at h
  exact ⟨c, He.eqO_ok h.1, He.eqO_ok h.2.1, h.2.2.1, h.2.2.2.1, h.2.2.2.2⟩
theorem prB_ok {K : PySem.W.Frag} {x z : Str} (h : prB K (He.ga K x) z = true) : ∃ q, PropOf K (He.ga K x) z q (fAdP K (x, some z)) := by
  unfold prB at h
  simp only [Bool.and_eq_true, decide_eq_true_eq] at h
  obtain ⟨h1, h2, h3, h4⟩ := h
  refine ⟨He.ma K (He.ga K x) z, He.eqO_ok h1, He.eqO_ok h2, h3, ?_⟩
  unfold fAdP
  dsimp only
  split at h4
  · rename_i g more e
    rw [e]
    exact ⟨more, rfl⟩
  · cases h4
def dflE : List Int → List He.Dv → Bool
  | [], [] => true
  | i :: l, .int j :: ds => decide (i = j) && dflE l ds
  | _, _ => false
theorem dflE_ok {K : PySem.W.Frag} : ∀ {l : List Int} {ds : List He.Dv}, dflE l ds = true → ds.map (He.Dv.v K) = l.map V.int
  | [], [], _ => rfl
  | [], _ :: _, h => by cases h
  | _ :: _, [], h => by cases h
  | i :: l, d :: ds, h => by
    cases d with
    | int j =>
      have h3 : (decide (i = j) && dflE l ds) = true := h
      rw [Bool.and_eq_true, decide_eq_true_eq] at h3
      obtain ⟨rfl, h4⟩ := h3
      show He.Dv.v K (.int i) :: ds.map (He.Dv.v K) = V.int i :: l.map V.int
      rw [dflE_ok h4]
      rfl
    | _ => cases h
def Lw.tb (l : Lw) (K : PySem.W.Frag) (mg : Str → Option Value) : Tb :=
  ⟨K, mg, l.G, fun j => fAdP K (l.at_.getD j ("", none)), fun c => He.ga K (l.S.cn.getD c ""), fun k => He.ga K (l.kn.getD k ""), anOf l.S.an⟩
/-- what is looked at without the head -/
def d1B (l : Lw) (d : Df) (at_ : Str × Option Str) (dn : Str) (dd : He.DefD) (np : List Str × List Str) : Bool :=
  decide (dd.at_ = at_) && (decide (dn = "" ∨ (dn, none) = at_) && (dflE d.dfl dd.dfl && (dd.kwd.isEmpty && (C8.scC np.1 np.2 dd.scope && (decide (np.2.length = d.np) && (decide (np.1.length = d.nn) && mB l.S np.1 dd.scope d.body dd.body))))))
def dsB (l : Lw) : List Df → List (Str × Option Str) → List Str → List He.DefD → List (List Str × List Str) → Bool
  | [], [], [], [], [] => true
  | d :: ds, a :: as, n :: ns, f :: fs, p :: ps => d1B l d a n f p && dsB l ds as ns fs ps
  | _, _, _, _, _ => false
def cB (l : Lw) : List Cl → List Str → Bool
  | [], [] => true
  | c :: cs, y :: ys => decide (l.at_[c.init]? = some (y, some ("__init__" : Str))) && ((l.G.defs[c.init]?).isSome && cB l cs ys)
  | _, _ => false
def pB (l : Lw) (p : Nat × Nat × Nat) : Bool := match l.S.cn[p.1]?, l.S.pn[p.2.1]? with
  | some y, some z => decide (l.at_[p.2.2]? = some (y, some z)) && (l.G.cls[p.1]?).isSome
  | _, _ => false
def Lw.ok (l : Lw) : Bool := anB l.S.an && (dsB l l.G.defs l.at_ l.S.dn l.fn l.nps && (cB l l.G.cls l.S.cn && (decide l.S.pn.Nodup && l.G.prs.all (pB l))))
/-- bindings -/
def BnP (dd : He.DefD) (ps : List Str) : Prop := match dd.dfl with
  | [] => ∀ (kV doc pm : Value) (an : Option Addr) (cdv ct : Value) (us : List Value), us.length = ps.length → bindArgs (PySem.W.fnOf dd.name dd.qual dd.params dd.body dd.scope .none kV doc pm an cdv ct) ⟨us, []⟩ = pure (ps.zip us)
  | _ :: _ => ∀ (D : Addr) (kV doc pm : Value) (an : Option Addr) (cdv ct : Value) (us its : List Value), us.length = ps.length → its.length = dd.dfl.length →
    ∃ k, bindArgs (PySem.W.fnOf dd.name dd.qual dd.params dd.body dd.scope (.ref D) kV doc pm an cdv ct) ⟨us, []⟩ = seqItems? (.ref D) >>= k ∧ k (some its.toArray) = pure (ps.zip us)
def BnAll : List He.DefD → List (List Str × List Str) → Prop
  | d :: ds, p :: ps => BnP d p.2 ∧ BnAll ds ps
  | _, _ => True
def KwQ (dd : He.DefD) (ps : List Str) (k : Kw) : Prop := match dd.dfl with
  | [] => ∀ (kV doc pm : Value) (an : Option Addr) (cdv ct : Value) (us : List Value), us.length = k.2.1 + k.2.2.1.length →
    bindArgs (PySem.W.fnOf dd.name dd.qual dd.params dd.body dd.scope .none kV doc pm an cdv ct) ⟨us.take k.2.1, k.2.2.1.zip (us.drop k.2.1)⟩ = pure (ps.zip (k.2.2.2.map fun i => (us[i]?).getD .none))
  | _ :: _ => ∀ (D : Addr) (kV doc pm : Value) (an : Option Addr) (cdv ct : Value) (us its : List Value), us.length = k.2.1 + k.2.2.1.length → its.length = dd.dfl.length →
    ∃ c, bindArgs (PySem.W.fnOf dd.name dd.qual dd.params dd.body dd.scope (.ref D) kV doc pm an cdv ct) ⟨us.take k.2.1, k.2.2.1.zip (us.drop k.2.1)⟩ = seqItems? (.ref D) >>= c ∧
      c (some its.toArray) = pure (ps.zip (k.2.2.2.map fun i => ((us ++ its)[i]?).getD .none))
def KwP (l : Lw) (k : Kw) : Prop := ∀ d dd np, l.G.defs[k.1]? = some d → l.fn[k.1]? = some dd → l.nps[k.1]? = some np → k.2.2.2.length = d.np ∧ KwQ dd np.2 k
theorem BnP.binds {K : PySem.W.Frag} {dd : He.DefD} {ps : List Str} {f : Addr} {fd : FuncData} (h : BnP dd ps) (F : FunD K dd.name dd.qual dd.params dd.body dd.scope (dd.dvs K) [] f fd) : Binds K fd ps [] := by
  unfold BnP at h
  unfold He.DefD.dvs at F
  split at h
  · rename_i e
    rw [e] at F
    exact F.bindsN h
  · rename_i a r e
    obtain ⟨ds, r, b⟩ := F.binds1 (ps := ps) ps.length dd.dfl.length (by rw [e]; exact fun z => nomatch z) (by rw [List.length_map]; omega) fun D kV doc pm an cdv ct us its h1 h2 => by
      rw [List.length_map] at h2
      obtain ⟨k, k1, k2⟩ := h D kV doc pm an cdv ct us its h1 h2
      refine ⟨k, k1, ?_⟩
      rw [List.drop_eq_nil_of_le (by omega), List.append_nil]
      exact k2
    have e2 : (dd.dfl.map (He.Dv.v K)).drop dd.dfl.length = [] := List.drop_eq_nil_of_le (by rw [List.length_map]; omega)
    rw [e2] at r
    cases r
    exact b
theorem KwQ.binds {K : PySem.W.Frag} {dd : He.DefD} {ps : List Str} {f : Addr} {fd : FuncData} (F : FunD K dd.name dd.qual dd.params dd.body dd.scope (dd.dvs K) [] f fd) : ∃ its : List Value, Vals (dd.dvs K) its ∧ ∀ k : Kw, KwQ dd ps k →
    ∀ (s : Shared) (us : List Value), K.In s.heap → us.length = k.2.1 + k.2.2.1.length → BindsTo s fd ⟨us.take k.2.1, k.2.2.1.zip (us.drop k.2.1)⟩ (ps.zip (k.2.2.2.map fun i => ((us ++ its)[i]?).getD .none)) := by
  obtain ⟨oc, od, dV, kV, doc, pm, an, cdv, ct, osl, rfl, lk, hcd, hD, hK⟩ := F.ex
  rcases hD with ⟨e, rfl⟩ | ⟨ne, D, o, its, m, rfl, lT, oT, rT⟩
  · refine ⟨[], by rw [e]; exact .nil, fun k h s us _ hl => ?_⟩
    have e2 : dd.dfl = [] := List.map_eq_nil_iff.mp e
    unfold KwQ at h
    rw [e2] at h
    rw [List.append_nil]
    exact .of_eq (h kV doc pm an cdv ct us hl)
  · refine ⟨its, rT, fun k h s us hin hl => ?_⟩
    unfold KwQ at h
    split at h
    · rename_i e
      exact absurd (show dd.dvs K = [] by unfold He.DefD.dvs; rw [e]; rfl) ne
    · have l1 : its.length = dd.dfl.length := by rw [← rT.length]; exact List.length_map ..
      obtain ⟨c, c1, c2⟩ := h D kV doc pm an cdv ct us its hl l1
      refine BindsTo.of_looks fun M => ?_
      rw [c1]
      exact looks_items hin lT oT (.of_pure c2)

section
variable {l : Lw}
theorem dsB_at : ∀ {ds : List Df} {as : List (Str × Option Str)} {ns : List Str} {fs : List He.DefD} {ps : List (List Str × List Str)}, dsB l ds as ns fs ps = true → BnAll fs ps → ∀ {j : Nat} {d : Df}, ds[j]? = some d → ∃ a n f p, as[j]? = some a ∧ ns[j]? = some n ∧ fs[j]? = some f ∧ ps[j]? = some p ∧ d1B l d a n f p = true ∧ BnP f p.2
  | d :: ds, a :: as, n :: ns, f :: fs, p :: ps, h, b, 0, _, e => by
    simp only [dsB, Bool.and_eq_true] at h
    simp only [List.getElem?_cons_zero, Option.some.injEq] at e
    subst e
    exact ⟨a, n, f, p, rfl, rfl, rfl, rfl, h.1, b.1⟩
  | d :: ds, a :: as, n :: ns, f :: fs, p :: ps, h, b, j + 1, d', e => by
    simp only [dsB, Bool.and_eq_true] at h
    simp only [List.getElem?_cons_succ] at e ⊢
    exact dsB_at h.2 b.2 e
  | [], [], [], [], [], _, _, _, _, e => by simp at e
theorem dsB_dn : ∀ {ds : List Df} {as : List (Str × Option Str)} {ns : List Str} {fs : List He.DefD} {ps : List (List Str × List Str)}, dsB l ds as ns fs ps = true → ∀ {j : Nat} {y : Str}, ns[j]? = some y → (y == ("" : Str)) = false → as[j]? = some (y, none)
  | d :: ds, a :: as, n :: ns, f :: fs, p :: ps, h, 0, y, e, hy => by
    simp only [dsB, d1B, Bool.and_eq_true, decide_eq_true_eq] at h
    simp only [List.getElem?_cons_zero, Option.some.injEq] at e ⊢
    subst e
    rcases h.1.2.1 with z | z
    · rw [z] at hy; cases hy
    · exact z.symm
  | d :: ds, a :: as, n :: ns, f :: fs, p :: ps, h, j + 1, y, e, hy => by
    simp only [dsB, Bool.and_eq_true] at h
    simp only [List.getElem?_cons_succ] at e ⊢
    exact dsB_dn h.2 e hy
  | [], [], [], [], [], _, _, _, e, _ => by simp at e
theorem cB_at : ∀ {cs : List Cl} {ys : List Str}, cB l cs ys = true → ∀ {c : Nat} {cl : Cl}, cs[c]? = some cl → ∃ y, ys[c]? = some y ∧ l.at_[cl.init]? = some (y, some ("__init__" : Str)) ∧ (l.G.defs[cl.init]?).isSome = true
  | [], [], _, _, _, e => by simp at e
  | c :: cs, y :: ys, h, 0, _, e => by
    simp only [cB, Bool.and_eq_true, decide_eq_true_eq] at h
    simp only [List.getElem?_cons_zero, Option.some.injEq] at e
    subst e
    exact ⟨y, rfl, h.1, h.2.1⟩
  | c :: cs, y :: ys, h, j + 1, _, e => by
    simp only [cB, Bool.and_eq_true, decide_eq_true_eq] at h
    simp only [List.getElem?_cons_succ] at e ⊢
    exact cB_at h.2.2 e
theorem gls_at {K : PySem.W.Frag} : ∀ {ms : List MV} {ys : List Str}, l.gls K ms ys = true → ∀ {j : Nat} {m : MV} {y : Str}, ms[j]? = some m → ys[j]? = some y → gB l K y m = true
  | [], _, _, _, _, _, e, _ => by simp at e
  | _ :: _, [], _, _, _, _, _, e => by simp at e
  | m :: ms, y :: ys, h, 0, _, _, e, e2 => by
    simp only [Lw.gls, Bool.and_eq_true] at h
    simp only [List.getElem?_cons_zero, Option.some.injEq] at e e2
    subst e e2
    exact h.1
  | m :: ms, y :: ys, h, j + 1, _, _, e, e2 => by
    simp only [Lw.gls, Bool.and_eq_true] at h
    simp only [List.getElem?_cons_succ] at e e2
    exact gls_at h.2 e e2
theorem kvs_at {K : PySem.W.Frag} : ∀ {ts : List (List (Str × MV))} {ys : List Str}, l.kvs K ts ys = true → ∀ {j : Nat} {t : List (Str × MV)}, ts[j]? = some t → ∃ y, ys[j]? = some y ∧ kvB K (He.ga K y) t = true
  | [], _, _, _, _, e => by simp at e
  | _ :: _, [], h, _, _, _ => by cases h
  | t :: ts, y :: ys, h, 0, _, e => by
    simp only [Lw.kvs, Bool.and_eq_true] at h
    simp only [List.getElem?_cons_zero, Option.some.injEq] at e
    subst e
    exact ⟨y, rfl, h.1⟩
  | t :: ts, y :: ys, h, j + 1, _, e => by
    simp only [Lw.kvs, Bool.and_eq_true] at h
    simp only [List.getElem?_cons_succ] at e ⊢
    exact kvs_at h.2 e
theorem getD_of {α : Type} {l : List α} {i : Nat} {a d : α} (h : l[i]? = some a) : l.getD i d = a := by
  rw [List.getD_eq_getElem?_getD, h]
  rfl
theorem gB_ok {K : PySem.W.Frag} {h : Heap} {mg : Str → Option Value} (X : K.In h) (G : h.Ns mainGlobals mg) {y : Str} {m : MV} (e : gB l K y m = true) : ∃ v u, mg y = some u ∧ RelV v u ∧ ∀ L β H, RV (l.tb K mg) L β H m v := by
  cases m with
  | int i =>
    obtain ⟨t, q⟩ := He.int_ok X G (show (He.Fa.int y i).ok K = true from e)
    exact ⟨.int i, _, q, ⟨t, rfl⟩, fun _ _ _ => .int i⟩
  | str s =>
    obtain ⟨t, q⟩ := He.str_ok X G (show (He.Fa.str y s).ok K = true from e)
    exact ⟨.str s, _, q, ⟨t, rfl⟩, fun _ _ _ => .str s⟩
  | tup t =>
    have e' : (match intsM t with | some ns => (He.Fa.glo y).ok K && He.tupB K y (ns.map .int) | none => false) = true := e
    split at e'
    · rename_i ns hns
      rw [Bool.and_eq_true] at e'
      have q := He.glo_ok X G e'.1
      have kt : KT K (He.ga K y) ((ns.map He.Dv.int).map (He.Dv.v K)) := by
        rcases He.tupB_ok e'.2 (fun _ => none) with (z | ⟨o, z⟩) | z
        · cases z
        · cases z
        · exact z
      have ev : (ns.map He.Dv.int).map (He.Dv.v K) = ns.map V.int := by rw [List.map_map]; rfl
      rw [ev] at kt
      have et : t = ns.map MV.int := by
        clear e e' q kt ev
        induction t generalizing ns with
        | nil => cases hns; rfl
        | cons a t ih =>
          cases a with
          | int i =>
            have hns : (intsM t).map (i :: ·) = some ns := hns
            cases z : intsM t with
            | none => rw [z] at hns; cases hns
            | some ks => rw [z] at hns; cases hns; rw [ih ks z]; rfl
          | _ => cases hns
      refine ⟨.ref (He.ga K y), _, q, rfl, fun _ _ _ => .tupK kt ?_⟩
      rw [et]
      exact RVs.ofInts ns
    · cases e'
  | fn j =>
    have e' : (decide (l.at_[j]? = some (y, none)) && (He.Fa.glo y).ok K) = true := e
    simp only [Bool.and_eq_true, decide_eq_true_eq] at e'
    have q := He.glo_ok X G e'.2
    refine ⟨.ref (He.ga K y), _, q, rfl, fun L β H => ?_⟩
    have r : RV (l.tb K mg) L β H (.fn j) (.ref ((l.tb K mg).fa j)) := .fn j
    have ef : (l.tb K mg).fa j = He.ga K y := by
      show fAdP K (l.at_.getD j ("", none)) = _
      rw [getD_of e'.1]
      rfl
    rw [ef] at r
    exact r
  | kd k =>
    have e' : (decide (l.kn[k]? = some y) && (He.Fa.glo y).ok K) = true := e
    simp only [Bool.and_eq_true, decide_eq_true_eq] at e'
    have q := He.glo_ok X G e'.2
    refine ⟨.ref (He.ga K y), _, q, rfl, fun L β H => ?_⟩
    have r : RV (l.tb K mg) L β H (.kd k) (.ref ((l.tb K mg).ka k)) := .kd k
    have ef : (l.tb K mg).ka k = He.ga K y := by
      show He.ga K (l.kn.getD k "") = _
      rw [getD_of e'.1]
    rw [ef] at r
    exact r
  | _ => cases e
theorem fx_of {K : PySem.W.Frag} {w : World} {h : Heap} {mg : Str → Option Value} (X : K.In h) (G : h.Ns mainGlobals mg) (cy : SaysY l w h K) (ok : l.ok = true) (bn : BnAll l.fn l.nps) (kw : ∀ k ∈ l.S.kws, KwP l k) : FxOk (l.tb K mg) w l.S := by
  unfold Lw.ok at ok
  simp only [Bool.and_eq_true] at ok
  obtain ⟨oka, okd, okc, okn, okp⟩ := ok
  have c := cy.x
  have ex := c.more
  unfold Lw.ex at ex
  simp only [Bool.and_eq_true] at ex
  obtain ⟨ex1, ex2, exf, exm, exp⟩ := ex
  have fact : ∀ {f : He.Fa}, f ∈ l.fa → f.ok K = true := fun hf => He.SaysD.facts c.t.d hf
  have kdn : ∀ (j : Nat) (t : List (Str × MV)), l.G.kds[j]? = some t → ∃ y, l.kn[j]? = some y ∧ (l.tb K mg).ka j = He.ga K y ∧ kvB K (He.ga K y) t = true := fun j t ht => by
    obtain ⟨y, hy, q⟩ := kvs_at ex2 ht
    refine ⟨y, hy, ?_, q⟩
    show He.ga K (l.kn.getD j "") = _
    rw [getD_of hy]
  refine ⟨⟨⟨fun j t ht => ?_, fun j t z ht hz => ?_, fun j t z m ht hz => ?_⟩, anOf_inj oka, ⟨fun d cl hd => ?_, fun d cl f hd hf => ?_⟩, fun f y hf => ?_, fun j m y hm hy => ?_, fun y hy => ?_, fun j y hj hy => ?_, fun d y hd => ?_, fun d cl hd => ?_, fun f y hf d j hj => ?_⟩, fun j d hd => ?_, fun d cl hd => ?_⟩
  · obtain ⟨y, hy, e, _⟩ := kdn j t ht
    rw [e]
    have ht2 : l.ts[j]? = some (fun K => He.ga K y, t.map (·.1)) := by
      unfold Lw.ts
      have hz : (l.kn.zip l.G.kds)[j]? = some (y, t) := by rw [List.getElem?_zip_eq_some]; exact ⟨hy, ht⟩
      rw [List.getElem?_map, hz]
      rfl
    exact He.SaysT.tab c.t j ht2
  · obtain ⟨y, hy, e, q⟩ := kdn j t ht
    rw [e]
    exact (kvB_ok q z).1 hz
  · obtain ⟨y, hy, e, q⟩ := kdn j t ht
    rw [e]
    exact (kvB_ok q z).2 m hz
  · obtain ⟨y, hy, _⟩ := cB_at okc hd
    show Cls K (He.ga K (l.S.cn.getD d ""))
    rw [getD_of hy]
    refine He.cls_ok (fact ?_)
    unfold Lw.fa
    simp only [List.mem_append, List.mem_map]
    exact .inr (.inr (.inr (.inl ⟨y, List.mem_of_getElem? hy, rfl⟩)))
  · obtain ⟨y, hy, _⟩ := cB_at okc hd
    obtain ⟨s, hs⟩ : ∃ s, l.S.an[f]? = some s := ⟨_, List.getElem?_eq_getElem hf⟩
    show NoAttr K (He.ga K (l.S.cn.getD d "")) (anOf l.S.an f)
    unfold anOf
    rw [getD_of hy, hs]
    refine He.noat_ok (f := s) (fact ?_)
    unfold Lw.fa
    simp only [List.mem_append, List.mem_map, List.mem_flatMap]
    exact .inr (.inr (.inr (.inr (.inr ⟨y, List.mem_of_getElem? hy, s, List.mem_of_getElem? hs, rfl⟩))))
  · show anOf l.S.an f = y
    unfold anOf
    rw [hf]
    rfl
  · exact gB_ok X G (gls_at ex1 hm hy)
  · refine He.free_ok X G (fact ?_)
    unfold Lw.fa
    simp only [List.mem_append, List.mem_map]
    exact .inr (.inr (.inl ⟨y, hy, rfl⟩))
  · have ha := dsB_dn okd hj hy
    show mg y = some (.ref (fAdP K (l.at_.getD j ("", none))))
    rw [getD_of ha]
    refine He.glo_ok X G (fact ?_)
    unfold Lw.fa
    simp only [List.mem_append, List.mem_filterMap]
    exact .inl ⟨y, List.mem_of_getElem? hj, by rw [hy]; rfl⟩
  · show mg y = some (.ref (He.ga K (l.S.cn.getD d "")))
    rw [getD_of hd]
    refine He.glo_ok X G (fact ?_)
    unfold Lw.fa
    simp only [List.mem_append, List.mem_map]
    exact .inr (.inl ⟨y, List.mem_of_getElem? hd, rfl⟩)
  · obtain ⟨y, hy, _⟩ := cB_at okc hd
    have hcl : Cls K (He.ga K y) := by
      refine He.cls_ok (fact ?_)
      unfold Lw.fa
      simp only [List.mem_append, List.mem_map]
      exact .inr (.inr (.inr (.inl ⟨y, List.mem_of_getElem? hy, rfl⟩)))
    show C8.InsC K (He.ga K (l.S.cn.getD d ""))
    rw [getD_of hy]
    unfold Lw.mks at exm
    have q := List.all_eq_true.mp exm y (List.mem_of_getElem? hy)
    rw [Bool.and_eq_true] at q
    exact insB_ok hcl q.2
  · unfold prF at hj
    obtain ⟨p, hp, rfl⟩ := Option.map_eq_some_iff.mp hj
    have hmem := List.mem_of_find?_eq_some hp
    have hpp : p.1 = d ∧ p.2.1 = f := by simpa using List.find?_some hp
    obtain ⟨rfl, rfl⟩ := hpp
    have q := List.all_eq_true.mp okp p hmem
    unfold pB at q
    rw [hf] at q
    split at q
    · rename_i x z hx hz
      cases hz
      rw [Bool.and_eq_true, decide_eq_true_eq] at q
      have r := List.all_eq_true.mp (show (l.G.prs.all fun p => prB K (He.ga K (l.S.cn.getD p.1 "")) (l.S.pn.getD p.2.1 "")) = true from exp) p hmem
      rw [getD_of hx, getD_of hf] at r
      refine ⟨?_, ?_⟩
      · show Cls K (He.ga K (l.S.cn.getD p.1 ""))
        rw [getD_of hx]
        refine He.cls_ok (fact ?_)
        unfold Lw.fa
        simp only [List.mem_append, List.mem_map]
        exact .inr (.inr (.inr (.inl ⟨x, List.mem_of_getElem? hx, rfl⟩)))
      · show ∃ q, PropOf K (He.ga K (l.S.cn.getD p.1 "")) y q (fAdP K (l.at_.getD p.2.2 ("", none)))
        rw [getD_of hx, getD_of q.1]
        exact prB_ok r
    · cases q
  · obtain ⟨a, n, f, p, ha, hn, hf, hp, q, hb⟩ := dsB_at okd bn hd
    unfold d1B at q
    simp only [Bool.and_eq_true, decide_eq_true_eq, List.isEmpty_iff] at q
    obtain ⟨q1, _, q3, q4, q5, q6, q7, q8⟩ := q
    have told : tellP K f.at_ = f.val := by
      have e2 : (l.fn.map fun d => tellP K d.at_)[j]? = (l.fn.map He.DefD.val)[j]? := by rw [cy.fs]
      rw [List.getElem?_map, List.getElem?_map, hf] at e2
      exact Option.some.inj e2
    obtain ⟨fd, F⟩ := funP told (List.all_eq_true.mp exf f (List.mem_of_getElem? hf))
    have ed : f.dvs K = d.dfl.map V.int := dflE_ok q3
    have ek : f.kws K = [] := by unfold He.DefD.kws; rw [q4]; rfl
    rw [ek] at F
    have B := hb.binds F
    obtain ⟨its, ri, hk⟩ := KwQ.binds (ps := p.2) F
    rw [ed] at F ri
    rw [q1] at F
    refine ⟨f.name, f.qual, f.params, f.body, f.scope, p.1, p.2, fd, ?_, C8.fnScope_by q5, q6, q7, q8, B, its, ri, fun n' kn perm hkk => ?_⟩
    · show FunD K _ _ _ _ _ _ _ (fAdP K (l.at_.getD j ("", none))) fd
      rw [getD_of ha]
      exact F
    · obtain ⟨z1, z2⟩ := kw _ hkk d f p hd hf hp
      exact ⟨z1, hk (j, n', kn, perm) z2⟩
  · obtain ⟨y, hy, ha, hs⟩ := cB_at okc hd
    obtain ⟨d', hd'⟩ := Option.isSome_iff_exists.mp hs
    refine ⟨d', hd', ?_⟩
    show Mk K (He.ga K (l.S.cn.getD d "")) (fAdP K (l.at_.getD cl.init ("", none)))
    rw [getD_of hy, getD_of ha]
    unfold Lw.mks at exm
    have q := List.all_eq_true.mp exm y (List.mem_of_getElem? hy)
    rw [Bool.and_eq_true, decide_eq_true_eq] at q
    rw [q.1]
    refine He.mkr_ok (x := y) (fact ?_)
    unfold Lw.fa
    simp only [List.mem_append, List.mem_map]
    exact .inr (.inr (.inr (.inr (.inl ⟨y, List.mem_of_getElem? hy, rfl⟩))))
end

/-- the law, from what the interpreter tells -/
theorem law_end {l : Lw} (ok : l.ok = true) (bn : BnAll l.fn l.nps) (kw : ∀ k ∈ l.S.kws, KwP l k) {j W k : Nat} {d : Df} (hat : l.at_[j]? = some (("law" : Str), none)) (hdn : l.S.dn[j]? = some ("law" : Str)) (hd : l.G.defs[j]? = some d) (hnp : d.np = 1)
    (hrun : ∀ ns : List Int, ns.length ≤ 63 → ∃ hm, runF l.G W k j [.scr (ns.map .int)] [] = .ok (.bl true) hm)
    {P : Program} {w : World} {h : Heap} {mg : Str → Option Value} {fa : Addr} (Y : ∃ K : PySem.W.Frag, K.In h ∧ SaysY l w h K) (G : h.Ns mainGlobals mg) (named : mg ("law" : Str) = some (.ref fa)) :
    ∃ (K : PySem.W.Frag) (sp : SpG), K.In h ∧
      (∀ (H : Hp) (a : Addr) (ns : List Int), ns.length ≤ 63 → Only H → SqL K H a (ns.map V.int) → sp [.ref a] H (fun v _ => v = .bl true)) ∧
      ∀ base : Heap, K.In base → base.Ns mainGlobals mg → ∃ (fd : FuncData) (ps : List Str), ps.length = 1 ∧ FnG P w K mg base (2 * k) fa fd ps sp ∧ Binds K fd ps [] := by
  obtain ⟨K, X, c⟩ := Y
  have fx := fx_of X G c ok bn kw
  have efa : fa = (l.tb K mg).fa j := by
    have g : mg ("law" : Str) = some (.ref ((l.tb K mg).fa j)) := fx.st.dnm j "law" hdn (by decide +kernel)
    have e := named.symm.trans g
    injection e with e
    injection e
  refine ⟨K, spF (l.tb K mg) w (runF l.G W k) 1 j, X, fun H a ns hl hO hS => ?_, fun base _ _ => ?_⟩
  · obtain ⟨hm, e⟩ := hrun ns hl
    exact entry (T := l.tb K mg) hO hS e
  · rw [efa]
    exact law_of (W := W) fx hd k hrun hnp
end Mi

namespace Mi
open PySem L2
theorem fin_rt {v : MV} {h : MH} : fin (.rt v h) = .ok v h := rfl
theorem fin_nx {σ : MS} {h : MH} : fin (.nx σ h) = .ok .non h := rfl
mutual
theorem frz_fix (h : MH) : ∀ {v : MV}, v.fix = true → frz h v = some v
  | .non, _ => rfl
  | .bl _, _ => rfl
  | .int _, _ => rfl
  | .str _, _ => rfl
  | .tup l, e => by rw [frz, frzL_fix h (l := l) (by simpa [MV.fix] using e)]; rfl
  | .lst l, e => by rw [frz, frzL_fix h (l := l) (by simpa [MV.fix] using e)]; rfl
  | .obj c l, e => by rw [frz, frzL_fix h (l := l) (by simpa [MV.fix] using e)]; rfl
  | .loc _, e => by simp [MV.fix] at e
  | .fn _, _ => rfl
  | .kd _, _ => rfl
  | .scr l, e => by
    have e' : fixL l = true := by simpa [MV.fix] using e
    simp [frz, e']
theorem frzL_fix (h : MH) : ∀ {l : List MV}, fixL l = true → frzL h l = some l
  | [], _ => rfl
  | a :: l, e => by
    rw [fixL, Bool.and_eq_true] at e
    rw [frzL, frz_fix h e.1, frzL_fix h e.2]
end
theorem fixL_append {l m : List MV} : fixL (l ++ m) = (fixL l && fixL m) := by
  induction l with
  | nil => rfl
  | cons a l ih => simp [fixL, ih, Bool.and_assoc]
theorem fixL_iff {l : List MV} : fixL l = true ↔ ∀ v ∈ l, v.fix = true := by
  induction l with
  | nil => simp [fixL]
  | cons a l ih => simp [fixL, ih]
theorem fixL_map {α : Type} {f : α → MV} {l : List α} (h : ∀ x ∈ l, (f x).fix = true) : fixL (l.map f) = true := by
  rw [fixL_iff]
  intro v hv
  obtain ⟨x, hx, rfl⟩ := List.mem_map.mp hv
  exact h x hx
/-- what a call gives, as a value -/
def Pc (G : Gm) (W k j : Nat) (l : List MV) (r : MV) : Prop := ∃ v h, runF G W k j l [] = .ok v h ∧ frz h v = some r
theorem Pc.call {G : Gm} {W k j : Nat} {l : List MV} {r : MV} {d : Df} (p : Pc G W k j l r) (hd : G.defs[j]? = some d) (hp : d.pure = true) (hl : fixL l = true) (h : MH) : callD G (runF G W k) j l h = .ok r h := by
  obtain ⟨v, h', e, f⟩ := p
  unfold callD
  rw [hd]
  simp only [hp, hl, e, f]
theorem Pc.mk {G : Gm} {W k j : Nat} {l : List MV} {v : MV} {h : MH} (e : runF G W k j l [] = .ok v h) (f : v.fix = true) : Pc G W k j l v := ⟨v, h, e, frz_fix h f⟩
section
variable {G : Gm} {F : Fn} {W : Nat} {s : Sx} {l : List Sx} {σ σ' : MS} {h h' : MH} {v : MV}
theorem ss_nx (e : evS G F W s σ h = .nx σ' h') : evSs G F W (s :: l) σ h = evSs G F W l σ' h' := by rw [evSs, e]
theorem ss_rt (e : evS G F W s σ h = .rt v h') : evSs G F W (s :: l) σ h = .rt v h' := by rw [evSs, e]
theorem w_whl {c : Ex} {b : List Sx} : evS G F W (.whl c b) σ h = loopW (fun σ h => evE G F c σ h) (fun σ h => evSs G F W b σ h) W σ h := by rw [evS]
theorem w_for {t : Tg} {it : Ex} {b : List Sx} {vs : List MV} (e : evI G F it σ h = .ok vs h') : evS G F W (.for_ t it b) σ h = loopF t (fun σ h => evSs G F W b σ h) vs σ h' := by rw [evS, e]
theorem e_compF {tg : Tg} {it elt : Ex} {ifs : List Ex} {own : List Nat} {vs ws : List MV} {h'' : MH} (e : evI G F it σ h = .ok vs h') (q : loopC tg (fun σ h => evTs G F ifs σ h) (fun σ h => evE G F elt σ h) (wipeM σ own) vs [] h' = .ok ws h'') : evE G F (.comp false tg it ifs elt own) σ h = .ok (.lst ws) h'' := by
  unfold evI at e
  rw [evE]
  cases e0 : specB it with
  | true =>
    rw [e0] at e
    dsimp only at e ⊢
    rw [e]
    dsimp only
    rw [q]
  | false =>
    rw [e0] at e
    dsimp only at e ⊢
    rw [e]
    dsimp only
    rw [q]
end
section
variable {G : Gm} {F : Fn} {W : Nat} {σ σ' : MS} {h h1 h2 : MH} {v : MV} {vs : List MV} {e o c : Ex} {l : List Ex}
theorem y_mth {m : Mth} (e1 : evE G F o σ h = .ok v h1) (r : rcv m v h1 = true) (e2 : evL G F l σ h1 = .ok vs h2) : evE G F (.mth m o l) σ h = mth m v vs h2 := by
  rw [evE, e1]
  dsimp only
  rw [r]
  dsimp only
  rw [e2]
theorem y_one (e1 : evE G F e σ h = .ok v h1) : evL G F [e] σ h = .ok [v] h1 := by
  rw [evL, e1]
  rfl
theorem y_expr (e1 : evE G F e σ h = .ok v h1) : evS G F W (.expr e) σ h = .nx σ h1 := by
  rw [evS, e1]
theorem y_set {i : Nat} (e1 : evE G F e σ h = .ok v h1) : evS G F W (.set i e) σ h = .nx (σ.set i (some v)) h1 := by
  rw [evS, e1]
theorem y_unp {t : Tg} (e1 : evE G F e σ h = .ok v h1) (e2 : stT t v σ h1 = some σ') : evS G F W (.unp t e) σ h = .nx σ' h1 := by
  rw [evS, e1]
  dsimp only
  rw [e2]
theorem y_ifT {a b : List Sx} (e1 : evE G F c σ h = .ok v h1) (e2 : truth h1 v = some true) : evS G F W (.ifs c a b) σ h = evSs G F W a σ h1 := by
  rw [evS, e1]
  dsimp only
  rw [e2]
theorem y_ifF {a b : List Sx} (e1 : evE G F c σ h = .ok v h1) (e2 : truth h1 v = some false) : evS G F W (.ifs c a b) σ h = evSs G F W b σ h1 := by
  rw [evS, e1]
  dsimp only
  rw [e2]
theorem y_ret (e1 : evE G F e σ h = .ok v h1) : evS G F W (.ret e) σ h = .rt v h1 := by
  rw [evS, e1]
theorem y_nil : evSs G F W [] σ h = .nx σ h := by rw [evSs]
theorem y_last {s : Sx} {σ2 : MS} (e1 : evS G F W s σ h = .nx σ2 h1) : evSs G F W [s] σ h = .nx σ2 h1 := by
  rw [evSs, e1]
  exact y_nil
end
/-- the loops by invariants -/
theorem loopF_inv {α : Type} {t : Tg} {b : MS → MH → SR} {enc : α → MV} {R : MV → MH → Prop} (P : List α → MS → MH → Prop)
    (step : ∀ x xs σ h, P (x :: xs) σ h → ∃ σ', stT t (enc x) σ h = some σ' ∧ ((∃ σ2 h2, (b σ' h = .nx σ2 h2 ∨ b σ' h = .ct σ2 h2) ∧ P xs σ2 h2) ∨ (∃ σ2 h2, b σ' h = .bk σ2 h2 ∧ P [] σ2 h2) ∨ ∃ v h2, b σ' h = .rt v h2 ∧ R v h2)) :
    ∀ (xs : List α) (σ : MS) (h : MH), P xs σ h → (∃ σ2 h2, loopF t b (xs.map enc) σ h = .nx σ2 h2 ∧ P [] σ2 h2) ∨ ∃ v h2, loopF t b (xs.map enc) σ h = .rt v h2 ∧ R v h2 := by
  intro xs
  induction xs with
  | nil => intro σ h p; exact .inl ⟨σ, h, rfl, p⟩
  | cons x xs ih =>
    intro σ h p
    obtain ⟨σ', e1, r⟩ := step x xs σ h p
    have e2 : loopF t b ((x :: xs).map enc) σ h = (match b σ' h with
      | .nx σ2 h2 => loopF t b (xs.map enc) σ2 h2
      | .ct σ2 h2 => loopF t b (xs.map enc) σ2 h2
      | .bk σ2 h2 => .nx σ2 h2
      | r => r) := by
      rw [List.map_cons, loopF, e1]
      all_goals (dsimp only; cases b σ' h <;> rfl)
    rcases r with ⟨σ2, h2, r | r, q⟩ | ⟨σ2, h2, r, q⟩ | ⟨v, h2, r, q⟩
    · rw [e2, r]; exact ih σ2 h2 q
    · rw [e2, r]; exact ih σ2 h2 q
    · rw [e2, r]; exact .inl ⟨σ2, h2, rfl, q⟩
    · rw [e2, r]; exact .inr ⟨v, h2, rfl, q⟩
/-- a loop that folds -/
theorem loopF_fold {α S : Type} {t : Tg} {b : MS → MH → SR} {enc : α → MV} (f : S → α → S) (st : S → MS) (hp : S → MH) (Inv : List α → S → Prop)
    (step : ∀ x xs s, Inv (x :: xs) s → Inv xs (f s x) ∧ ∃ σ', stT t (enc x) (st s) (hp s) = some σ' ∧ b σ' (hp s) = .nx (st (f s x)) (hp (f s x))) :
    ∀ (xs : List α) (s : S), Inv xs s → loopF t b (xs.map enc) (st s) (hp s) = .nx (st (xs.foldl f s)) (hp (xs.foldl f s)) ∧ Inv [] (xs.foldl f s) := by
  intro xs
  induction xs with
  | nil => intro s i; exact ⟨rfl, i⟩
  | cons x xs ih =>
    intro s i
    obtain ⟨i', σ', e1, e2⟩ := step x xs s i
    rw [List.map_cons, loopF, e1]
    dsimp only
    rw [e2]
    exact ih _ i'
/-- a comprehension that maps and picks -/
theorem loopC_fm {α : Type} {t : Tg} {tt e : MS → MH → Out MV} {enc : α → MV} {σ : MS} {h : MH} (p : α → Bool) (g : α → MV) :
    ∀ (xs : List α) (acc : List MV), (∀ x ∈ xs, ∃ σ', stT t (enc x) σ h = some σ' ∧ tt σ' h = .ok (.bl (p x)) h ∧ (p x = true → e σ' h = .ok (g x) h)) → acc.length + xs.length ≤ 100000 →
      loopC t tt e σ (xs.map enc) acc h = .ok (acc ++ (xs.filter p).map g) h
  | [], acc, _, _ => by simp [loopC]
  | x :: xs, acc, st, hl => by
    obtain ⟨σ', e1, e2, e3⟩ := st x (List.mem_cons_self ..)
    have hl' : acc.length < 100000 := by simp at hl; omega
    rw [List.map_cons, loopC, e1]
    dsimp only
    rw [e2]
    dsimp only [truth]
    cases c : p x with
    | true =>
      dsimp only
      rw [e3 c]
      dsimp only
      rw [if_pos (decide_eq_true hl'), loopC_fm p g xs (acc ++ [g x]) (fun y hy => st y (List.mem_cons_of_mem _ hy)) (by simp at hl ⊢; omega)]
      simp [c]
    | false =>
      dsimp only
      rw [loopC_fm p g xs acc (fun y hy => st y (List.mem_cons_of_mem _ hy)) (by simp at hl ⊢; omega)]
      simp [c]
theorem loopC_map {α : Type} {t : Tg} {tt e : MS → MH → Out MV} {enc : α → MV} {σ : MS} {h : MH} (g : α → MV) (xs : List α) (acc : List MV)
    (st : ∀ x ∈ xs, ∃ σ', stT t (enc x) σ h = some σ' ∧ tt σ' h = .ok (.bl true) h ∧ e σ' h = .ok (g x) h) (hl : acc.length + xs.length ≤ 100000) :
      loopC t tt e σ (xs.map enc) acc h = .ok (acc ++ xs.map g) h := by
  have := loopC_fm (t := t) (tt := tt) (e := e) (enc := enc) (σ := σ) (h := h) (fun _ => true) g xs acc (fun x hx => by obtain ⟨σ', a, b, c⟩ := st x hx; exact ⟨σ', a, b, fun _ => c⟩) hl
  rw [this]
  congr 3
  exact List.filter_eq_self.mpr fun _ _ => rfl
theorem loopW_mono (c : MS → MH → Out MV) (b : MS → MH → SR) : ∀ (n m : Nat) (σ : MS) (h : MH) (σ' : MS) (h' : MH), loopW c b n σ h = .nx σ' h' → loopW c b (m + n) σ h = .nx σ' h' := by
  intro n
  induction n with
  | zero => intro m σ h σ' h' z; cases z
  | succ n ih =>
    intro m σ h σ' h' z
    show loopW c b ((m + n) + 1) σ h = _
    rw [loopW] at z ⊢
    cases hc : c σ h with
    | bad => rw [hc] at z; cases z
    | ok v h1 =>
      rw [hc] at z
      dsimp only at z ⊢
      cases ht : truth h1 v with
      | none => rw [ht] at z; cases z
      | some t =>
        rw [ht] at z
        cases t with
        | false => exact z
        | true =>
          dsimp only at z ⊢
          cases hb : b σ h1 with
          | nx σ2 h2 => rw [hb] at z; exact ih _ _ _ _ _ z
          | ct σ2 h2 => rw [hb] at z; exact ih _ _ _ _ _ z
          | bk σ2 h2 => rw [hb] at z; exact z
          | rt v h => rw [hb] at z; cases z
          | bad => rw [hb] at z; cases z
/-- a while by a measure -/
theorem loopW_inv {S : Type} {c : MS → MH → Out MV} {b : MS → MH → SR} {R : MV → MH → Prop} (st : S → MS) (hp : S → MH) (m : S → Nat) (Inv : S → Prop) (E : S → Prop)
    (step : ∀ s, Inv s → (c (st s) (hp s) = .ok (.bl false) (hp s) ∧ E s) ∨ (c (st s) (hp s) = .ok (.bl true) (hp s) ∧ ((∃ s', b (st s) (hp s) = .nx (st s') (hp s') ∧ Inv s' ∧ m s' < m s) ∨ ∃ v h2, b (st s) (hp s) = .rt v h2 ∧ R v h2))) :
    ∀ (n : Nat) (s : S), Inv s → m s < n → (∃ s', loopW c b n (st s) (hp s) = .nx (st s') (hp s') ∧ E s') ∨ ∃ v h2, loopW c b n (st s) (hp s) = .rt v h2 ∧ R v h2 := by
  intro n
  induction n with
  | zero => intro s _ h; omega
  | succ n ih =>
    intro s i h
    rcases step s i with ⟨e, q⟩ | ⟨e, ⟨s', e2, i', lt⟩ | ⟨v, h2, e2, q⟩⟩
    · exact .inl ⟨s, by rw [loopW, e]; rfl, q⟩
    · have z : loopW c b (n + 1) (st s) (hp s) = loopW c b n (st s') (hp s') := by
        rw [loopW, e]
        dsimp only [truth]
        rw [e2]
      rw [z]
      exact ih s' i' (by omega)
    · refine .inr ⟨v, h2, ?_, q⟩
      rw [loopW, e]
      dsimp only [truth]
      rw [e2]
/-! ### reading and storing -/
theorem evI_rng1 {G : Gm} {F : Fn} {a : Ex} {σ : MS} {h h' : MH} {j : Int} (e : evE G F a σ h = .ok (.int j) h') (m : mid j = true) : evI G F (.rng1 a) σ h = .ok (rngM 0 j.toNat) h' := by
  unfold evI
  dsimp only [specB]
  rw [evR, e]
  dsimp only
  rw [if_pos m]
theorem mid_of {j : Int} (h0 : 0 ≤ j) (h1 : j < 1000000000) : mid j = true := by
  unfold mid
  rw [Bool.and_eq_true, decide_eq_true_eq, decide_eq_true_eq]
  omega
theorem evI_rngN {G : Gm} {F : Fn} {a : Ex} {σ : MS} {h h' : MH} {n : Nat} (e : evE G F a σ h = .ok (.int n) h') (hn : n < 1000000000) : evI G F (.rng1 a) σ h = .ok (rngM 0 n) h' :=
  evI_rng1 e (mid_of (by omega) (by omega))
theorem rngM_map' : ∀ (n lo : Nat), rngM lo n = (List.range' lo n).map fun k => .int (k : Nat)
  | 0, lo => rfl
  | n + 1, lo => by
    rw [rngM, List.range'_succ, List.map_cons, ← rngM_map' n (lo + 1)]
    rfl
theorem gt0 {G : Gm} {x : MV} {l : List MV} {h : MH} : getIx G (.tup (x :: l)) (.int 0) h = .ok x h := by
  have : atI (x :: l) 0 = some x := by
    unfold atI ixN
    rw [if_pos (by omega), if_pos (by simp only [List.length_cons]; omega)]
    rfl
  show (match atI (x :: l) 0 with | some v => Out.ok v h | none => .bad) = _
  rw [this]
theorem atN {l : List MV} {i : Nat} {v : MV} (e : l[i]? = some v) : atI l (i : Int) = some v := by
  have hi : i < l.length := (List.getElem?_eq_some_iff.mp e).1
  unfold atI ixN
  rw [if_pos (by omega), if_pos (by omega)]
  simpa using e
theorem gtN {G : Gm} {l : List MV} {i : Nat} {v : MV} {h : MH} (e : l[i]? = some v) : getIx G (.tup l) (.int i) h = .ok v h := by
  show (match atI l i with | some v => Out.ok v h | none => .bad) = _
  rw [atN e]
theorem glN {G : Gm} {l : List MV} {i : Nat} {v : MV} {h : MH} (e : l[i]? = some v) : getIx G (.lst l) (.int i) h = .ok v h := by
  show (match atI l i with | some v => Out.ok v h | none => .bad) = _
  rw [atN e]
theorem gcN {G : Gm} {l : List MV} {i p : Nat} {v : MV} {h : MH} (hp : h[p]? = some (.lst l)) (e : l[i]? = some v) : getIx G (.loc p) (.int i) h = .ok v h := by
  show (match (match h[p]? with | some (.lst l) => some l | _ => none) with | some l => (match atI l i with | some v => Out.ok v h | none => .bad) | none => .bad) = _
  rw [hp]
  dsimp only
  rw [atN e]
theorem gt1 {G : Gm} {x y : MV} {l : List MV} {h : MH} : getIx G (.tup (x :: y :: l)) (.int 1) h = .ok y h := gtN (i := 1) rfl
theorem gt2 {G : Gm} {x y z : MV} {l : List MV} {h : MH} : getIx G (.tup (x :: y :: z :: l)) (.int 2) h = .ok z h := gtN (i := 2) rfl
theorem gt3 {G : Gm} {x y z u : MV} {l : List MV} {h : MH} : getIx G (.tup (x :: y :: z :: u :: l)) (.int 3) h = .ok u h := gtN (i := 3) rfl
theorem gl0 {G : Gm} {x : MV} {l : List MV} {h : MH} : getIx G (.lst (x :: l)) (.int 0) h = .ok x h := glN (i := 0) rfl
theorem gl1 {G : Gm} {x y : MV} {l : List MV} {h : MH} : getIx G (.lst (x :: y :: l)) (.int 1) h = .ok y h := glN (i := 1) rfl
theorem addI {x y : Int} {h : MH} : bop .add (.int x) (.int y) h = .ok (.int (x + y)) h := rfl
theorem subI {x y : Int} {h : MH} : bop .sub (.int x) (.int y) h = .ok (.int (x - y)) h := rfl
theorem addL {a b : List MV} {h : MH} (e : a.length + b.length ≤ 100000) : bop .add (.lst a) (.lst b) h = .ok (.lst (a ++ b)) h := by
  unfold bop
  simp only [e, decide_true, if_true]
theorem addT {a b : List MV} {h : MH} (e : a.length + b.length ≤ 100000) : bop .add (.tup a) (.tup b) h = .ok (.tup (a ++ b)) h := by
  unfold bop
  simp only [e, decide_true, if_true]
theorem cutTo {l : List MV} {n : Nat} (h : n ≤ l.length) : cutM l none (some n) = l.take n := by
  unfold cutM
  have e0 : HT.sIx l.length 0 none = 0 := rfl
  have e5 : HT.sIx l.length l.length (some n) = min n l.length := HT.sIx_nat _ _ n
  rw [e0, e5, List.drop_zero, Nat.sub_zero, Nat.min_eq_left h]
theorem cutFrom {l : List MV} {n : Nat} (h : n ≤ l.length) : cutM l (some n) none = l.drop n := by
  unfold cutM
  have e0 : HT.sIx l.length 0 (some n) = min n l.length := HT.sIx_nat _ _ n
  have e5 : HT.sIx l.length l.length none = l.length := rfl
  rw [e0, e5, Nat.min_eq_left h, List.take_of_length_le (by simp)]
theorem cutFT {l : List MV} {m n : Nat} (h : m ≤ l.length) (h2 : n ≤ l.length) : cutM l (some m) (some n) = (l.drop m).take (n - m) := by
  unfold cutM
  have e0 : HT.sIx l.length 0 (some m) = min m l.length := HT.sIx_nat _ _ m
  have e5 : HT.sIx l.length l.length (some n) = min n l.length := HT.sIx_nat _ _ n
  rw [e0, e5, Nat.min_eq_left h, Nat.min_eq_left h2]
end Mi

namespace Lw
open PySem PySem.Spec PyProof.Rows L2 Mi
theorem g_is_between : GG.defs[j_is_between]? = some ⟨3, 3, true, b_is_between, []⟩ := rfl
theorem r_is_between {W k : Nat} {a0 a1 a2 : MV} {h : MH} : runF GG W (k + 1) j_is_between [a0, a1, a2] h = fin (evSs GG (runF GG W k) W b_is_between [some a0, some a1, some a2] h) := rfl
theorem g_common : GG.defs[j_common]? = some ⟨2, 2, true, b_common, []⟩ := rfl
theorem r_common {W k : Nat} {a0 a1 : MV} {h : MH} : runF GG W (k + 1) j_common [a0, a1] h = fin (evSs GG (runF GG W k) W b_common [some a0, some a1] h) := rfl
theorem g_lowest : GG.defs[j_lowest]? = some ⟨2, 3, true, b_lowest, []⟩ := rfl
theorem r_lowest {W k : Nat} {a0 a1 : MV} {h : MH} : runF GG W (k + 1) j_lowest [a0, a1] h = fin (evSs GG (runF GG W k) W b_lowest [some a0, some a1, none] h) := rfl
theorem g_is_fraction : GG.defs[j_is_fraction]? = some ⟨1, 1, true, b_is_fraction, []⟩ := rfl
theorem r_is_fraction {W k : Nat} {a0 : MV} {h : MH} : runF GG W (k + 1) j_is_fraction [a0] h = fin (evSs GG (runF GG W k) W b_is_fraction [some a0] h) := rfl
theorem g_add : GG.defs[j_add]? = some ⟨2, 2, true, b_add, []⟩ := rfl
theorem r_add {W k : Nat} {a0 a1 : MV} {h : MH} : runF GG W (k + 1) j_add [a0, a1] h = fin (evSs GG (runF GG W k) W b_add [some a0, some a1] h) := rfl
theorem g_less : GG.defs[j_less]? = some ⟨2, 2, true, b_less, []⟩ := rfl
theorem r_less {W k : Nat} {a0 a1 : MV} {h : MH} : runF GG W (k + 1) j_less [a0, a1] h = fin (evSs GG (runF GG W k) W b_less [some a0, some a1] h) := rfl
theorem g_times : GG.defs[j_times]? = some ⟨2, 2, true, b_times, []⟩ := rfl
theorem r_times {W k : Nat} {a0 a1 : MV} {h : MH} : runF GG W (k + 1) j_times [a0, a1] h = fin (evSs GG (runF GG W k) W b_times [some a0, some a1] h) := rfl
theorem g_over : GG.defs[j_over]? = some ⟨2, 2, true, b_over, []⟩ := rfl
theorem r_over {W k : Nat} {a0 a1 : MV} {h : MH} : runF GG W (k + 1) j_over [a0, a1] h = fin (evSs GG (runF GG W k) W b_over [some a0, some a1] h) := rfl
theorem g_is_below : GG.defs[j_is_below]? = some ⟨2, 2, true, b_is_below, []⟩ := rfl
theorem r_is_below {W k : Nat} {a0 a1 : MV} {h : MH} : runF GG W (k + 1) j_is_below [a0, a1] h = fin (evSs GG (runF GG W k) W b_is_below [some a0, some a1] h) := rfl
theorem g_lesser : GG.defs[j_lesser]? = some ⟨2, 2, true, b_lesser, []⟩ := rfl
theorem r_lesser {W k : Nat} {a0 a1 : MV} {h : MH} : runF GG W (k + 1) j_lesser [a0, a1] h = fin (evSs GG (runF GG W k) W b_lesser [some a0, some a1] h) := rfl
theorem g_greater : GG.defs[j_greater]? = some ⟨2, 2, true, b_greater, []⟩ := rfl
theorem r_greater {W k : Nat} {a0 a1 : MV} {h : MH} : runF GG W (k + 1) j_greater [a0, a1] h = fin (evSs GG (runF GG W k) W b_greater [some a0, some a1] h) := rfl
theorem g_ordered : GG.defs[j_ordered]? = some ⟨1, 4, true, b_ordered, []⟩ := rfl
theorem r_ordered {W k : Nat} {a0 : MV} {h : MH} : runF GG W (k + 1) j_ordered [a0] h = fin (evSs GG (runF GG W k) W b_ordered [some a0, none, none, none] h) := rfl
theorem g_total : GG.defs[j_total]? = some ⟨1, 3, true, b_total, []⟩ := rfl
theorem r_total {W k : Nat} {a0 : MV} {h : MH} : runF GG W (k + 1) j_total [a0] h = fin (evSs GG (runF GG W k) W b_total [some a0, none, none] h) := rfl
theorem g_is_end : GG.defs[j_is_end]? = some ⟨1, 1, true, b_is_end, []⟩ := rfl
theorem r_is_end {W k : Nat} {a0 : MV} {h : MH} : runF GG W (k + 1) j_is_end [a0] h = fin (evSs GG (runF GG W k) W b_is_end [some a0] h) := rfl
theorem g_is_cost : GG.defs[j_is_cost]? = some ⟨1, 1, true, b_is_cost, []⟩ := rfl
theorem r_is_cost {W k : Nat} {a0 : MV} {h : MH} : runF GG W (k + 1) j_is_cost [a0] h = fin (evSs GG (runF GG W k) W b_is_cost [some a0] h) := rfl
theorem g_is_pair : GG.defs[j_is_pair]? = some ⟨1, 1, true, b_is_pair, []⟩ := rfl
theorem r_is_pair {W k : Nat} {a0 : MV} {h : MH} : runF GG W (k + 1) j_is_pair [a0] h = fin (evSs GG (runF GG W k) W b_is_pair [some a0] h) := rfl
theorem g_are_branches : GG.defs[j_are_branches]? = some ⟨1, 2, true, b_are_branches, []⟩ := rfl
theorem r_are_branches {W k : Nat} {a0 : MV} {h : MH} : runF GG W (k + 1) j_are_branches [a0] h = fin (evSs GG (runF GG W k) W b_are_branches [some a0, none] h) := rfl
theorem g_is_node : GG.defs[j_is_node]? = some ⟨2, 2, true, b_is_node, []⟩ := rfl
theorem r_is_node {W k : Nat} {a0 a1 : MV} {h : MH} : runF GG W (k + 1) j_is_node [a0, a1] h = fin (evSs GG (runF GG W k) W b_is_node [some a0, some a1] h) := rfl
theorem g_is_tree : GG.defs[j_is_tree]? = some ⟨2, 6, true, b_is_tree, []⟩ := rfl
theorem r_is_tree {W k : Nat} {a0 a1 : MV} {h : MH} : runF GG W (k + 1) j_is_tree [a0, a1] h = fin (evSs GG (runF GG W k) W b_is_tree [some a0, some a1, none, none, none, none] h) := rfl
theorem g_nodes_of : GG.defs[j_nodes_of]? = some ⟨1, 7, true, b_nodes_of, []⟩ := rfl
theorem r_nodes_of {W k : Nat} {a0 : MV} {h : MH} : runF GG W (k + 1) j_nodes_of [a0] h = fin (evSs GG (runF GG W k) W b_nodes_of [some a0, none, none, none, none, none, none] h) := rfl
theorem g_steps_in : GG.defs[j_steps_in]? = some ⟨1, 3, true, b_steps_in, []⟩ := rfl
theorem r_steps_in {W k : Nat} {a0 : MV} {h : MH} : runF GG W (k + 1) j_steps_in [a0] h = fin (evSs GG (runF GG W k) W b_steps_in [some a0, none, none] h) := rfl
theorem g_text_of : GG.defs[j_text_of]? = some ⟨1, 3, true, b_text_of, []⟩ := rfl
theorem r_text_of {W k : Nat} {a0 : MV} {h : MH} : runF GG W (k + 1) j_text_of [a0] h = fin (evSs GG (runF GG W k) W b_text_of [some a0, none, none] h) := rfl
theorem g_Offer_init : GG.defs[j_Offer_init]? = some ⟨2, 4, false, b_Offer_init, []⟩ := rfl
theorem r_Offer_init {W k : Nat} {a0 a1 : MV} {h : MH} : runF GG W (k + 1) j_Offer_init [a0, a1] h = fin (evSs GG (runF GG W k) W b_Offer_init [some a0, some a1, none, none] h) := rfl
theorem i_Offer_init {F : Fn} {l : List MV} {h : MH} : callD GG F j_Offer_init l h = F j_Offer_init l h := rfl
theorem g_Offer_tree : GG.defs[j_Offer_tree]? = some ⟨1, 1, true, b_Offer_tree, []⟩ := rfl
theorem r_Offer_tree {W k : Nat} {a0 : MV} {h : MH} : runF GG W (k + 1) j_Offer_tree [a0] h = fin (evSs GG (runF GG W k) W b_Offer_tree [some a0] h) := rfl
theorem g_check_offer : GG.defs[j_check_offer]? = some ⟨1, 1, true, b_check_offer, []⟩ := rfl
theorem r_check_offer {W k : Nat} {a0 : MV} {h : MH} : runF GG W (k + 1) j_check_offer [a0] h = fin (evSs GG (runF GG W k) W b_check_offer [some a0] h) := rfl
theorem g_mean_above : GG.defs[j_mean_above]? = some ⟨2, 4, true, b_mean_above, []⟩ := rfl
theorem r_mean_above {W k : Nat} {a0 a1 : MV} {h : MH} : runF GG W (k + 1) j_mean_above [a0, a1] h = fin (evSs GG (runF GG W k) W b_mean_above [some a0, some a1, none, none] h) := rfl
theorem g_mixed : GG.defs[j_mixed]? = some ⟨1, 7, true, b_mixed, []⟩ := rfl
theorem r_mixed {W k : Nat} {a0 : MV} {h : MH} : runF GG W (k + 1) j_mixed [a0] h = fin (evSs GG (runF GG W k) W b_mixed [some a0, none, none, none, none, none, none] h) := rfl
theorem g_strike_in : GG.defs[j_strike_in]? = some ⟨2, 6, true, b_strike_in, []⟩ := rfl
theorem r_strike_in {W k : Nat} {a0 a1 : MV} {h : MH} : runF GG W (k + 1) j_strike_in [a0, a1] h = fin (evSs GG (runF GG W k) W b_strike_in [some a0, some a1, none, none, none, none] h) := rfl
theorem g_capped : GG.defs[j_capped]? = some ⟨2, 5, true, b_capped, []⟩ := rfl
theorem r_capped {W k : Nat} {a0 a1 : MV} {h : MH} : runF GG W (k + 1) j_capped [a0, a1] h = fin (evSs GG (runF GG W k) W b_capped [some a0, some a1, none, none, none] h) := rfl
theorem g_below : GG.defs[j_below]? = some ⟨1, 3, true, b_below, []⟩ := rfl
theorem r_below {W k : Nat} {a0 : MV} {h : MH} : runF GG W (k + 1) j_below [a0] h = fin (evSs GG (runF GG W k) W b_below [some a0, none, none] h) := rfl
theorem g_strike_of : GG.defs[j_strike_of]? = some ⟨1, 1, true, b_strike_of, []⟩ := rfl
theorem r_strike_of {W k : Nat} {a0 : MV} {h : MH} : runF GG W (k + 1) j_strike_of [a0] h = fin (evSs GG (runF GG W k) W b_strike_of [some a0] h) := rfl
theorem g_table_of : GG.defs[j_table_of]? = some ⟨1, 1, true, b_table_of, []⟩ := rfl
theorem r_table_of {W k : Nat} {a0 : MV} {h : MH} : runF GG W (k + 1) j_table_of [a0] h = fin (evSs GG (runF GG W k) W b_table_of [some a0] h) := rfl
theorem g_places_of : GG.defs[j_places_of]? = some ⟨2, 6, true, b_places_of, []⟩ := rfl
theorem r_places_of {W k : Nat} {a0 a1 : MV} {h : MH} : runF GG W (k + 1) j_places_of [a0, a1] h = fin (evSs GG (runF GG W k) W b_places_of [some a0, some a1, none, none, none, none] h) := rfl
theorem g_first_unlike : GG.defs[j_first_unlike]? = some ⟨2, 3, true, b_first_unlike, []⟩ := rfl
theorem r_first_unlike {W k : Nat} {a0 a1 : MV} {h : MH} : runF GG W (k + 1) j_first_unlike [a0, a1] h = fin (evSs GG (runF GG W k) W b_first_unlike [some a0, some a1, none] h) := rfl
theorem g_first_less : GG.defs[j_first_less]? = some ⟨2, 3, true, b_first_less, []⟩ := rfl
theorem r_first_less {W k : Nat} {a0 a1 : MV} {h : MH} : runF GG W (k + 1) j_first_less [a0, a1] h = fin (evSs GG (runF GG W k) W b_first_less [some a0, some a1, none] h) := rfl
theorem g_tables : GG.defs[j_tables]? = some ⟨2, 2, true, b_tables, []⟩ := rfl
theorem r_tables {W k : Nat} {a0 a1 : MV} {h : MH} : runF GG W (k + 1) j_tables [a0, a1] h = fin (evSs GG (runF GG W k) W b_tables [some a0, some a1] h) := rfl
theorem g_chance_from : GG.defs[j_chance_from]? = some ⟨2, 5, true, b_chance_from, []⟩ := rfl
theorem r_chance_from {W k : Nat} {a0 a1 : MV} {h : MH} : runF GG W (k + 1) j_chance_from [a0, a1] h = fin (evSs GG (runF GG W k) W b_chance_from [some a0, some a1, none, none, none] h) := rfl
theorem g_mean_count : GG.defs[j_mean_count]? = some ⟨3, 11, true, b_mean_count, []⟩ := rfl
theorem r_mean_count {W k : Nat} {a0 a1 a2 : MV} {h : MH} : runF GG W (k + 1) j_mean_count [a0, a1, a2] h = fin (evSs GG (runF GG W k) W b_mean_count [some a0, some a1, some a2, none, none, none, none, none, none, none, none] h) := rfl
theorem g_topped : GG.defs[j_topped]? = some ⟨2, 8, true, b_topped, []⟩ := rfl
theorem r_topped {W k : Nat} {a0 a1 : MV} {h : MH} : runF GG W (k + 1) j_topped [a0, a1] h = fin (evSs GG (runF GG W k) W b_topped [some a0, some a1, none, none, none, none, none, none] h) := rfl
theorem g_chosen : GG.defs[j_chosen]? = some ⟨3, 7, true, b_chosen, []⟩ := rfl
theorem r_chosen {W k : Nat} {a0 a1 a2 : MV} {h : MH} : runF GG W (k + 1) j_chosen [a0, a1, a2] h = fin (evSs GG (runF GG W k) W b_chosen [some a0, some a1, some a2, none, none, none, none] h) := rfl
theorem g_share : GG.defs[j_share]? = some ⟨2, 4, true, b_share, []⟩ := rfl
theorem r_share {W k : Nat} {a0 a1 : MV} {h : MH} : runF GG W (k + 1) j_share [a0, a1] h = fin (evSs GG (runF GG W k) W b_share [some a0, some a1, none, none] h) := rfl
theorem g_certify_pair : GG.defs[j_certify_pair]? = some ⟨2, 5, true, b_certify_pair, []⟩ := rfl
theorem r_certify_pair {W k : Nat} {a0 a1 : MV} {h : MH} : runF GG W (k + 1) j_certify_pair [a0, a1] h = fin (evSs GG (runF GG W k) W b_certify_pair [some a0, some a1, none, none, none] h) := rfl
theorem g_is_row : GG.defs[j_is_row]? = some ⟨2, 3, true, b_is_row, []⟩ := rfl
theorem r_is_row {W k : Nat} {a0 a1 : MV} {h : MH} : runF GG W (k + 1) j_is_row [a0, a1] h = fin (evSs GG (runF GG W k) W b_is_row [some a0, some a1, none] h) := rfl
theorem g_first_bad_row : GG.defs[j_first_bad_row]? = some ⟨2, 4, true, b_first_bad_row, []⟩ := rfl
theorem r_first_bad_row {W k : Nat} {a0 a1 : MV} {h : MH} : runF GG W (k + 1) j_first_bad_row [a0, a1] h = fin (evSs GG (runF GG W k) W b_first_bad_row [some a0, some a1, none, none] h) := rfl
theorem g_Walk_init : GG.defs[j_Walk_init]? = some ⟨8, 8, false, b_Walk_init, []⟩ := rfl
theorem r_Walk_init {W k : Nat} {a0 a1 a2 a3 a4 a5 a6 a7 : MV} {h : MH} : runF GG W (k + 1) j_Walk_init [a0, a1, a2, a3, a4, a5, a6, a7] h = fin (evSs GG (runF GG W k) W b_Walk_init [some a0, some a1, some a2, some a3, some a4, some a5, some a6, some a7] h) := rfl
theorem i_Walk_init {F : Fn} {l : List MV} {h : MH} : callD GG F j_Walk_init l h = F j_Walk_init l h := rfl
theorem g_numbers_at : GG.defs[j_numbers_at]? = some ⟨1, 3, true, b_numbers_at, []⟩ := rfl
theorem r_numbers_at {W k : Nat} {a0 : MV} {h : MH} : runF GG W (k + 1) j_numbers_at [a0] h = fin (evSs GG (runF GG W k) W b_numbers_at [some a0, none, none] h) := rfl
theorem g_rows_below : GG.defs[j_rows_below]? = some ⟨2, 7, true, b_rows_below, []⟩ := rfl
theorem r_rows_below {W k : Nat} {a0 a1 : MV} {h : MH} : runF GG W (k + 1) j_rows_below [a0, a1] h = fin (evSs GG (runF GG W k) W b_rows_below [some a0, some a1, none, none, none, none, none] h) := rfl
theorem g_put : GG.defs[j_put]? = some ⟨3, 3, true, b_put, []⟩ := rfl
theorem r_put {W k : Nat} {a0 a1 a2 : MV} {h : MH} : runF GG W (k + 1) j_put [a0, a1, a2] h = fin (evSs GG (runF GG W k) W b_put [some a0, some a1, some a2] h) := rfl
theorem g_walks_on : GG.defs[j_walks_on]? = some ⟨2, 14, true, b_walks_on, []⟩ := rfl
theorem r_walks_on {W k : Nat} {a0 a1 : MV} {h : MH} : runF GG W (k + 1) j_walks_on [a0, a1] h = fin (evSs GG (runF GG W k) W b_walks_on [some a0, some a1, none, none, none, none, none, none, none, none, none, none, none, none] h) := rfl
theorem g_all_walks : GG.defs[j_all_walks]? = some ⟨3, 9, true, b_all_walks, []⟩ := rfl
theorem r_all_walks {W k : Nat} {a0 a1 a2 : MV} {h : MH} : runF GG W (k + 1) j_all_walks [a0, a1, a2] h = fin (evSs GG (runF GG W k) W b_all_walks [some a0, some a1, some a2, none, none, none, none, none, none] h) := rfl
theorem g_last_walks : GG.defs[j_last_walks]? = some ⟨3, 5, true, b_last_walks, []⟩ := rfl
theorem r_last_walks {W k : Nat} {a0 a1 a2 : MV} {h : MH} : runF GG W (k + 1) j_last_walks [a0, a1, a2] h = fin (evSs GG (runF GG W k) W b_last_walks [some a0, some a1, some a2, none, none] h) := rfl
theorem g_taken_in : GG.defs[j_taken_in]? = some ⟨2, 6, true, b_taken_in, []⟩ := rfl
theorem r_taken_in {W k : Nat} {a0 a1 : MV} {h : MH} : runF GG W (k + 1) j_taken_in [a0, a1] h = fin (evSs GG (runF GG W k) W b_taken_in [some a0, some a1, none, none, none, none] h) := rfl
theorem g_gain_in : GG.defs[j_gain_in]? = some ⟨2, 3, true, b_gain_in, []⟩ := rfl
theorem r_gain_in {W k : Nat} {a0 a1 : MV} {h : MH} : runF GG W (k + 1) j_gain_in [a0, a1] h = fin (evSs GG (runF GG W k) W b_gain_in [some a0, some a1, none] h) := rfl
theorem g_gain_of : GG.defs[j_gain_of]? = some ⟨3, 4, true, b_gain_of, []⟩ := rfl
theorem r_gain_of {W k : Nat} {a0 a1 a2 : MV} {h : MH} : runF GG W (k + 1) j_gain_of [a0, a1, a2] h = fin (evSs GG (runF GG W k) W b_gain_of [some a0, some a1, some a2, none] h) := rfl
theorem g_are_trees : GG.defs[j_are_trees]? = some ⟨1, 2, true, b_are_trees, []⟩ := rfl
theorem r_are_trees {W k : Nat} {a0 : MV} {h : MH} : runF GG W (k + 1) j_are_trees [a0] h = fin (evSs GG (runF GG W k) W b_are_trees [some a0, none] h) := rfl
theorem g_is_about_two : GG.defs[j_is_about_two]? = some ⟨1, 1, true, b_is_about_two, []⟩ := rfl
theorem r_is_about_two {W k : Nat} {a0 : MV} {h : MH} : runF GG W (k + 1) j_is_about_two [a0] h = fin (evSs GG (runF GG W k) W b_is_about_two [some a0] h) := rfl
theorem g_is_claim : GG.defs[j_is_claim]? = some ⟨1, 1, true, b_is_claim, []⟩ := rfl
theorem r_is_claim {W k : Nat} {a0 : MV} {h : MH} : runF GG W (k + 1) j_is_claim [a0] h = fin (evSs GG (runF GG W k) W b_is_claim [some a0] h) := rfl
theorem g_bounded : GG.defs[j_bounded]? = some ⟨2, 9, true, b_bounded, []⟩ := rfl
theorem r_bounded {W k : Nat} {a0 a1 : MV} {h : MH} : runF GG W (k + 1) j_bounded [a0, a1] h = fin (evSs GG (runF GG W k) W b_bounded [some a0, some a1, none, none, none, none, none, none, none] h) := rfl
theorem g_is_bound : GG.defs[j_is_bound]? = some ⟨4, 8, true, b_is_bound, []⟩ := rfl
theorem r_is_bound {W k : Nat} {a0 a1 a2 a3 : MV} {h : MH} : runF GG W (k + 1) j_is_bound [a0, a1, a2, a3] h = fin (evSs GG (runF GG W k) W b_is_bound [some a0, some a1, some a2, some a3, none, none, none, none] h) := rfl
theorem g_accepts : GG.defs[j_accepts]? = some ⟨2, 4, false, b_accepts, []⟩ := rfl
theorem r_accepts {W k : Nat} {a0 a1 : MV} {h : MH} : runF GG W (k + 1) j_accepts [a0, a1] h = fin (evSs GG (runF GG W k) W b_accepts [some a0, some a1, none, none] h) := rfl
theorem i_accepts {F : Fn} {l : List MV} {h : MH} : callD GG F j_accepts l h = F j_accepts l h := rfl
theorem g_l_tray : GG.defs[j_l_tray]? = some ⟨2, 5, false, b_l_tray, []⟩ := rfl
theorem r_l_tray {W k : Nat} {a0 a1 : MV} {h : MH} : runF GG W (k + 1) j_l_tray [a0, a1] h = fin (evSs GG (runF GG W k) W b_l_tray [some a0, some a1, none, none, none] h) := rfl
theorem i_l_tray {F : Fn} {l : List MV} {h : MH} : callD GG F j_l_tray l h = F j_l_tray l h := rfl
theorem g_l_spoon : GG.defs[j_l_spoon]? = some ⟨2, 4, false, b_l_spoon, []⟩ := rfl
theorem r_l_spoon {W k : Nat} {a0 a1 : MV} {h : MH} : runF GG W (k + 1) j_l_spoon [a0, a1] h = fin (evSs GG (runF GG W k) W b_l_spoon [some a0, some a1, none, none] h) := rfl
theorem i_l_spoon {F : Fn} {l : List MV} {h : MH} : callD GG F j_l_spoon l h = F j_l_spoon l h := rfl
theorem g_l_pick : GG.defs[j_l_pick]? = some ⟨2, 2, false, b_l_pick, []⟩ := rfl
theorem r_l_pick {W k : Nat} {a0 a1 : MV} {h : MH} : runF GG W (k + 1) j_l_pick [a0, a1] h = fin (evSs GG (runF GG W k) W b_l_pick [some a0, some a1] h) := rfl
theorem i_l_pick {F : Fn} {l : List MV} {h : MH} : callD GG F j_l_pick l h = F j_l_pick l h := rfl
theorem g_l_low : GG.defs[j_l_low]? = some ⟨2, 4, true, b_l_low, []⟩ := rfl
theorem r_l_low {W k : Nat} {a0 a1 : MV} {h : MH} : runF GG W (k + 1) j_l_low [a0, a1] h = fin (evSs GG (runF GG W k) W b_l_low [some a0, some a1, none, none] h) := rfl
theorem g_l_sum : GG.defs[j_l_sum]? = some ⟨2, 2, true, b_l_sum, []⟩ := rfl
theorem r_l_sum {W k : Nat} {a0 a1 : MV} {h : MH} : runF GG W (k + 1) j_l_sum [a0, a1] h = fin (evSs GG (runF GG W k) W b_l_sum [some a0, some a1] h) := rfl
theorem g_l_gap : GG.defs[j_l_gap]? = some ⟨2, 2, true, b_l_gap, []⟩ := rfl
theorem r_l_gap {W k : Nat} {a0 a1 : MV} {h : MH} : runF GG W (k + 1) j_l_gap [a0, a1] h = fin (evSs GG (runF GG W k) W b_l_gap [some a0, some a1] h) := rfl
theorem g_l_times : GG.defs[j_l_times]? = some ⟨2, 2, true, b_l_times, []⟩ := rfl
theorem r_l_times {W k : Nat} {a0 a1 : MV} {h : MH} : runF GG W (k + 1) j_l_times [a0, a1] h = fin (evSs GG (runF GG W k) W b_l_times [some a0, some a1] h) := rfl
theorem g_l_under : GG.defs[j_l_under]? = some ⟨2, 2, true, b_l_under, []⟩ := rfl
theorem r_l_under {W k : Nat} {a0 a1 : MV} {h : MH} : runF GG W (k + 1) j_l_under [a0, a1] h = fin (evSs GG (runF GG W k) W b_l_under [some a0, some a1] h) := rfl
theorem g_l_bush : GG.defs[j_l_bush]? = some ⟨2, 5, false, b_l_bush, []⟩ := rfl
theorem r_l_bush {W k : Nat} {a0 a1 : MV} {h : MH} : runF GG W (k + 1) j_l_bush [a0, a1] h = fin (evSs GG (runF GG W k) W b_l_bush [some a0, some a1, none, none, none] h) := rfl
theorem i_l_bush {F : Fn} {l : List MV} {h : MH} : callD GG F j_l_bush l h = F j_l_bush l h := rfl
theorem g_l_mix : GG.defs[j_l_mix]? = some ⟨1, 7, true, b_l_mix, []⟩ := rfl
theorem r_l_mix {W k : Nat} {a0 : MV} {h : MH} : runF GG W (k + 1) j_l_mix [a0] h = fin (evSs GG (runF GG W k) W b_l_mix [some a0, none, none, none, none, none, none] h) := rfl
theorem g_l_strike : GG.defs[j_l_strike]? = some ⟨1, 10, true, b_l_strike, []⟩ := rfl
theorem r_l_strike {W k : Nat} {a0 : MV} {h : MH} : runF GG W (k + 1) j_l_strike [a0] h = fin (evSs GG (runF GG W k) W b_l_strike [some a0, none, none, none, none, none, none, none, none, none] h) := rfl
theorem g_l_caps : GG.defs[j_l_caps]? = some ⟨1, 4, true, b_l_caps, []⟩ := rfl
theorem r_l_caps {W k : Nat} {a0 : MV} {h : MH} : runF GG W (k + 1) j_l_caps [a0] h = fin (evSs GG (runF GG W k) W b_l_caps [some a0, none, none, none] h) := rfl
theorem g_l_above : GG.defs[j_l_above]? = some ⟨2, 5, true, b_l_above, []⟩ := rfl
theorem r_l_above {W k : Nat} {a0 a1 : MV} {h : MH} : runF GG W (k + 1) j_l_above [a0, a1] h = fin (evSs GG (runF GG W k) W b_l_above [some a0, some a1, none, none, none] h) := rfl
theorem g_l_near : GG.defs[j_l_near]? = some ⟨2, 5, false, b_l_near, []⟩ := rfl
theorem r_l_near {W k : Nat} {a0 a1 : MV} {h : MH} : runF GG W (k + 1) j_l_near [a0, a1] h = fin (evSs GG (runF GG W k) W b_l_near [some a0, some a1, none, none, none] h) := rfl
theorem i_l_near {F : Fn} {l : List MV} {h : MH} : callD GG F j_l_near l h = F j_l_near l h := rfl
theorem g_l_due : GG.defs[j_l_due]? = some ⟨2, 11, true, b_l_due, []⟩ := rfl
theorem r_l_due {W k : Nat} {a0 a1 : MV} {h : MH} : runF GG W (k + 1) j_l_due [a0, a1] h = fin (evSs GG (runF GG W k) W b_l_due [some a0, some a1, none, none, none, none, none, none, none, none, none] h) := rfl
theorem g_l_right : GG.defs[j_l_right]? = some ⟨1, 10, false, b_l_right, []⟩ := rfl
theorem r_l_right {W k : Nat} {a0 : MV} {h : MH} : runF GG W (k + 1) j_l_right [a0] h = fin (evSs GG (runF GG W k) W b_l_right [some a0, none, none, none, none, none, none, none, none, none] h) := rfl
theorem i_l_right {F : Fn} {l : List MV} {h : MH} : callD GG F j_l_right l h = F j_l_right l h := rfl
theorem g_law : GG.defs[j_law]? = some ⟨1, 4, false, b_law, []⟩ := rfl
theorem r_law {W k : Nat} {a0 : MV} {h : MH} : runF GG W (k + 1) j_law [a0] h = fin (evSs GG (runF GG W k) W b_law [some a0, none, none, none] h) := rfl
theorem i_law {F : Fn} {l : List MV} {h : MH} : callD GG F j_law l h = F j_law l h := rfl
abbrev k_ZERO : Nat := 0
theorem glo_ZERO : GG.glo[k_ZERO]? = some (.tup [.int 0, .int 1]) := rfl
abbrev k_ONE : Nat := 1
theorem glo_ONE : GG.glo[k_ONE]? = some (.tup [.int 1, .int 1]) := rfl
abbrev k_MOST_NODES : Nat := 2
theorem glo_MOST_NODES : GG.glo[k_MOST_NODES]? = some (.int 15) := rfl
abbrev k_MOST_BRANCHES : Nat := 3
theorem glo_MOST_BRANCHES : GG.glo[k_MOST_BRANCHES]? = some (.int 5) := rfl
abbrev k_MOST_WORTH : Nat := 4
theorem glo_MOST_WORTH : GG.glo[k_MOST_WORTH]? = some (.int 1000000) := rfl
abbrev k_MOST_COST : Nat := 5
theorem glo_MOST_COST : GG.glo[k_MOST_COST]? = some (.int 1000000) := rfl
abbrev k_MOST_WEIGHT : Nat := 6
theorem glo_MOST_WEIGHT : GG.glo[k_MOST_WEIGHT]? = some (.int 1000) := rfl
abbrev k_MOST_OFFERS : Nat := 7
theorem glo_MOST_OFFERS : GG.glo[k_MOST_OFFERS]? = some (.int 4) := rfl
abbrev k_MOST_PICKS : Nat := 8
theorem glo_MOST_PICKS : GG.glo[k_MOST_PICKS]? = some (.int 3) := rfl
abbrev k_LENGTHS : Nat := 9
theorem glo_LENGTHS : GG.glo[k_LENGTHS]? = some (.kd 0) := rfl
abbrev k_is_cost : Nat := 10
theorem glo_is_cost : GG.glo[k_is_cost]? = some (.fn 14) := rfl
end Lw

namespace Lw
open PySem PySem.Spec PyProof.Rows L2 Mi
theorem okLw : LL.ok = true := by kernel_rfl
theorem bn0 : BnP f0 [("value" : Str), ("least" : Str), ("most" : Str)] := fun _ _ _ _ _ _ us hl => match us, hl with | [_, _, _], _ => by kernel_rfl
theorem bn1 : BnP f1 [("first" : Str), ("last" : Str)] := fun _ _ _ _ _ _ us hl => match us, hl with | [_, _], _ => by kernel_rfl
theorem bn2 : BnP f2 [("top" : Str), ("bottom" : Str)] := fun _ _ _ _ _ _ us hl => match us, hl with | [_, _], _ => by kernel_rfl
theorem bn3 : BnP f3 [("value" : Str)] := fun _ _ _ _ _ _ us hl => match us, hl with | [_], _ => by kernel_rfl
theorem bn4 : BnP f4 [("one" : Str), ("other" : Str)] := fun _ _ _ _ _ _ us hl => match us, hl with | [_, _], _ => by kernel_rfl
theorem bn5 : BnP f5 [("one" : Str), ("other" : Str)] := fun _ _ _ _ _ _ us hl => match us, hl with | [_, _], _ => by kernel_rfl
theorem bn6 : BnP f6 [("one" : Str), ("other" : Str)] := fun _ _ _ _ _ _ us hl => match us, hl with | [_, _], _ => by kernel_rfl
theorem bn7 : BnP f7 [("one" : Str), ("other" : Str)] := fun _ _ _ _ _ _ us hl => match us, hl with | [_, _], _ => by kernel_rfl
theorem bn8 : BnP f8 [("one" : Str), ("other" : Str)] := fun _ _ _ _ _ _ us hl => match us, hl with | [_, _], _ => by kernel_rfl
theorem bn9 : BnP f9 [("one" : Str), ("other" : Str)] := fun _ _ _ _ _ _ us hl => match us, hl with | [_, _], _ => by kernel_rfl
theorem bn10 : BnP f10 [("one" : Str), ("other" : Str)] := fun _ _ _ _ _ _ us hl => match us, hl with | [_, _], _ => by kernel_rfl
theorem bn11 : BnP f11 [("some" : Str)] := fun _ _ _ _ _ _ us hl => match us, hl with | [_], _ => by kernel_rfl
theorem bn12 : BnP f12 [("some" : Str)] := fun _ _ _ _ _ _ us hl => match us, hl with | [_], _ => by kernel_rfl
theorem bn13 : BnP f13 [("tree" : Str)] := fun _ _ _ _ _ _ us hl => match us, hl with | [_], _ => by kernel_rfl
theorem bn14 : BnP f14 [("value" : Str)] := fun _ _ _ _ _ _ us hl => match us, hl with | [_], _ => by kernel_rfl
theorem bn15 : BnP f15 [("value" : Str)] := fun _ _ _ _ _ _ us hl => match us, hl with | [_], _ => by kernel_rfl
theorem bn16 : BnP f16 [("value" : Str)] := fun _ _ _ _ _ _ us hl => match us, hl with | [_], _ => by kernel_rfl
theorem bn17 : BnP f17 [("value" : Str), ("is_right_cost" : Str)] := fun _ _ _ _ _ _ us hl => match us, hl with | [_, _], _ => by kernel_rfl
theorem bn18 : BnP f18 [("value" : Str), ("is_right_cost" : Str)] := fun _ _ _ _ _ _ us hl => match us, hl with | [_, _], _ => by kernel_rfl
theorem bn19 : BnP f19 [("tree" : Str)] := fun _ _ _ _ _ _ us hl => match us, hl with | [_], _ => by kernel_rfl
theorem bn20 : BnP f20 [("tree" : Str)] := fun _ _ _ _ _ _ us hl => match us, hl with | [_], _ => by kernel_rfl
theorem bn21 : BnP f21 [("tree" : Str)] := fun _ _ _ _ _ _ us hl => match us, hl with | [_], _ => by kernel_rfl
theorem bn22 : BnP f22 [("self" : Str), ("tree" : Str)] := fun _ _ _ _ _ _ us hl => match us, hl with | [_, _], _ => by kernel_rfl
theorem bn23 : BnP f23 [("self" : Str)] := fun _ _ _ _ _ _ us hl => match us, hl with | [_], _ => by kernel_rfl
theorem bn24 : BnP f24 [("value" : Str)] := fun _ _ _ _ _ _ us hl => match us, hl with | [_], _ => by kernel_rfl
theorem bn25 : BnP f25 [("found" : Str), ("number" : Str)] := fun _ _ _ _ _ _ us hl => match us, hl with | [_, _], _ => by kernel_rfl
theorem bn26 : BnP f26 [("parts" : Str)] := fun _ _ _ _ _ _ us hl => match us, hl with | [_], _ => by kernel_rfl
theorem bn27 : BnP f27 [("found" : Str), ("cost" : Str)] := fun _ _ _ _ _ _ us hl => match us, hl with | [_, _], _ => by kernel_rfl
theorem bn28 : BnP f28 [("found" : Str), ("number" : Str)] := fun _ _ _ _ _ _ us hl => match us, hl with | [_, _], _ => by kernel_rfl
theorem bn29 : BnP f29 [("tree" : Str)] := fun _ _ _ _ _ _ us hl => match us, hl with | [_], _ => by kernel_rfl
theorem bn30 : BnP f30 [("tree" : Str)] := fun _ _ _ _ _ _ us hl => match us, hl with | [_], _ => by kernel_rfl
theorem bn31 : BnP f31 [("tree" : Str)] := fun _ _ _ _ _ _ us hl => match us, hl with | [_], _ => by kernel_rfl
theorem bn32 : BnP f32 [("one" : Str), ("other" : Str)] := fun _ _ _ _ _ _ us hl => match us, hl with | [_, _], _ => by kernel_rfl
theorem bn33 : BnP f33 [("one" : Str), ("other" : Str)] := fun _ _ _ _ _ _ us hl => match us, hl with | [_, _], _ => by kernel_rfl
theorem bn34 : BnP f34 [("one" : Str), ("other" : Str)] := fun _ _ _ _ _ _ us hl => match us, hl with | [_, _], _ => by kernel_rfl
theorem bn35 : BnP f35 [("one" : Str), ("other" : Str)] := fun _ _ _ _ _ _ us hl => match us, hl with | [_, _], _ => by kernel_rfl
theorem bn36 : BnP f36 [("found" : Str), ("number" : Str)] := fun _ _ _ _ _ _ us hl => match us, hl with | [_, _], _ => by kernel_rfl
theorem bn37 : BnP f37 [("tables" : Str), ("number" : Str), ("picks" : Str)] := fun _ _ _ _ _ _ us hl => match us, hl with | [_, _, _], _ => by kernel_rfl
theorem bn38 : BnP f38 [("tables" : Str), ("picks" : Str)] := fun _ _ _ _ _ _ us hl => match us, hl with | [_, _], _ => by kernel_rfl
theorem bn39 : BnP f39 [("nodes" : Str), ("numbers" : Str), ("picks" : Str)] := fun _ _ _ _ _ _ us hl => match us, hl with | [_, _, _], _ => by kernel_rfl
theorem bn40 : BnP f40 [("weight" : Str), ("branches" : Str)] := fun _ _ _ _ _ _ us hl => match us, hl with | [_, _], _ => by kernel_rfl
theorem bn41 : BnP f41 [("one" : Str), ("other" : Str)] := fun _ _ _ _ _ _ us hl => match us, hl with | [_, _], _ => by kernel_rfl
theorem bn42 : BnP f42 [("value" : Str), ("tree" : Str)] := fun _ _ _ _ _ _ us hl => match us, hl with | [_, _], _ => by kernel_rfl
theorem bn43 : BnP f43 [("value" : Str), ("trees" : Str)] := fun _ _ _ _ _ _ us hl => match us, hl with | [_, _], _ => by kernel_rfl
theorem bn44 : BnP f44 [("self" : Str), ("places" : Str), ("stand" : Str), ("lists" : Str), ("chance" : Str), ("spent" : Str), ("many_gone" : Str), ("floors" : Str)] := fun _ _ _ _ _ _ us hl => match us, hl with | [_, _, _, _, _, _, _, _], _ => by kernel_rfl
theorem bn45 : BnP f45 [("walk" : Str)] := fun _ _ _ _ _ _ us hl => match us, hl with | [_], _ => by kernel_rfl
theorem bn46 : BnP f46 [("tree" : Str), ("row" : Str)] := fun _ _ _ _ _ _ us hl => match us, hl with | [_, _], _ => by kernel_rfl
theorem bn47 : BnP f47 [("some" : Str), ("index" : Str), ("value" : Str)] := fun _ _ _ _ _ _ us hl => match us, hl with | [_, _, _], _ => by kernel_rfl
theorem bn48 : BnP f48 [("walk" : Str), ("index" : Str)] := fun _ _ _ _ _ _ us hl => match us, hl with | [_, _], _ => by kernel_rfl
theorem bn49 : BnP f49 [("trees" : Str), ("rule" : Str), ("picks" : Str)] := fun _ _ _ _ _ _ us hl => match us, hl with | [_, _, _], _ => by kernel_rfl
theorem bn50 : BnP f50 [("trees" : Str), ("rule" : Str), ("picks" : Str)] := fun _ _ _ _ _ _ us hl => match us, hl with | [_, _, _], _ => by kernel_rfl
theorem bn51 : BnP f51 [("nodes" : Str), ("picks" : Str)] := fun _ _ _ _ _ _ us hl => match us, hl with | [_, _], _ => by kernel_rfl
theorem bn52 : BnP f52 [("walk" : Str), ("picks" : Str)] := fun _ _ _ _ _ _ us hl => match us, hl with | [_, _], _ => by kernel_rfl
theorem bn53 : BnP f53 [("trees" : Str), ("rule" : Str), ("picks" : Str)] := fun _ _ _ _ _ _ us hl => match us, hl with | [_, _, _], _ => by kernel_rfl
theorem bn54 : BnP f54 [("value" : Str)] := fun _ _ _ _ _ _ us hl => match us, hl with | [_], _ => by kernel_rfl
theorem bn55 : BnP f55 [("claim" : Str)] := fun _ _ _ _ _ _ us hl => match us, hl with | [_], _ => by kernel_rfl
theorem bn56 : BnP f56 [("claim" : Str)] := fun _ _ _ _ _ _ us hl => match us, hl with | [_], _ => by kernel_rfl
theorem bn57 : BnP f57 [("tree" : Str), ("row" : Str)] := fun _ _ _ _ _ _ us hl => match us, hl with | [_, _], _ => by kernel_rfl
theorem bn58 : BnP f58 [("trees" : Str), ("picks" : Str), ("number" : Str), ("paper" : Str)] := fun _ _ _ _ _ _ us hl => match us, hl with | [_, _, _, _], _ => by kernel_rfl
theorem bn59 : BnP f59 [("claim" : Str), ("paper" : Str)] := fun _ _ _ _ _ _ us hl => match us, hl with | [_, _], _ => by kernel_rfl
theorem bn60 : BnP f60 [("_law_script" : Str), ("_law_k" : Str)] := fun _ _ _ _ _ _ us hl => match us, hl with | [_, _], _ => by kernel_rfl
theorem bn61 : BnP f61 [("_law_tray_here" : Str), ("_law_top" : Str)] := fun _ _ _ _ _ _ us hl => match us, hl with | [_, _], _ => by kernel_rfl
theorem bn62 : BnP f62 [("_law_tray_here" : Str), ("_law_things" : Str)] := fun _ _ _ _ _ _ us hl => match us, hl with | [_, _], _ => by kernel_rfl
theorem bn63 : BnP f63 [("_law_top" : Str), ("_law_bottom" : Str)] := fun _ _ _ _ _ _ us hl => match us, hl with | [_, _], _ => by kernel_rfl
theorem bn64 : BnP f64 [("_law_a" : Str), ("_law_b" : Str)] := fun _ _ _ _ _ _ us hl => match us, hl with | [_, _], _ => by kernel_rfl
theorem bn65 : BnP f65 [("_law_a" : Str), ("_law_b" : Str)] := fun _ _ _ _ _ _ us hl => match us, hl with | [_, _], _ => by kernel_rfl
theorem bn66 : BnP f66 [("_law_a" : Str), ("_law_b" : Str)] := fun _ _ _ _ _ _ us hl => match us, hl with | [_, _], _ => by kernel_rfl
theorem bn67 : BnP f67 [("_law_a" : Str), ("_law_b" : Str)] := fun _ _ _ _ _ _ us hl => match us, hl with | [_, _], _ => by kernel_rfl
theorem bn68 : BnP f68 [("_law_tray_here" : Str), ("_law_deep" : Str)] := fun _ _ _ _ _ _ us hl => match us, hl with | [_, _], _ => by kernel_rfl
theorem bn69 : BnP f69 [("_law_bush_here" : Str)] := fun _ _ _ _ _ _ us hl => match us, hl with | [_], _ => by kernel_rfl
theorem bn70 : BnP f70 [("_law_bush_here" : Str)] := fun _ _ _ _ _ _ us hl => match us, hl with | [_], _ => by kernel_rfl
theorem bn71 : BnP f71 [("_law_bush_here" : Str)] := fun _ _ _ _ _ _ us hl => match us, hl with | [_], _ => by kernel_rfl
theorem bn72 : BnP f72 [("_law_pairs" : Str), ("_law_low_here" : Str)] := fun _ _ _ _ _ _ us hl => match us, hl with | [_, _], _ => by kernel_rfl
theorem bn73 : BnP f73 [("_law_tray_here" : Str), ("_law_bush_here" : Str)] := fun _ _ _ _ _ _ us hl => match us, hl with | [_, _], _ => by kernel_rfl
theorem bn74 : BnP f74 [("_law_near_here" : Str), ("_law_far" : Str)] := fun _ _ _ _ _ _ us hl => match us, hl with | [_, _], _ => by kernel_rfl
theorem bn75 : BnP f75 [("_law_tray_here" : Str)] := fun _ _ _ _ _ _ us hl => match us, hl with | [_], _ => by kernel_rfl
theorem bn76 : BnP f76 [("_law_script" : Str)] := fun _ _ _ _ _ _ us hl => match us, hl with | [_], _ => by kernel_rfl
theorem bnAll : BnAll LL.fn LL.nps := ⟨bn0, bn1, bn2, bn3, bn4, bn5, bn6, bn7, bn8, bn9, bn10, bn11, bn12, bn13, bn14, bn15, bn16, bn17, bn18, bn19, bn20, bn21, bn22, bn23, bn24, bn25, bn26, bn27, bn28, bn29, bn30, bn31, bn32, bn33, bn34, bn35, bn36, bn37, bn38, bn39, bn40, bn41, bn42, bn43, bn44, bn45, bn46, bn47, bn48, bn49, bn50, bn51, bn52, bn53, bn54, bn55, bn56, bn57, bn58, bn59, bn60, bn61, bn62, bn63, bn64, bn65, bn66, bn67, bn68, bn69, bn70, bn71, bn72, bn73, bn74, bn75, bn76, trivial⟩
theorem kw0 : KwP LL (41, 0, [("other" : Str), ("one" : Str)], [1, 0]) := by
  intro d dd np h1 h2 h3
  cases h1; cases h2; cases h3
  exact ⟨by kernel_rfl, fun _ _ _ _ _ _ us hl => match us, hl with | [_, _], _ => by kernel_rfl⟩
theorem kwAll : ∀ k ∈ LL.S.kws, KwP LL k := by
  intro k hk
  rcases List.mem_cons.mp hk with rfl | hk
  · exact kw0
  cases hk
end Lw

namespace Lw
/-! P1: tables of chances, plain. -/
def rsum : List Rat → Rat
  | [] => 0
  | a :: l => a + rsum l
theorem rsum_append (l m : List Rat) : rsum (l ++ m) = rsum l + rsum m := by
  induction l with
  | nil => simp [rsum]; grind
  | cons a l ih => simp only [List.cons_append, rsum, ih]; grind
theorem foldl_rsum (l : List Rat) (s : Rat) : l.foldl (· + ·) s = s + rsum l := by
  induction l generalizing s with
  | nil => simp [rsum]; grind
  | cons a l ih => simp only [List.foldl_cons, ih, rsum]; grind
/-- a table: numbers with chances -/
abbrev Tab := List (Rat × Rat)
def keys (t : Tab) : List Rat := t.map (·.1)
def E (f : Rat → Rat) (t : Tab) : Rat := rsum (t.map fun p => p.2 * f p.1)
theorem E_nil (f : Rat → Rat) : E f [] = 0 := rfl
theorem E_cons (f : Rat → Rat) (p : Rat × Rat) (t : Tab) : E f (p :: t) = p.2 * f p.1 + E f t := rfl
theorem E_append (f : Rat → Rat) (s t : Tab) : E f (s ++ t) = E f s + E f t := by
  unfold E; rw [List.map_append, rsum_append]
def getR (m : Tab) (q : Rat) : Option Rat := (m.find? fun p => decide (p.1 = q)).map (·.2)
def putR (m : Tab) (q v : Rat) : Tab := if m.any fun p => decide (p.1 = q) then m.map fun p => if p.1 = q then (p.1, v) else p else m ++ [(q, v)]
def addR (m : Tab) (q x : Rat) : Tab := putR m q ((getR m q).getD 0 + x)
theorem any_key {m : Tab} {q : Rat} : (m.any fun p => decide (p.1 = q)) = true ↔ q ∈ keys m := by
  simp [keys, List.any_eq_true]
theorem getR_none {m : Tab} {q : Rat} (h : q ∉ keys m) : getR m q = none := by
  unfold getR
  rw [Option.map_eq_none_iff, List.find?_eq_none]
  intro p hp e
  exact h (List.mem_map.mpr ⟨p, hp, by simpa using e⟩)
theorem getR_mem {m : Tab} {q x : Rat} (nd : (keys m).Nodup) (h : (q, x) ∈ m) : getR m q = some x := by
  induction m with
  | nil => cases h
  | cons p m ih =>
    have nd' : p.1 ∉ keys m ∧ (keys m).Nodup := List.nodup_cons.mp nd
    rcases List.mem_cons.mp h with rfl | h
    · simp [getR]
    · have hne : p.1 ≠ q := fun e => nd'.1 (e ▸ List.mem_map.mpr ⟨_, h, rfl⟩)
      have := ih nd'.2 h
      unfold getR at this ⊢
      rw [List.find?_cons]
      simp only [hne, decide_false]
      exact this
theorem keys_putR {m : Tab} {q v : Rat} : keys (putR m q v) = if q ∈ keys m then keys m else keys m ++ [q] := by
  unfold putR
  by_cases h : q ∈ keys m
  · rw [if_pos (any_key.mpr h), if_pos h]
    unfold keys
    rw [List.map_map]
    apply List.map_congr_left
    intro p _
    by_cases e : p.1 = q <;> simp [e]
  · rw [if_neg (fun z => h (any_key.mp z)), if_neg h]
    simp [keys]
theorem nodup_putR {m : Tab} {q v : Rat} (nd : (keys m).Nodup) : (keys (putR m q v)).Nodup := by
  rw [keys_putR]
  split
  · exact nd
  · rename_i h
    rw [List.nodup_append]
    refine ⟨nd, by simp, fun a ha b hb e => ?_⟩
    rw [List.mem_singleton] at hb
    subst hb e
    exact h ha
theorem mem_keys_putR {m : Tab} {q v a : Rat} : a ∈ keys (putR m q v) ↔ a ∈ keys m ∨ a = q := by
  rw [keys_putR]
  split
  · rename_i h
    constructor
    · exact .inl
    · rintro (h | rfl) <;> assumption
  · simp
theorem E_map_ne {f : Rat → Rat} {m : Tab} {q v : Rat} (h : q ∉ keys m) : E f (m.map fun p => if p.1 = q then (p.1, v) else p) = E f m := by
  congr 1
  conv => rhs; rw [← List.map_id m]
  apply List.map_congr_left
  intro p hp
  have : p.1 ≠ q := fun e => h (e ▸ List.mem_map.mpr ⟨p, hp, rfl⟩)
  simp [this]
theorem E_putR {f : Rat → Rat} {m : Tab} {q v : Rat} (nd : (keys m).Nodup) : E f (putR m q v) = E f m + (v - (getR m q).getD 0) * f q := by
  by_cases h : q ∈ keys m
  · unfold putR
    rw [if_pos (any_key.mpr h)]
    induction m with
    | nil => cases h
    | cons p m ih =>
      have nd' : p.1 ∉ keys m ∧ (keys m).Nodup := List.nodup_cons.mp nd
      rw [List.map_cons, E_cons, E_cons]
      by_cases e : p.1 = q
      · subst e
        rw [E_map_ne nd'.1]
        simp [getR]
        grind
      · have h' : q ∈ keys m := by
          rcases List.mem_cons.mp h with z | z
          · exact absurd z.symm e
          · exact z
        have g : getR (p :: m) q = getR m q := by unfold getR; rw [List.find?_cons]; simp [e]
        rw [ih nd'.2 h', g]
        simp [e]
        grind
  · unfold putR
    rw [if_neg (fun z => h (any_key.mp z)), E_append, getR_none h, E_cons, E_nil]
    simp
    grind
theorem E_addR {f : Rat → Rat} {m : Tab} {q x : Rat} (nd : (keys m).Nodup) : E f (addR m q x) = E f m + x * f q := by
  unfold addR
  rw [E_putR nd]
  grind
/-- many additions -/
def addAll (m : Tab) (l : Tab) : Tab := l.foldl (fun m p => addR m p.1 p.2) m
theorem addAll_ok {f : Rat → Rat} (l : Tab) : ∀ (m : Tab), (keys m).Nodup → (keys (addAll m l)).Nodup ∧ E f (addAll m l) = E f m + E f l ∧ ∀ a, a ∈ keys (addAll m l) ↔ a ∈ keys m ∨ a ∈ keys l := by
  induction l with
  | nil => intro m nd; exact ⟨nd, by simp [addAll, E_nil]; grind, fun a => by simp [addAll, keys]⟩
  | cons p l ih =>
    intro m nd
    obtain ⟨h1, h2, h3⟩ := ih (addR m p.1 p.2) (nodup_putR nd)
    refine ⟨h1, ?_, fun a => ?_⟩
    · show E f (addAll (addR m p.1 p.2) l) = _
      rw [h2, E_addR nd, E_cons]
      grind
    · show a ∈ keys (addAll (addR m p.1 p.2) l) ↔ _
      rw [h3]
      unfold addR
      rw [mem_keys_putR]
      simp [keys]
      grind
/-! ### order -/
def insQ (o : Rat) (l : List Rat) : List Rat := l.takeWhile (fun x => decide (x < o)) ++ o :: l.dropWhile (fun x => decide (x < o))
def sortQ (l : List Rat) : List Rat := l.foldl (fun f o => insQ o f) []
theorem mem_insQ {a o : Rat} {l : List Rat} : a ∈ insQ o l ↔ a = o ∨ a ∈ l := by
  unfold insQ
  rw [List.mem_append, List.mem_cons]
  conv => rhs; rw [← List.takeWhile_append_dropWhile (p := fun x => decide (x < o)) (l := l), List.mem_append]
  grind
theorem insQ_cons {o a : Rat} {l : List Rat} : insQ o (a :: l) = if a < o then a :: insQ o l else o :: a :: l := by
  unfold insQ
  by_cases h : a < o
  · simp [List.takeWhile_cons, List.dropWhile_cons, h]
  · simp [List.takeWhile_cons, List.dropWhile_cons, h]
theorem insQ_sorted {o : Rat} {l : List Rat} (h : l.Pairwise (· < ·)) (n : o ∉ l) : (insQ o l).Pairwise (· < ·) := by
  induction l with
  | nil => simp [insQ]
  | cons a l ih =>
    rw [insQ_cons]
    obtain ⟨h1, h2⟩ := List.pairwise_cons.mp h
    split
    · rename_i lt
      refine List.pairwise_cons.mpr ⟨fun b hb => ?_, ih h2 fun z => n (List.mem_cons_of_mem _ z)⟩
      rcases mem_insQ.mp hb with rfl | hb
      · exact lt
      · exact h1 b hb
    · rename_i nl
      have ne : o ≠ a := fun e => n (e ▸ List.mem_cons_self ..)
      refine List.pairwise_cons.mpr ⟨fun b hb => ?_, h⟩
      have : o < a := by grind
      rcases List.mem_cons.mp hb with rfl | hb
      · exact this
      · have := h1 b hb; grind
theorem sortQ_ok (l : List Rat) : ∀ (acc : List Rat), acc.Pairwise (· < ·) → (∀ a ∈ l, a ∉ acc) → l.Nodup → (l.foldl (fun f o => insQ o f) acc).Pairwise (· < ·) ∧ ∀ a, a ∈ l.foldl (fun f o => insQ o f) acc ↔ a ∈ acc ∨ a ∈ l := by
  induction l with
  | nil => intro acc h _ _; exact ⟨h, fun a => by simp⟩
  | cons x l ih =>
    intro acc h n nd
    obtain ⟨nd1, nd2⟩ := List.nodup_cons.mp nd
    obtain ⟨q1, q2⟩ := ih (insQ x acc) (insQ_sorted h (n x (List.mem_cons_self ..))) (fun a ha z => by
      rcases mem_insQ.mp z with rfl | z
      · exact nd1 ha
      · exact n a (List.mem_cons_of_mem _ ha) z) nd2
    refine ⟨q1, fun a => ?_⟩
    rw [List.foldl_cons, q2, mem_insQ, List.mem_cons]
    grind
theorem sortQ_sorted {l : List Rat} (nd : l.Nodup) : (sortQ l).Pairwise (· < ·) := (sortQ_ok l [] List.Pairwise.nil (fun _ _ => List.not_mem_nil) nd).1
theorem mem_sortQ {l : List Rat} (nd : l.Nodup) {a : Rat} : a ∈ sortQ l ↔ a ∈ l := by
  have := (sortQ_ok l [] List.Pairwise.nil (fun _ _ => List.not_mem_nil) nd).2 a
  unfold sortQ
  rw [this]
  simp
theorem nodup_of_lt {l : List Rat} (h : l.Pairwise (· < ·)) : l.Nodup := by
  refine List.Pairwise.imp ?_ h
  intro a b h e
  subst e
  exact Rat.lt_irrefl h
/-- a dict as a table -/
def tabOf (m : Tab) : Tab := (sortQ (keys m)).map fun v => (v, (getR m v).getD 0)
theorem keys_tabOf (m : Tab) : keys (tabOf m) = sortQ (keys m) := by
  unfold keys tabOf
  rw [List.map_map]
  exact List.map_id _
theorem rsum_perm {l m : List Rat} (h : l.Perm m) : rsum l = rsum m := by
  induction h with
  | nil => rfl
  | cons a _ ih => simp only [rsum, ih]
  | swap a b l => simp only [rsum]; grind
  | trans _ _ i j => exact i.trans j
theorem E_tabOf {f : Rat → Rat} {m : Tab} (nd : (keys m).Nodup) : E f (tabOf m) = E f m := by
  have p : (sortQ (keys m)).Perm (keys m) := (List.perm_ext_iff_of_nodup (nodup_of_lt (sortQ_sorted nd)) nd).mpr fun a => mem_sortQ nd
  unfold E tabOf
  rw [List.map_map]
  rw [rsum_perm (p.map _)]
  congr 1
  unfold keys
  rw [List.map_map]
  apply List.map_congr_left
  intro x hx
  have := getR_mem nd (q := x.1) (x := x.2) hx
  simp [this]
/-! ### rests -/
def pos (x : Rat) : Rat := if 0 < x then x else 0
theorem pos_nn (x : Rat) : 0 ≤ pos x := by unfold pos; split <;> grind
def rst (t : Tab) (m : Rat) : Rat := E (fun v => pos (v - m)) t
def mass (t : Tab) : Rat := E (fun _ => 1) t
def mean (t : Tab) : Rat := E (fun v => v) t
/-- all chances above 0 -/
def Pos (t : Tab) : Prop := ∀ p ∈ t, 0 < p.2
theorem E_le {f g : Rat → Rat} {t : Tab} (h : Pos t) (hfg : ∀ p ∈ t, f p.1 ≤ g p.1) : E f t ≤ E g t := by
  induction t with
  | nil => exact Rat.le_refl
  | cons p t ih =>
    rw [E_cons, E_cons]
    have h1 := h p (List.mem_cons_self ..)
    have h2 := hfg p (List.mem_cons_self ..)
    have h3 := ih (fun q hq => h q (List.mem_cons_of_mem _ hq)) (fun q hq => hfg q (List.mem_cons_of_mem _ hq))
    have h4 : p.2 * f p.1 ≤ p.2 * g p.1 := Rat.mul_le_mul_of_nonneg_left h2 (by grind)
    grind
theorem E_lt {f g : Rat → Rat} {t : Tab} (h : Pos t) (hfg : ∀ p ∈ t, f p.1 ≤ g p.1) (hx : ∃ p ∈ t, f p.1 < g p.1) : E f t < E g t := by
  induction t with
  | nil => obtain ⟨p, hp, _⟩ := hx; cases hp
  | cons p t ih =>
    rw [E_cons, E_cons]
    have h1 := h p (List.mem_cons_self ..)
    have h2 := hfg p (List.mem_cons_self ..)
    have hP : Pos t := fun q hq => h q (List.mem_cons_of_mem _ hq)
    have hF : ∀ q ∈ t, f q.1 ≤ g q.1 := fun q hq => hfg q (List.mem_cons_of_mem _ hq)
    have h3 := E_le hP hF
    have h4 : p.2 * f p.1 ≤ p.2 * g p.1 := Rat.mul_le_mul_of_nonneg_left h2 (by grind)
    obtain ⟨q, hq, lt⟩ := hx
    rcases List.mem_cons.mp hq with rfl | hq
    · have h5 : q.2 * f q.1 < q.2 * g q.1 := Rat.mul_lt_mul_of_pos_left lt h1
      grind
    · have := ih hP hF ⟨q, hq, lt⟩
      grind
theorem E_congr {f g : Rat → Rat} {t : Tab} (hfg : ∀ p ∈ t, f p.1 = g p.1) : E f t = E g t := by
  unfold E
  congr 1
  apply List.map_congr_left
  intro p hp
  rw [hfg p hp]
theorem E_lin {f g : Rat → Rat} {a b : Rat} {t : Tab} : E (fun v => a * f v + b * g v) t = a * E f t + b * E g t := by
  induction t with
  | nil => simp [E_nil]; grind
  | cons p t ih => rw [E_cons, E_cons, E_cons, ih]; grind
theorem E_zero {t : Tab} : E (fun _ => 0) t = 0 := by
  have := E_lin (f := fun _ => 0) (g := fun _ => 0) (a := 0) (b := 0) (t := t)
  simp at this
  grind
theorem rst_nn {t : Tab} {m : Rat} (h : Pos t) : 0 ≤ rst t m := by
  have := E_le (f := fun _ => 0) (g := fun v => pos (v - m)) h (fun p _ => pos_nn _)
  rw [E_zero] at this
  exact this
/-- the strike of a table for a cost -/
def IsStrike (t : Tab) (c z : Rat) : Prop := if c = 0 then (∃ p ∈ t, p.1 = z) ∧ ∀ p ∈ t, p.1 ≤ z else rst t z = c
theorem pos_mono {x y : Rat} (h : x ≤ y) : pos x ≤ pos y := by unfold pos; split <;> split <;> grind
theorem strike_uniq {t : Tab} {c z z' : Rat} (h : Pos t) (hc : 0 ≤ c) (h1 : IsStrike t c z) (h2 : IsStrike t c z') : z = z' := by
  unfold IsStrike at h1 h2
  split at h1
  · rename_i c0
    rw [if_pos c0] at h2
    obtain ⟨⟨p, hp, rfl⟩, h1⟩ := h1
    obtain ⟨⟨q, hq, rfl⟩, h2⟩ := h2
    have := h1 q hq
    have := h2 p hp
    grind
  · rename_i c0
    rw [if_neg c0] at h2
    -- strictly less where above 0
    have key : ∀ z z' : Rat, rst t z = c → rst t z' = c → ¬ z < z' := by
      intro z z' e e' lt
      have hx : ∃ p ∈ t, pos (p.1 - z') < pos (p.1 - z) := by
        by_cases hh : ∃ p ∈ t, z < p.1
        · obtain ⟨p, hp, l⟩ := hh
          refine ⟨p, hp, ?_⟩
          unfold pos
          split <;> split <;> grind
        · exfalso
          have : rst t z = 0 := by
            unfold rst
            rw [← E_zero (t := t)]
            apply E_congr
            intro p hp
            have : ¬ z < p.1 := fun l => hh ⟨p, hp, l⟩
            unfold pos
            rw [if_neg (by grind)]
          grind
      have := E_lt (f := fun v => pos (v - z')) (g := fun v => pos (v - z)) h (fun p _ => pos_mono (by grind)) hx
      unfold rst at e e'
      grind
    have a := key z z' h1 h2
    have b := key z' z h2 h1
    grind
theorem IsStrike_congr {s t : Tab} {c z : Rat} (hE : ∀ f, E f s = E f t) (hk : ∀ a, a ∈ keys s ↔ a ∈ keys t) : IsStrike s c z ↔ IsStrike t c z := by
  unfold IsStrike
  have k1 : (∃ p ∈ s, p.1 = z) ↔ (∃ p ∈ t, p.1 = z) := by
    have := hk z
    unfold keys at this
    simp only [List.mem_map] at this
    exact this
  have k2 : (∀ p ∈ s, p.1 ≤ z) ↔ (∀ p ∈ t, p.1 ≤ z) := by
    have e : ∀ r : Tab, (∀ p ∈ r, p.1 ≤ z) ↔ ∀ a ∈ keys r, a ≤ z := fun r => by simp [keys]
    rw [e, e]
    constructor
    · intro h a ha; exact h a ((hk a).mpr ha)
    · intro h a ha; exact h a ((hk a).mp ha)
  unfold rst
  rw [k1, k2, hE]
end Lw

namespace Lw
/-! P2: sizes: fractions with a known denominator within bounds. -/
def Bd (D B : Nat) (q : Rat) : Prop := (∃ n : Int, q * D = n) ∧ -(B : Rat) ≤ q ∧ q ≤ B
theorem Bd.weak {D B C : Nat} {q : Rat} (h : Bd D B q) (hb : B ≤ C) : Bd D C q := by
  have : (B : Rat) ≤ (C : Rat) := Rat.natCast_le_natCast.mpr hb
  exact ⟨h.1, by have := h.2.1; grind, by have := h.2.2; grind⟩
theorem Bd.mulR {D B : Nat} (k : Nat) {q : Rat} (h : Bd D B q) : Bd (D * k) B q := by
  obtain ⟨⟨n, e⟩, h2⟩ := h
  refine ⟨⟨n * k, ?_⟩, h2⟩
  rw [Rat.natCast_mul, Rat.intCast_mul, ← e, Rat.intCast_natCast]
  grind
theorem Bd.mulL {D B : Nat} (k : Nat) {q : Rat} (h : Bd D B q) : Bd (k * D) B q := by
  rw [Nat.mul_comm]; exact h.mulR k
theorem Bd.dvd {D E B : Nat} {q : Rat} (h : Bd D B q) (hd : D ∣ E) : Bd E B q := by
  obtain ⟨k, rfl⟩ := hd
  exact h.mulR k
theorem Bd.add {D B C : Nat} {p q : Rat} (h : Bd D B p) (g : Bd D C q) : Bd D (B + C) (p + q) := by
  obtain ⟨⟨n, e⟩, h2, h3⟩ := h
  obtain ⟨⟨m, f⟩, g2, g3⟩ := g
  refine ⟨⟨n + m, ?_⟩, ?_, ?_⟩
  · rw [Rat.intCast_add, ← e, ← f]; grind
  · rw [Rat.natCast_add]; grind
  · rw [Rat.natCast_add]; grind
theorem Bd.neg {D B : Nat} {p : Rat} (h : Bd D B p) : Bd D B (-p) := by
  obtain ⟨⟨n, e⟩, h2, h3⟩ := h
  refine ⟨⟨-n, ?_⟩, ?_, ?_⟩
  · rw [Rat.intCast_neg, ← e]; grind
  · grind
  · grind
theorem Bd.sub {D B C : Nat} {p q : Rat} (h : Bd D B p) (g : Bd D C q) : Bd D (B + C) (p - q) := by
  have := h.add g.neg
  rw [← Rat.sub_eq_add_neg] at this
  exact this
theorem Bd.mul {D E B C : Nat} {p q : Rat} (h : Bd D B p) (g : Bd E C q) : Bd (D * E) (B * C) (p * q) := by
  obtain ⟨⟨n, e⟩, h2, h3⟩ := h
  obtain ⟨⟨m, f⟩, g2, g3⟩ := g
  have b1 : 0 ≤ ((B : Rat) - p) * ((C : Rat) - q) := Rat.mul_nonneg (by grind) (by grind)
  have b2 : 0 ≤ ((B : Rat) + p) * ((C : Rat) + q) := Rat.mul_nonneg (by grind) (by grind)
  have b3 : 0 ≤ ((B : Rat) - p) * ((C : Rat) + q) := Rat.mul_nonneg (by grind) (by grind)
  have b4 : 0 ≤ ((B : Rat) + p) * ((C : Rat) - q) := Rat.mul_nonneg (by grind) (by grind)
  refine ⟨⟨n * m, ?_⟩, ?_, ?_⟩
  · rw [Rat.natCast_mul, Rat.intCast_mul, ← e, ← f]; grind
  · rw [Rat.natCast_mul]; grind
  · rw [Rat.natCast_mul]; grind
theorem Bd.zero {D B : Nat} : Bd D B 0 := ⟨⟨0, by rw [Rat.zero_mul]; rfl⟩, by have : (0 : Rat) ≤ (B : Rat) := Rat.natCast_nonneg; grind, Rat.natCast_nonneg⟩
theorem Bd.one {D : Nat} : Bd D 1 1 := ⟨⟨D, by rw [Rat.one_mul, Rat.intCast_natCast]⟩, by show -((1 : Nat) : Rat) ≤ 1; have : ((1 : Nat) : Rat) = 1 := rfl; rw [this]; grind, by show (1 : Rat) ≤ ((1 : Nat) : Rat); have : ((1 : Nat) : Rat) = 1 := rfl; rw [this]; grind⟩
theorem Bd.int {D B : Nat} {i : Int} (h : i.natAbs ≤ B) : Bd D B (i : Rat) := by
  refine ⟨⟨i * D, ?_⟩, ?_, ?_⟩
  · rw [Rat.intCast_mul, Rat.intCast_natCast]
  · have : ((-(B : Int) : Int) : Rat) ≤ (i : Rat) := Rat.intCast_le_intCast.mpr (by omega)
    rw [Rat.intCast_neg, Rat.intCast_natCast] at this
    exact this
  · have : (i : Rat) ≤ ((B : Int) : Rat) := Rat.intCast_le_intCast.mpr (by omega)
    rw [Rat.intCast_natCast] at this
    exact this
theorem Bd.pos {D B : Nat} {q : Rat} (h : Bd D B q) : Bd D B (Lw.pos q) := by
  unfold Lw.pos
  split
  · exact h
  · exact Bd.zero
theorem Bd.sum {D B : Nat} : ∀ {l : List Rat}, (∀ q ∈ l, Bd D B q) → Bd D (l.length * B) (rsum l)
  | [], _ => by simp only [rsum]; exact Bd.zero
  | a :: l, h => by
    have := (h a (List.mem_cons_self ..)).add (Bd.sum (l := l) fun q hq => h q (List.mem_cons_of_mem _ hq))
    simp only [rsum, List.length_cons]
    rw [show (l.length + 1) * B = B + l.length * B by rw [Nat.add_mul, Nat.one_mul, Nat.add_comm]]
    exact this
theorem Bd.sumN {D B n : Nat} {l : List Rat} (h : ∀ q ∈ l, Bd D B q) (hn : l.length ≤ n) : Bd D (n * B) (rsum l) := (Bd.sum h).weak (Nat.mul_le_mul_right _ hn)
/-- numerator and denominator of such a fraction -/
theorem Bd.parts {D B : Nat} {q : Rat} (h : Bd D B q) (hD : 0 < D) : q.den ≤ D ∧ q.num.natAbs ≤ B * D := by
  obtain ⟨⟨n, e⟩, h2, h3⟩ := h
  have e1 : q = mkRat n D := by
    rw [Rat.mkRat_eq_div, ← e, Rat.mul_div_cancel]
    have : (0 : Rat) < (D : Rat) := Rat.natCast_pos.mpr hD
    grind
  have hd : q.den ≤ D := by
    rw [e1, Rat.den_mkRat, if_neg (by omega)]
    exact Nat.div_le_self _ _
  refine ⟨hd, ?_⟩
  have l1 := (Rat.le_iff _ _).mp h2
  have l2 := (Rat.le_iff _ _).mp h3
  simp only [Rat.neg_num, Rat.neg_den, Rat.num_natCast, Rat.den_natCast] at l1 l2
  have l3 : (q.num.natAbs : Int) ≤ B * q.den := by
    have a1 : ((1 : Nat) : Int) = 1 := rfl
    rw [a1] at l1 l2
    have a2 : -(B : Int) * (q.den : Int) = -((B : Int) * q.den) := by rw [Int.neg_mul]
    rw [a2] at l1
    omega
  have l4 : q.num.natAbs ≤ B * q.den := by
    have : ((B * q.den : Nat) : Int) = (B : Int) * q.den := by rw [Int.natCast_mul]
    omega
  exact Nat.le_trans l4 (Nat.mul_le_mul_left _ hd)
/-- dividing -/
theorem Bd.div {D E B C : Nat} {p q : Rat} (h : Bd D B p) (g : Bd E C q) (hq : 0 < q) (hE : 0 < E) : ∃ m : Nat, 0 < m ∧ m ≤ C * E ∧ Bd (D * m) (B * E) (p / q) := by
  obtain ⟨⟨n, e⟩, h2, h3⟩ := h
  obtain ⟨⟨m, f⟩, g2, g3⟩ := g
  have hE' : (0 : Rat) < (E : Rat) := Rat.natCast_pos.mpr hE
  have mp : (0 : Rat) < (m : Rat) := by rw [← f]; exact Rat.mul_pos hq hE'
  have mp' : 0 < m := Rat.intCast_pos.mp mp
  have mu : (m : Rat) ≤ ((C * E : Nat) : Rat) := by
    rw [Rat.natCast_mul, ← f]
    exact Rat.mul_le_mul_of_nonneg_right g3 (by grind)
  have mu' : m ≤ (C * E : Nat) := by
    rw [← Rat.intCast_natCast] at mu
    exact Rat.intCast_le_intCast.mp mu
  have m1 : (1 : Rat) ≤ (m : Rat) := by
    have : ((1 : Int) : Rat) ≤ (m : Rat) := Rat.intCast_le_intCast.mpr (by omega)
    exact this
  -- q is at least 1 / E
  have ne : q ≠ 0 := by grind
  have dm : p / q * q = p := Rat.div_mul_cancel ne
  refine ⟨m.toNat, by omega, by omega, ⟨n * E, ?_⟩, ?_, ?_⟩
  · have t : ((m.toNat : Nat) : Rat) = (m : Rat) := by rw [← Rat.intCast_natCast, Int.toNat_of_nonneg (by omega)]
    rw [Rat.natCast_mul, t, ← f, Rat.intCast_mul, Rat.intCast_natCast, ← e]
    grind
  · -- p / q
    rw [Rat.natCast_mul]
    apply Rat.le_of_mul_le_mul_right (c := q) _ hq
    rw [dm]
    have : (B : Rat) * 1 ≤ B * (E * q) := Rat.mul_le_mul_of_nonneg_left (by grind) Rat.natCast_nonneg
    grind
  · rw [Rat.natCast_mul]
    apply Rat.le_of_mul_le_mul_right (c := q) _ hq
    rw [dm]
    have : (B : Rat) * 1 ≤ B * (E * q) := Rat.mul_le_mul_of_nonneg_left (by grind) Rat.natCast_nonneg
    grind
theorem Bd.rng {D B C : Nat} {q : Rat} (h : Bd D B q) (h1 : -(C : Rat) ≤ q) (h2 : q ≤ C) : Bd D C q := ⟨h.1, h1, h2⟩
theorem Bd.mk {n : Int} {D : Nat} (hD : 0 < D) (h0 : 0 ≤ n) (h1 : n ≤ D) : Bd D 1 (mkRat n D) := by
  have hD' : (0 : Rat) < (D : Rat) := Rat.natCast_pos.mpr hD
  have e : mkRat n D * D = n := by rw [Rat.mkRat_eq_div]; exact Rat.div_mul_cancel (by grind)
  have n0 : (0 : Rat) ≤ (n : Rat) := Rat.intCast_nonneg.mpr h0
  have n1 : (n : Rat) ≤ (D : Rat) := by rw [← Rat.intCast_natCast]; exact Rat.intCast_le_intCast.mpr h1
  have o : ((1 : Nat) : Rat) = 1 := rfl
  refine ⟨⟨n, e⟩, ?_, ?_⟩
  · apply Rat.le_of_mul_le_mul_right (c := (D : Rat)) _ hD'
    rw [e, o]; grind
  · apply Rat.le_of_mul_le_mul_right (c := (D : Rat)) _ hD'
    rw [e, o]; grind
/-! dicts of sums -/
theorem addAll_append (m l k : Tab) : addAll m (l ++ k) = addAll (addAll m l) k := by unfold addAll; rw [List.foldl_append]
theorem mem_putR {m : Tab} {q v : Rat} {e : Rat × Rat} (h : e ∈ putR m q v) : e ∈ m ∨ e = (q, v) := by
  unfold putR at h
  split at h
  · obtain ⟨p, hp, rfl⟩ := List.mem_map.mp h
    by_cases c : p.1 = q
    · right; simp [c]
    · left; simpa [c] using hp
  · rcases List.mem_append.mp h with h | h
    · exact .inl h
    · right; simpa using h
theorem getR_memD {m : Tab} {q x : Rat} (h : getR m q = some x) : (q, x) ∈ m := by
  unfold getR at h
  obtain ⟨p, h1, h2⟩ := Option.map_eq_some_iff.mp h
  have h3 := List.find?_some h1
  have h4 := List.mem_of_find?_eq_some h1
  simp at h3
  rw [← h3, ← h2]
  exact h4
theorem len_putR {m : Tab} {q v : Rat} : (putR m q v).length ≤ m.length + 1 := by
  unfold putR
  split <;> simp
/-- what an accumulating dict holds -/
def Dd (M n : Nat) (m : Tab) : Prop := (∀ e ∈ m, Bd M n e.2) ∧ m.length ≤ n
theorem Dd.get {M n : Nat} {m : Tab} (h : Dd M n m) (q : Rat) : Bd M n ((getR m q).getD 0) := by
  cases c : getR m q with
  | none => exact Bd.zero
  | some x => exact h.1 _ (getR_memD c)
theorem Dd.add {M n : Nat} {m : Tab} (h : Dd M n m) {q x : Rat} (hx : Bd M 1 x) : Dd M (n + 1) (addR m q x) := by
  refine ⟨fun e he => ?_, ?_⟩
  · rcases mem_putR he with he | rfl
    · exact (h.1 e he).weak (Nat.le_succ _)
    · exact (h.get q).add hx
  · exact Nat.le_trans len_putR (by have := h.2; omega)
theorem Dd.all {M : Nat} : ∀ (l : Tab) {n : Nat} {m : Tab}, Dd M n m → (∀ e ∈ l, Bd M 1 e.2) → Dd M (n + l.length) (addAll m l)
  | [], _, _, h, _ => h
  | e :: l, n, m, h, hl => by
    have := Dd.all l (h.add (q := e.1) (hl e (List.mem_cons_self ..))) fun f hf => hl f (List.mem_cons_of_mem _ hf)
    rw [List.length_cons, show n + (l.length + 1) = n + 1 + l.length by omega]
    exact this
theorem Dd.nil {M : Nat} : Dd M 0 [] := ⟨fun _ z => (List.not_mem_nil z).elim, Nat.le_refl _⟩
theorem getR_some {m : Tab} {q : Rat} (h : q ∈ keys m) : ∃ x, getR m q = some x := by
  cases c : getR m q with
  | some x => exact ⟨x, rfl⟩
  | none =>
    unfold getR at c
    rw [Option.map_eq_none_iff, List.find?_eq_none] at c
    obtain ⟨p, hp, rfl⟩ := List.mem_map.mp h
    exact absurd (by simp) (c p hp)
end Lw

namespace Lw
/-! P3: trees, their tables, their strikes. -/
mutual
inductive Tr where
  | en (w : Int)
  | st (c : Nat) (bs : Bs)
inductive Bs where
  | nil
  | cons (w : Nat) (t : Tr) (bs : Bs)
end
def Bs.list : Bs → List (Nat × Tr)
  | .nil => []
  | .cons w t bs => (w, t) :: bs.list
mutual
def Tr.steps : Tr → Nat
  | .en _ => 0
  | .st _ bs => bs.steps + 1
def Bs.steps : Bs → Nat
  | .nil => 0
  | .cons _ t bs => t.steps + bs.steps
end
mutual
def Tr.size : Tr → Nat
  | .en _ => 1
  | .st _ bs => bs.size + 1
def Bs.size : Bs → Nat
  | .nil => 0
  | .cons _ t bs => t.size + bs.size
end
mutual
def Tr.deep : Tr → Nat
  | .en _ => 0
  | .st _ bs => bs.deep + 1
def Bs.deep : Bs → Nat
  | .nil => 0
  | .cons _ t bs => max t.deep bs.deep
end
mutual
def Tr.ok : Tr → Prop
  | .en w => w.natAbs ≤ 1000000
  | .st c bs => c ≤ 1000000 ∧ 0 < bs.list.length ∧ bs.list.length ≤ 5 ∧ bs.ok
def Bs.ok : Bs → Prop
  | .nil => True
  | .cons w t bs => (1 ≤ w ∧ w ≤ 1000) ∧ t.ok ∧ bs.ok
end
theorem Bs.ok_mem : ∀ {bs : Bs}, bs.ok → ∀ p ∈ bs.list, (1 ≤ p.1 ∧ p.1 ≤ 1000) ∧ p.2.ok
  | .nil, _, p, hp => by cases hp
  | .cons w t bs, h, p, hp => by
    rw [Bs.ok] at h
    rw [Bs.list] at hp
    rcases List.mem_cons.mp hp with rfl | hp
    · exact ⟨h.1, h.2.1⟩
    · exact Bs.ok_mem h.2.2 p hp
mutual
theorem Tr.steps_lt : ∀ {t : Tr}, t.ok → t.steps + 1 ≤ t.size
  | .en _, _ => by simp [Tr.steps, Tr.size]
  | .st c bs, h => by
    rw [Tr.ok] at h
    have := Bs.steps_lt h.2.2.2
    simp only [Tr.steps, Tr.size]
    omega
theorem Bs.steps_lt : ∀ {bs : Bs}, bs.ok → bs.steps + bs.list.length ≤ bs.size
  | .nil, _ => by simp [Bs.steps, Bs.size, Bs.list]
  | .cons w t bs, h => by
    rw [Bs.ok] at h
    have h1 := Tr.steps_lt h.2.1
    have h2 := Bs.steps_lt h.2.2
    simp only [Bs.steps, Bs.size, Bs.list, List.length_cons]
    omega
end
theorem Bs.size_mem : ∀ {bs : Bs} {p : Nat × Tr}, p ∈ bs.list → p.2.size ≤ bs.size
  | .nil, p, hp => by cases hp
  | .cons w t bs, p, hp => by
    rw [Bs.list] at hp
    simp only [Bs.size]
    rcases List.mem_cons.mp hp with rfl | hp
    · dsimp only; omega
    · have := Bs.size_mem hp; omega
theorem Bs.deep_mem : ∀ {bs : Bs} {p : Nat × Tr}, p ∈ bs.list → p.2.deep ≤ bs.deep
  | .nil, p, hp => by cases hp
  | .cons w t bs, p, hp => by
    rw [Bs.list] at hp
    simp only [Bs.deep]
    rcases List.mem_cons.mp hp with rfl | hp
    · dsimp only; omega
    · have := Bs.deep_mem hp; omega
mutual
theorem Tr.deep_steps : ∀ t : Tr, t.deep ≤ t.steps
  | .en _ => by simp [Tr.deep]
  | .st _ bs => by have := Bs.deep_steps bs; simp only [Tr.deep, Tr.steps]; omega
theorem Bs.deep_steps : ∀ t : Bs, t.deep ≤ t.steps
  | .nil => by simp [Bs.deep]
  | .cons _ t bs => by have := Bs.deep_steps bs; have := Tr.deep_steps t; simp only [Bs.deep, Bs.steps]; omega
end
/-! ### mixing, capping -/
abbrev Part := Nat × Tab
def wsum (ps : List Part) : Nat := (ps.map (·.1)).sum
def mixL (ps : List Part) : Tab := ps.flatMap fun p => p.2.map fun e => (e.1, e.2 * mkRat p.1 (wsum ps))
def mixR (ps : List Part) : Tab := tabOf (addAll [] (mixL ps))
def mn (v z : Rat) : Rat := if z < v then z else v
def capL (t : Tab) (z : Rat) : Tab := t.map fun e => (mn e.1 z, e.2)
def cappedR (t : Tab) (z : Rat) : Tab := tabOf (addAll [] (capL t z))
def scan (c : Rat) : Tab → Rat → Rat → Rat
  | [], _, _ => 0
  | e :: r, ch, me => match r with
    | [] => (me + e.1 * e.2 - c) / (ch + e.2)
    | e' :: _ => if (me + e.1 * e.2 - c) / (ch + e.2) < e'.1 then scan c r (ch + e.2) (me + e.1 * e.2) else (me + e.1 * e.2 - c) / (ch + e.2)
def strikeR (t : Tab) (c : Rat) : Rat := if c = 0 then (keys t).getLastD 0 else scan c t.reverse 0 0
mutual
def tableR : Tr → Tab
  | .en w => [((w : Rat), 1)]
  | .st c bs => cappedR (mixR (belowP bs)) (strikeR (mixR (belowP bs)) c)
def belowP : Bs → List Part
  | .nil => []
  | .cons w t bs => (w, tableR t) :: belowP bs
end
def belowR (bs : Bs) : Tab := mixR (belowP bs)
def strikeT : Tr → Rat
  | .en w => w
  | .st c bs => strikeR (belowR bs) c
theorem belowP_map : ∀ bs : Bs, belowP bs = bs.list.map fun p => (p.1, tableR p.2)
  | .nil => by rw [belowP, Bs.list]; rfl
  | .cons w t bs => by rw [belowP, Bs.list, List.map_cons, belowP_map bs]
/-! ### equal by all means -/
structure Eqv (s t : Tab) : Prop where
  E : ∀ f, E f s = E f t
  k : ∀ a, a ∈ keys s ↔ a ∈ keys t
theorem Eqv.refl (s : Tab) : Eqv s s := ⟨fun _ => rfl, fun _ => Iff.rfl⟩
theorem Eqv.trans {s t u : Tab} (a : Eqv s t) (b : Eqv t u) : Eqv s u := ⟨fun f => (a.E f).trans (b.E f), fun x => (a.k x).trans (b.k x)⟩
theorem Eqv.symm {s t : Tab} (a : Eqv s t) : Eqv t s := ⟨fun f => (a.E f).symm, fun x => (a.k x).symm⟩
theorem Eqv.dict (l : Tab) : Eqv (tabOf (addAll [] l)) l := by
  have nd := (addAll_ok (f := fun v => v) l [] List.nodup_nil).1
  refine ⟨fun f => ?_, fun a => ?_⟩
  · rw [E_tabOf nd, (addAll_ok l [] List.nodup_nil).2.1, E_nil]
    grind
  · rw [keys_tabOf, mem_sortQ nd, (addAll_ok (f := fun v => v) l [] List.nodup_nil).2.2]
    simp [keys]
theorem E_map (f : Rat → Rat) (g : Rat → Rat) (x : Rat) (t : Tab) : E f (t.map fun e => (g e.1, e.2 * x)) = x * E (fun v => f (g v)) t := by
  induction t with
  | nil => simp [E_nil]
  | cons e t ih => rw [List.map_cons, E_cons, E_cons, ih]; grind
theorem E_capL (f : Rat → Rat) (t : Tab) (z : Rat) : E f (capL t z) = E (fun v => f (mn v z)) t := by
  unfold capL
  induction t with
  | nil => rfl
  | cons e t ih => rw [List.map_cons, E_cons, E_cons, ih]
theorem Eqv.cap {s t : Tab} (h : Eqv s t) (z : Rat) : Eqv (capL s z) (capL t z) := by
  refine ⟨fun f => by rw [E_capL, E_capL, h.E], fun a => ?_⟩
  have e : ∀ r : Tab, a ∈ keys (capL r z) ↔ ∃ v ∈ keys r, mn v z = a := fun r => by
    unfold keys capL
    simp
  rw [e, e]
  constructor
  · rintro ⟨v, hv, q⟩; exact ⟨v, (h.k v).mp hv, q⟩
  · rintro ⟨v, hv, q⟩; exact ⟨v, (h.k v).mpr hv, q⟩
/-- parts of the same weights -/
inductive Eqp : List Part → List Part → Prop
  | nil : Eqp [] []
  | cons {w : Nat} {s t : Tab} {ps qs : List Part} : Eqv s t → Eqp ps qs → Eqp ((w, s) :: ps) ((w, t) :: qs)
theorem Eqp.wsum {ps qs : List Part} (h : Eqp ps qs) : wsum ps = wsum qs := by
  induction h with
  | nil => rfl
  | cons _ _ ih => unfold Lw.wsum at ih ⊢; simp only [List.map_cons, List.sum_cons, ih]
theorem Eqp.mixW {ps qs : List Part} (W : Nat) (h : Eqp ps qs) : Eqv (ps.flatMap fun p => p.2.map fun e => (e.1, e.2 * mkRat p.1 W)) (qs.flatMap fun p => p.2.map fun e => (e.1, e.2 * mkRat p.1 W)) := by
  induction h with
  | nil => exact Eqv.refl _
  | @cons w s t ps qs h _ ih =>
    refine ⟨fun f => ?_, fun a => ?_⟩
    · rw [List.flatMap_cons, List.flatMap_cons, E_append, E_append, ih.E]
      dsimp only
      rw [E_map f (fun v => v), E_map f (fun v => v), h.E]
    · have e : ∀ (r : Tab) (l : Tab), a ∈ keys ((r.map fun e => (e.1, e.2 * mkRat w W)) ++ l) ↔ a ∈ keys r ∨ a ∈ keys l := fun r l => by
        unfold keys
        simp
      rw [List.flatMap_cons, List.flatMap_cons, e, e, h.k, ih.k]
theorem Eqp.mix {ps qs : List Part} (h : Eqp ps qs) : Eqv (mixL ps) (mixL qs) := by
  unfold mixL
  rw [h.wsum]
  exact h.mixW _
/-! ### what a table is -/
structure Good (t : Tab) : Prop where
  pos : Pos t
  one : mass t = 1
  ne : t ≠ []
structure Asc (t : Tab) : Prop where
  lt : (keys t).Pairwise (· < ·)
theorem Pos.addAll {l : Tab} (h : Pos l) : Pos (tabOf (addAll [] l)) := by
  have nd := (addAll_ok (f := fun v => v) l [] List.nodup_nil).1
  -- chances stay above 0
  have key : ∀ (l m : Tab), Pos l → Pos m → Pos (Lw.addAll m l) := by
    intro l
    induction l with
    | nil => intro m _ hm; exact hm
    | cons e l ih =>
      intro m hl hm
      refine ih (addR m e.1 e.2) (fun p hp => hl p (List.mem_cons_of_mem _ hp)) fun p hp => ?_
      rcases mem_putR hp with hp | rfl
      · exact hm p hp
      · have h1 := hl e (List.mem_cons_self ..)
        have h2 : 0 ≤ (getR m e.1).getD 0 := by
          cases c : getR m e.1 with
          | none => exact Rat.le_refl
          | some x => have := hm _ (getR_memD c); exact Rat.le_of_lt this
        show 0 < (getR m e.1).getD 0 + e.2
        grind
  have hp := key l [] h (fun _ z => (List.not_mem_nil z).elim)
  intro p hp'
  unfold tabOf at hp'
  obtain ⟨v, hv, rfl⟩ := List.mem_map.mp hp'
  obtain ⟨x, hx⟩ := getR_some ((mem_sortQ nd).mp hv)
  have := hp _ (getR_memD hx)
  simpa [hx] using this
theorem Asc.dict (l : Tab) : Asc (tabOf (addAll [] l)) := ⟨by rw [keys_tabOf]; exact sortQ_sorted (addAll_ok (f := fun v => v) l [] List.nodup_nil).1⟩
theorem ne_of_Eqv {s t : Tab} (h : Eqv s t) (ht : t ≠ []) : s ≠ [] := by
  intro e
  subst e
  cases t with
  | nil => exact ht rfl
  | cons a t =>
    have := (h.k a.1).mpr (by simp [keys])
    cases this
theorem Good.dict {l : Tab} (h : Good l) : Good (tabOf (addAll [] l)) := ⟨Pos.addAll h.pos, by unfold mass; rw [(Eqv.dict l).E]; exact h.one, ne_of_Eqv (Eqv.dict l) h.ne⟩
theorem Good.cap {l : Tab} (h : Good l) (z : Rat) : Good (capL l z) := by
  refine ⟨fun p hp => ?_, ?_, ?_⟩
  · obtain ⟨e, he, rfl⟩ := List.mem_map.mp hp
    exact h.pos e he
  · unfold mass; rw [E_capL]; exact h.one
  · unfold capL; simpa using h.ne
theorem wpos {ps : List Part} (hw : ∀ p ∈ ps, 0 < p.1) (ne : ps ≠ []) : 0 < wsum ps := by
  cases ps with
  | nil => exact absurd rfl ne
  | cons p ps =>
    have := hw p (List.mem_cons_self ..)
    unfold wsum
    simp only [List.map_cons, List.sum_cons]
    omega
theorem mkRat_pos {a b : Nat} (ha : 0 < a) (hb : 0 < b) : 0 < mkRat a b := by
  rw [Rat.mkRat_eq_div, Rat.div_def]
  exact Rat.mul_pos (Rat.intCast_pos.mpr (by omega)) (Rat.inv_pos.mpr (Rat.natCast_pos.mpr hb))
theorem mass_mixW (W : Nat) (hW : 0 < W) : ∀ ps : List Part, (∀ p ∈ ps, mass p.2 = 1) → mass (ps.flatMap fun p => p.2.map fun e => (e.1, e.2 * mkRat p.1 W)) = mkRat (wsum ps : Nat) W
  | [], _ => by show (0 : Rat) = mkRat 0 W; rw [Rat.zero_mkRat]
  | p :: ps, h => by
    unfold mass
    rw [List.flatMap_cons, E_append, E_map (fun _ => 1) (fun v => v)]
    have h1 := h p (List.mem_cons_self ..)
    have h2 := mass_mixW W hW ps fun q hq => h q (List.mem_cons_of_mem _ hq)
    unfold mass at h1 h2
    rw [h1, h2]
    unfold wsum
    rw [List.map_cons, List.sum_cons, Rat.mul_one, Rat.mkRat_eq_div, Rat.mkRat_eq_div, Rat.mkRat_eq_div, Int.natCast_add, Rat.intCast_add]
    rw [Rat.div_def, Rat.div_def, Rat.div_def, Rat.add_mul]
theorem Good.mix {ps : List Part} (hg : ∀ p ∈ ps, Good p.2) (hw : ∀ p ∈ ps, 0 < p.1) (ne : ps ≠ []) : Good (mixL ps) := by
  have W0 := wpos hw ne
  refine ⟨fun e he => ?_, ?_, ?_⟩
  · obtain ⟨p, hp, he⟩ := List.mem_flatMap.mp he
    obtain ⟨f, hf, rfl⟩ := List.mem_map.mp he
    exact Rat.mul_pos ((hg p hp).pos f hf) (mkRat_pos (hw p hp) W0)
  · unfold mixL
    rw [mass_mixW _ W0 ps fun p hp => (hg p hp).one, Rat.mkRat_eq_div, Rat.div_def, Rat.intCast_natCast]
    exact Rat.mul_inv_cancel _ (by have : (0 : Rat) < (wsum ps : Rat) := Rat.natCast_pos.mpr W0; grind)
  · cases ps with
    | nil => exact absurd rfl ne
    | cons p ps =>
      have := (hg p (List.mem_cons_self ..)).ne
      unfold mixL
      rw [List.flatMap_cons]
      simp [this]
/-! ### strikes -/
theorem mass_append (s t : Tab) : mass (s ++ t) = mass s + mass t := E_append ..
theorem mean_append (s t : Tab) : mean (s ++ t) = mean s + mean t := E_append ..
theorem mass_nn {t : Tab} (h : Pos t) : 0 ≤ mass t := by
  have := E_le (f := fun _ => 0) (g := fun _ => 1) h (fun _ _ => by decide)
  rw [E_zero] at this
  exact this
/-- the part of a table that counts -/
theorem mass_nil : mass [] = 0 := rfl
theorem mean_nil : mean [] = 0 := rfl
theorem scan_ok {c : Rat} (hc : 0 < c) : ∀ (r q : Tab), Pos (r.reverse ++ q) → (keys (r.reverse ++ q)).Pairwise (· < ·) → (∀ e, r.head? = some e → mean q - c < e.1 * mass q) → r ≠ [] →
    rst (r.reverse ++ q) (scan c r (mass q) (mean q)) = c ∧ ∃ a b, r.reverse ++ q = a ++ b ∧ b ≠ [] ∧ scan c r (mass q) (mean q) = (mean b - c) / mass b
  | [], _, _, _, _, ne => absurd rfl ne
  | e :: r, q, hp, hs, hi, _ => by
    have hi := hi e rfl
    have e0 : 0 < e.2 := hp e (by simp)
    have hq : Pos q := fun p hp' => hp p (by simp [hp'])
    have m0 := mass_nn hq
    have me' : mean (e :: q) = mean q + e.1 * e.2 := by unfold mean; rw [E_cons]; grind
    have ma' : mass (e :: q) = mass q + e.2 := by unfold mass; rw [E_cons]; grind
    have mp : 0 < mass (e :: q) := by grind
    have mne : mass (e :: q) ≠ 0 := by grind
    have re : (e :: r).reverse ++ q = r.reverse ++ (e :: q) := by simp
    generalize hz : (mean (e :: q) - c) / mass (e :: q) = z
    have hz' : z * mass (e :: q) = mean (e :: q) - c := by rw [← hz]; exact Rat.div_mul_cancel mne
    have zlt : z < e.1 := by
      apply Rat.lt_of_mul_lt_mul_right (c := mass (e :: q)) _ (by grind)
      rw [hz', me', ma']
      grind
    rw [re] at hp hs ⊢
    -- the end of the scan
    have stop : (∀ p ∈ r, p.1 ≤ z) → rst (r.reverse ++ (e :: q)) z = c := by
      intro hr
      unfold rst
      rw [E_append]
      have h1 : E (fun v => pos (v - z)) r.reverse = 0 := by
        rw [← E_zero (t := r.reverse)]
        apply E_congr
        intro p hp'
        have := hr p (by simpa using hp')
        unfold pos
        rw [if_neg (by grind)]
      have h2 : E (fun v => pos (v - z)) (e :: q) = E (fun v => 1 * v + (-z) * 1) (e :: q) := by
        apply E_congr
        intro p hp'
        have h3 : e.1 ≤ p.1 := by
          rcases List.mem_cons.mp hp' with rfl | hp'
          · exact Rat.le_refl
          · have hs' : (keys (e :: q)).Pairwise (· < ·) := by
              have : keys (r.reverse ++ (e :: q)) = keys r.reverse ++ keys (e :: q) := by simp [keys]
              rw [this] at hs
              exact (List.pairwise_append.mp hs).2.1
            have := (List.pairwise_cons.mp hs').1 p.1 (List.mem_map.mpr ⟨p, hp', rfl⟩)
            exact Rat.le_of_lt this
        unfold pos
        rw [if_pos (by grind)]
        grind
      rw [h1, h2, E_lin]
      have a1 : E (fun v => v) (e :: q) = mean (e :: q) := rfl
      have a2 : E (fun _ => 1) (e :: q) = mass (e :: q) := rfl
      rw [a1, a2]
      grind
    cases r with
    | nil =>
      have sc : scan c [e] (mass q) (mean q) = z := by
        rw [scan, ← hz, me', ma']
      rw [sc]
      exact ⟨stop fun p hp' => (List.not_mem_nil hp').elim, [], e :: q, by simp, List.cons_ne_nil _ _, hz.symm⟩
    | cons e' r =>
      by_cases lt : z < e'.1
      · have sc : scan c (e :: e' :: r) (mass q) (mean q) = scan c (e' :: r) (mass (e :: q)) (mean (e :: q)) := by
          rw [scan]
          rw [← me', ← ma', hz, if_pos lt]
        rw [sc]
        refine scan_ok hc (e' :: r) (e :: q) hp hs (fun e2 he2 => ?_) (List.cons_ne_nil _ _)
        cases he2
        rw [← hz']
        exact Rat.mul_lt_mul_of_pos_right lt mp
      · have sc : scan c (e :: e' :: r) (mass q) (mean q) = z := by
          rw [scan]
          rw [← me', ← ma', hz, if_neg lt]
        rw [sc]
        refine ⟨stop fun p hp' => ?_, (e' :: r).reverse, e :: q, rfl, List.cons_ne_nil _ _, hz.symm⟩
        have h3 : p.1 ≤ e'.1 := by
          rcases List.mem_cons.mp hp' with rfl | hp'
          · exact Rat.le_refl
          · have : keys ((e' :: r).reverse ++ (e :: q)) = keys r.reverse ++ (e'.1 :: keys (e :: q)) := by simp [keys]
            rw [this] at hs
            have := (List.pairwise_append.mp hs).2.2 p.1 (List.mem_map.mpr ⟨p, by simpa using hp', rfl⟩) e'.1 (List.mem_cons_self ..)
            exact Rat.le_of_lt this
        grind
theorem strikeR_ok {t : Tab} {c : Rat} (h : Good t) (a : Asc t) (hc : 0 ≤ c) : IsStrike t c (strikeR t c) := by
  unfold IsStrike strikeR
  by_cases c0 : c = 0
  · rw [if_pos c0, if_pos c0]
    have ne : keys t ≠ [] := by unfold keys; simpa using h.ne
    have e : (keys t).getLastD 0 = (keys t).getLast ne := by rw [List.getLastD_eq_getLast?, List.getLast?_eq_some_getLast ne]; rfl
    rw [e]
    have m := List.getLast_mem ne
    constructor
    · obtain ⟨p, hp, q⟩ := List.mem_map.mp m
      exact ⟨p, hp, q⟩
    · intro p hp
      have pm : p.1 ∈ keys t := List.mem_map.mpr ⟨p, hp, rfl⟩
      have d := List.dropLast_concat_getLast ne
      have pw := a.lt
      rw [← d] at pm pw
      rcases List.mem_append.mp pm with z | z
      · exact Rat.le_of_lt ((List.pairwise_append.mp pw).2.2 _ z _ (List.mem_singleton.mpr rfl))
      · rw [List.mem_singleton.mp z]; exact Rat.le_refl
  · rw [if_neg c0, if_neg c0]
    have := (scan_ok (c := c) (by grind) t.reverse [] (by simpa using h.pos) (by simpa using a.lt) (fun e _ => by show (0 : Rat) - c < e.1 * 0; grind) (by simpa using h.ne)).1
    simpa [mass_nil, mean_nil] using this
/-- the strike as a quotient -/
theorem strikeR_quot {t : Tab} {c : Rat} (h : Good t) (a : Asc t) (hc : 0 < c) : ∃ p b, t = p ++ b ∧ b ≠ [] ∧ strikeR t c = (mean b - c) / mass b := by
  unfold strikeR
  rw [if_neg (by grind)]
  have := (scan_ok (c := c) (by grind) t.reverse [] (by simpa using h.pos) (by simpa using a.lt) (fun e _ => by show (0 : Rat) - c < e.1 * 0; grind) (by simpa using h.ne)).2
  simpa [mass_nil, mean_nil] using this
theorem strike_le {t : Tab} {c z B : Rat} (h : Good t) (hc : 0 ≤ c) (s : IsStrike t c z) (hB : ∀ p ∈ t, p.1 ≤ B) : z ≤ B := by
  unfold IsStrike at s
  split at s
  · obtain ⟨⟨p, hp, rfl⟩, _⟩ := s
    exact hB p hp
  · rename_i c0
    by_cases q : ∃ p ∈ t, z < p.1
    · obtain ⟨p, hp, l⟩ := q
      have := hB p hp
      grind
    · exfalso
      have : rst t z = 0 := by
        unfold rst
        rw [← E_zero (t := t)]
        apply E_congr
        intro p hp
        have : ¬ z < p.1 := fun l => q ⟨p, hp, l⟩
        unfold pos
        rw [if_neg (by grind)]
      grind
theorem strike_ge {t : Tab} {c z B : Rat} (h : Good t) (hc : 0 ≤ c) (s : IsStrike t c z) (hB : ∀ p ∈ t, B ≤ p.1) : B - c ≤ z := by
  unfold IsStrike at s
  split at s
  · obtain ⟨⟨p, hp, rfl⟩, _⟩ := s
    have := hB p hp
    grind
  · have h1 : E (fun v => 1 * B + (-z) * 1) t ≤ rst t z := by
      apply E_le h.pos
      intro p hp
      have := hB p hp
      unfold pos
      split <;> grind
    rw [E_lin (f := fun _ => B) (g := fun _ => 1)] at h1
    have h2 : E (fun _ => B) t = B := by
      have := E_lin (f := fun _ => 1) (g := fun _ => 1) (a := B) (b := 0) (t := t)
      have e : E (fun _ => 1) t = 1 := h.one
      rw [e] at this
      have e2 : E (fun v => B * 1 + 0 * 1) t = E (fun _ => B) t := E_congr fun p _ => by grind
      rw [e2] at this
      grind
    have e : E (fun _ => 1) t = 1 := h.one
    rw [h2, e] at h1
    grind
end Lw

namespace Lw
/-! P4: the law's caps are the program's tables; sizes of both. -/
theorem exists_min {α : Type} (f : α → Rat) : ∀ l : List α, l ≠ [] → ∃ a ∈ l, ∀ b ∈ l, f a ≤ f b
  | [], h => absurd rfl h
  | [a], _ => ⟨a, by simp, fun b hb => by rw [List.mem_singleton.mp hb]; exact Rat.le_refl⟩
  | a :: c :: l, _ => by
    obtain ⟨x, hx, h⟩ := exists_min f (c :: l) (List.cons_ne_nil _ _)
    by_cases q : f a ≤ f x
    · exact ⟨a, List.mem_cons_self .., fun b hb => by
        rcases List.mem_cons.mp hb with rfl | hb
        · exact Rat.le_refl
        · have := h b hb; grind⟩
    · exact ⟨x, List.mem_cons_of_mem _ hx, fun b hb => by
        rcases List.mem_cons.mp hb with rfl | hb
        · grind
        · exact h b hb⟩
def part (l : Tab) (v : Rat) : Tab := l.filter fun e => !decide (e.1 < v)
def ratio (l : Tab) (c v : Rat) : Rat := (-c + mean (part l v)) / mass (part l v)
def mxO (b : Option Rat) (h : Rat) : Option Rat := match b with
  | none => some h
  | some b => some (if b < h then h else b)
def maxF (l : List Rat) (s : Option Rat) : Option Rat := l.foldl mxO s
def lawStrike (l : Tab) (c : Rat) : Rat := (maxF (l.map fun e => ratio l c e.1) none).getD 0
theorem maxF_ok : ∀ (l : List Rat) (s : Rat), ∃ z, maxF l (some s) = some z ∧ s ≤ z ∧ (∀ a ∈ l, a ≤ z) ∧ (z = s ∨ z ∈ l)
  | [], s => ⟨s, rfl, Rat.le_refl, fun _ h => (List.not_mem_nil h).elim, .inl rfl⟩
  | a :: l, s => by
    obtain ⟨z, h1, h2, h3, h4⟩ := maxF_ok l (if s < a then a else s)
    refine ⟨z, h1, ?_, fun b hb => ?_, ?_⟩
    · split at h2 <;> grind
    · rcases List.mem_cons.mp hb with rfl | hb
      · split at h2 <;> grind
      · exact h3 b hb
    · rcases h4 with h4 | h4
      · split at h4
        · right; rw [h4]; exact List.mem_cons_self ..
        · exact .inl h4
      · exact .inr (List.mem_cons_of_mem _ h4)
theorem lawStrike_max {l : Tab} {c : Rat} (ne : l ≠ []) : (∃ e ∈ l, lawStrike l c = ratio l c e.1) ∧ ∀ e ∈ l, ratio l c e.1 ≤ lawStrike l c := by
  cases l with
  | nil => exact absurd rfl ne
  | cons a l =>
    obtain ⟨z, h1, h2, h3, h4⟩ := maxF_ok (l.map fun e => ratio (a :: l) c e.1) (ratio (a :: l) c a.1)
    have e : lawStrike (a :: l) c = z := by
      unfold lawStrike
      have : maxF ((a :: l).map fun e => ratio (a :: l) c e.1) none = maxF (l.map fun e => ratio (a :: l) c e.1) (some (ratio (a :: l) c a.1)) := rfl
      rw [this, h1]
      rfl
    rw [e]
    constructor
    · rcases h4 with h4 | h4
      · exact ⟨a, List.mem_cons_self .., h4⟩
      · obtain ⟨x, hx, q⟩ := List.mem_map.mp h4
        exact ⟨x, List.mem_cons_of_mem _ hx, q.symm⟩
    · intro x hx
      rcases List.mem_cons.mp hx with rfl | hx
      · exact h2
      · exact h3 _ (List.mem_map.mpr ⟨x, hx, rfl⟩)
theorem E_filter (f : Rat → Rat) (p : Rat → Bool) (t : Tab) : E f (t.filter fun e => p e.1) = E (fun v => if p v then f v else 0) t := by
  induction t with
  | nil => rfl
  | cons e t ih =>
    rw [List.filter_cons]
    cases c : p e.1 with
    | true => simp only [if_true]; rw [E_cons, E_cons, ih, c]; simp
    | false => simp only [Bool.false_eq_true, if_false]; rw [E_cons, ih, c]; simp; grind
theorem mass_pos {t : Tab} (h : Pos t) (ne : t ≠ []) : 0 < mass t := by
  cases t with
  | nil => exact absurd rfl ne
  | cons e t =>
    have h1 := h e (List.mem_cons_self ..)
    have h2 := mass_nn (t := t) fun p hp => h p (List.mem_cons_of_mem _ hp)
    unfold mass at h2 ⊢
    rw [E_cons]
    grind
theorem part_pos {l : Tab} (h : Pos l) (v : Rat) : Pos (part l v) := fun p hp => h p (List.mem_filter.mp hp).1
theorem part_mem {l : Tab} {e : Rat × Rat} (h : e ∈ l) : e ∈ part l e.1 := by
  unfold part
  rw [List.mem_filter]
  refine ⟨h, ?_⟩
  simp [Rat.lt_irrefl]
theorem ratio_mul {l : Tab} {c : Rat} (h : Pos l) {e : Rat × Rat} (he : e ∈ l) : ratio l c e.1 * mass (part l e.1) = mean (part l e.1) - c := by
  have := mass_pos (part_pos h e.1) (List.ne_nil_of_mem (part_mem he))
  unfold ratio
  rw [Rat.div_mul_cancel (by grind)]
  grind
theorem lawStrike_ok {l : Tab} {c : Rat} (h : Good l) (hc : 0 ≤ c) : IsStrike l c (lawStrike l c) := by
  obtain ⟨⟨e, he, h1⟩, h2⟩ := lawStrike_max (c := c) h.ne
  generalize lawStrike l c = z at *
  unfold IsStrike
  -- the mean above z, by parts
  have rm : ∀ v, E (fun x => if (!decide (x < v)) then x - z else 0) l = mean (part l v) - z * mass (part l v) := by
    intro v
    have e1 := E_filter (fun x => x - z) (fun x => !decide (x < v)) l
    rw [← e1]
    have e2 : E (fun x => x - z) (l.filter fun e => !decide (e.1 < v)) = E (fun x => 1 * x + (-z) * 1) (l.filter fun e => !decide (e.1 < v)) := E_congr fun p _ => by grind
    rw [e2, E_lin]
    have a1 : E (fun v => v) (part l v) = mean (part l v) := rfl
    have a2 : E (fun _ => 1) (part l v) = mass (part l v) := rfl
    unfold part at a1 a2 ⊢
    rw [a1, a2]
    grind
  have ge : c ≤ rst l z := by
    have a := ratio_mul (c := c) h.pos he
    rw [← h1] at a
    have b := rm e.1
    have : E (fun x => if (!decide (x < e.1)) then x - z else 0) l ≤ rst l z := by
      apply E_le h.pos
      intro p _
      unfold pos
      by_cases q : p.1 < e.1 <;> simp [q] <;> grind
    grind
  have le : rst l z ≤ c := by
    by_cases q : ∃ p ∈ l, z < p.1
    · obtain ⟨p0, hp0, l0⟩ := q
      have ne : (l.filter fun e => decide (z < e.1)) ≠ [] := List.ne_nil_of_mem (a := p0) (by rw [List.mem_filter]; exact ⟨hp0, by simpa using l0⟩)
      obtain ⟨p, hp, hm⟩ := exists_min (fun e : Rat × Rat => e.1) _ ne
      rw [List.mem_filter] at hp
      obtain ⟨hp, lp⟩ := hp
      have lp : z < p.1 := by simpa using lp
      have a := ratio_mul (c := c) h.pos hp
      have r := h2 p hp
      have b := rm p.1
      have mp := mass_pos (part_pos h.pos p.1) (List.ne_nil_of_mem (part_mem hp))
      have e1 : rst l z = E (fun x => if (!decide (x < p.1)) then x - z else 0) l := by
        apply E_congr
        intro x hx
        unfold pos
        by_cases q : z < x.1
        · have := hm x (by rw [List.mem_filter]; exact ⟨hx, by simpa using q⟩)
          have n : ¬ x.1 < p.1 := by grind
          simp [n]
          grind
        · have n : x.1 < p.1 := by grind
          simp [n]
          grind
      rw [e1, b]
      have := Rat.mul_le_mul_of_nonneg_right r (Rat.le_of_lt mp)
      grind
    · have : rst l z = 0 := by
        unfold rst
        rw [← E_zero (t := l)]
        apply E_congr
        intro p hp
        have : ¬ z < p.1 := fun l => q ⟨p, hp, l⟩
        unfold pos
        rw [if_neg (by grind)]
      grind
  by_cases c0 : c = 0
  · rw [if_pos c0]
    have up : ∀ p ∈ l, p.1 ≤ z := by
      intro p hp
      by_cases q : z < p.1
      · exfalso
        have : 0 < rst l z := by
          have := E_lt (f := fun _ => 0) (g := fun v => pos (v - z)) h.pos (fun p _ => pos_nn _) ⟨p, hp, by unfold pos; rw [if_pos (by grind)]; grind⟩
          rw [E_zero] at this
          exact this
        grind
      · grind
    refine ⟨?_, up⟩
    -- it is one of them: a mean of numbers that are at most z
    have a := ratio_mul (c := c) h.pos he
    rw [← h1, c0] at a
    obtain ⟨p, hp, hm⟩ : ∃ p ∈ l, ¬ p.1 < z := by
      apply Classical.byContradiction
      intro no
      have all : ∀ p ∈ l, p.1 < z := fun p hp => Classical.byContradiction fun n => no ⟨p, hp, n⟩
      have : mean (part l e.1) < z * mass (part l e.1) := by
        have lt := E_lt (f := fun v => v) (g := fun _ => z * 1) (part_pos h.pos e.1) (fun p hp => by
          have := all p (List.mem_filter.mp hp).1; grind) ⟨e, part_mem he, by have := all e he; grind⟩
        have e2 : E (fun _ => z * 1) (part l e.1) = E (fun _ => z * 1 + 0 * 1) (part l e.1) := E_congr fun _ _ => by grind
        rw [e2, E_lin (f := fun _ => 1) (g := fun _ => 1)] at lt
        unfold mean mass
        grind
      grind
    exact ⟨p, hp, by have := up p hp; grind⟩
  · rw [if_neg c0]
    grind
/-! ### the law's caps -/
mutual
def capsR : Tr → Tab
  | .en w => [((w : Rat), 1)]
  | .st c bs => capL (mixL (capsP bs)) (lawStrike (mixL (capsP bs)) c)
def capsP : Bs → List Part
  | .nil => []
  | .cons w t bs => (w, capsR t) :: capsP bs
end
theorem capsP_map : ∀ bs : Bs, capsP bs = bs.list.map fun p => (p.1, capsR p.2)
  | .nil => by rw [capsP, Bs.list]; rfl
  | .cons w t bs => by rw [capsP, Bs.list, List.map_cons, capsP_map bs]
def lawStrikeT : Tr → Rat
  | .en w => w
  | .st c bs => lawStrike (mixL (capsP bs)) c
theorem good_en (w : Int) : Good [((w : Rat), (1 : Rat))] := ⟨fun p hp => by rw [List.mem_singleton.mp hp]; show (0 : Rat) < 1; decide, by show (1 : Rat) * 1 + 0 = 1; grind, List.cons_ne_nil _ _⟩
theorem belowP_ne {bs : Bs} (h : 0 < bs.list.length) : belowP bs ≠ [] := by
  rw [belowP_map]
  intro e
  rw [List.map_eq_nil_iff] at e
  rw [e] at h
  simp at h
theorem capsP_ne {bs : Bs} (h : 0 < bs.list.length) : capsP bs ≠ [] := by
  rw [capsP_map]
  intro e
  rw [List.map_eq_nil_iff] at e
  rw [e] at h
  simp at h
mutual
theorem same : ∀ {t : Tr}, t.ok → Good (tableR t) ∧ Good (capsR t) ∧ Eqv (tableR t) (capsR t) ∧ strikeT t = lawStrikeT t
  | .en w, _ => by
    rw [tableR, capsR]
    exact ⟨good_en w, good_en w, Eqv.refl _, rfl⟩
  | .st c bs, h => by
    rw [Tr.ok] at h
    obtain ⟨_, hl, _, hb⟩ := h
    obtain ⟨g1, g2, g3⟩ := sames hb
    have w1 : ∀ p ∈ belowP bs, 0 < p.1 := fun p hp => by
      rw [belowP_map] at hp
      obtain ⟨q, hq, rfl⟩ := List.mem_map.mp hp
      exact (Bs.ok_mem hb q hq).1.1
    have w2 : ∀ p ∈ capsP bs, 0 < p.1 := fun p hp => by
      rw [capsP_map] at hp
      obtain ⟨q, hq, rfl⟩ := List.mem_map.mp hp
      exact (Bs.ok_mem hb q hq).1.1
    have m1 : Good (mixL (belowP bs)) := Good.mix g1 w1 (belowP_ne hl)
    have m2 : Good (mixL (capsP bs)) := Good.mix g2 w2 (capsP_ne hl)
    have m3 : Good (mixR (belowP bs)) := m1.dict
    have ev : Eqv (mixR (belowP bs)) (mixL (capsP bs)) := (Eqv.dict _).trans g3.mix
    have c0 : (0 : Rat) ≤ (c : Rat) := Rat.natCast_nonneg
    have se : strikeR (mixR (belowP bs)) c = lawStrike (mixL (capsP bs)) c := by
      have s1 := strikeR_ok m3 (Asc.dict _) c0
      have s2 := lawStrike_ok m2 c0
      rw [IsStrike_congr ev.E ev.k] at s1
      exact strike_uniq m2.pos c0 s1 s2
    rw [tableR, capsR, ← se]
    refine ⟨(m3.cap _).dict, m2.cap _, ?_, se⟩
    exact (Eqv.dict _).trans (ev.cap _)
theorem sames : ∀ {bs : Bs}, bs.ok → (∀ p ∈ belowP bs, Good p.2) ∧ (∀ p ∈ capsP bs, Good p.2) ∧ Eqp (belowP bs) (capsP bs)
  | .nil, _ => ⟨fun _ h => (List.not_mem_nil h).elim, fun _ h => (List.not_mem_nil h).elim, .nil⟩
  | .cons w t bs, h => by
    rw [Bs.ok] at h
    obtain ⟨g1, g2, g3, _⟩ := same h.2.1
    obtain ⟨b1, b2, b3⟩ := sames h.2.2
    rw [belowP, capsP]
    exact ⟨fun p hp => by
      rcases List.mem_cons.mp hp with rfl | hp
      · exact g1
      · exact b1 p hp, fun p hp => by
      rcases List.mem_cons.mp hp with rfl | hp
      · exact g2
      · exact b2 p hp, .cons g3 b3⟩
end
end Lw

namespace Lw
/-! P5: sizes of tables. -/
def Dv (D : Nat) (q : Rat) : Prop := ∃ n : Int, q * D = n
theorem Dv.add {D : Nat} {p q : Rat} (h : Dv D p) (g : Dv D q) : Dv D (p + q) := by
  obtain ⟨n, e⟩ := h
  obtain ⟨m, f⟩ := g
  exact ⟨n + m, by rw [Rat.intCast_add, ← e, ← f]; grind⟩
theorem Dv.sub {D : Nat} {p q : Rat} (h : Dv D p) (g : Dv D q) : Dv D (p - q) := by
  obtain ⟨n, e⟩ := h
  obtain ⟨m, f⟩ := g
  exact ⟨n - m, by rw [Rat.intCast_sub, ← e, ← f]; grind⟩
theorem Dv.mul {D E : Nat} {p q : Rat} (h : Dv D p) (g : Dv E q) : Dv (D * E) (p * q) := by
  obtain ⟨n, e⟩ := h
  obtain ⟨m, f⟩ := g
  exact ⟨n * m, by rw [Rat.intCast_mul, Rat.natCast_mul, ← e, ← f]; grind⟩
theorem Dv.zero {D : Nat} : Dv D 0 := ⟨0, by rw [Rat.zero_mul]; rfl⟩
theorem Dv.one {D : Nat} : Dv D 1 := ⟨D, by rw [Rat.one_mul, Rat.intCast_natCast]⟩
theorem Dv.int {D : Nat} (i : Int) : Dv D (i : Rat) := ⟨i * D, by rw [Rat.intCast_mul, Rat.intCast_natCast]⟩
theorem Dv.mulR {D : Nat} {q : Rat} (k : Nat) (h : Dv D q) : Dv (D * k) q := by
  have := h.mul (Dv.one (D := k))
  rwa [Rat.mul_one] at this
theorem Dv.mulL {D : Nat} {q : Rat} (k : Nat) (h : Dv D q) : Dv (k * D) q := by
  rw [Nat.mul_comm]
  exact h.mulR k
theorem Dv.w {w W : Nat} (hW : 0 < W) : Dv W (mkRat w W) := ⟨w, by rw [Rat.mkRat_eq_div, Rat.div_mul_cancel]; have : (0 : Rat) < (W : Rat) := Rat.natCast_pos.mpr hW; grind⟩
structure Szt (V M s n : Nat) (t : Tab) : Prop where
  el : ∀ e ∈ t, Dv V e.1 ∧ Dv M e.2 ∧ -(1000000 * (1 + (s : Rat))) ≤ e.1 ∧ e.1 ≤ 1000000
  ln : t.length ≤ n
def tl (ps : List Part) : Nat := (ps.map fun p => p.2.length).sum
structure Szp (V M s n : Nat) (ps : List Part) : Prop where
  el : ∀ p ∈ ps, ∀ e ∈ p.2, Dv V e.1 ∧ Dv M e.2 ∧ -(1000000 * (1 + (s : Rat))) ≤ e.1 ∧ e.1 ≤ 1000000
  ln : tl ps ≤ n
theorem len_mixL (ps : List Part) : (mixL ps).length = tl ps := by
  unfold mixL tl
  generalize wsum ps = W
  induction ps with
  | nil => rfl
  | cons p ps ih => rw [List.flatMap_cons, List.length_append, List.map_cons, List.sum_cons, ih, List.length_map]
theorem Szp.mix {V M s n : Nat} {ps : List Part} (h : Szp V M s n ps) (W0 : 0 < wsum ps) : Szt V (M * wsum ps) s n (mixL ps) := by
  refine ⟨fun e he => ?_, by rw [len_mixL]; exact h.ln⟩
  obtain ⟨p, hp, he⟩ := List.mem_flatMap.mp he
  obtain ⟨f, hf, rfl⟩ := List.mem_map.mp he
  obtain ⟨a, b, c, d⟩ := h.el p hp f hf
  exact ⟨a, b.mul (Dv.w W0), c, d⟩
theorem Szt.dict {V M s n : Nat} {l : Tab} (h : Szt V M s n l) : Szt V M s n (tabOf (addAll [] l)) := by
  have nd := (addAll_ok (f := fun v => v) l [] List.nodup_nil).1
  have kk := (addAll_ok (f := fun v => v) l [] List.nodup_nil).2.2
  have key : ∀ (l m : Tab), (∀ e ∈ l, Dv M e.2) → (∀ e ∈ m, Dv M e.2) → (∀ e ∈ addAll m l, Dv M e.2) ∧ (addAll m l).length ≤ m.length + l.length := by
    intro l
    induction l with
    | nil => intro m _ hm; exact ⟨hm, Nat.le_refl _⟩
    | cons e l ih =>
      intro m hl hm
      obtain ⟨h1, h2⟩ := ih (addR m e.1 e.2) (fun p hp => hl p (List.mem_cons_of_mem _ hp)) fun p hp => by
        rcases mem_putR hp with hp | rfl
        · exact hm p hp
        · have h1 := hl e (List.mem_cons_self ..)
          have h2 : Dv M ((getR m e.1).getD 0) := by
            cases c : getR m e.1 with
            | none => exact Dv.zero
            | some x => exact hm _ (getR_memD c)
          exact h2.add h1
      refine ⟨h1, Nat.le_trans h2 ?_⟩
      have := len_putR (m := m) (q := e.1) (v := (getR m e.1).getD 0 + e.2)
      unfold addR
      simp only [List.length_cons]
      omega
  obtain ⟨k1, k2⟩ := key l [] (fun e he => (h.el e he).2.1) (fun _ z => (List.not_mem_nil z).elim)
  refine ⟨fun e he => ?_, ?_⟩
  · unfold tabOf at he
    obtain ⟨v, hv, rfl⟩ := List.mem_map.mp he
    have hv := (mem_sortQ nd).mp hv
    obtain ⟨x, hx⟩ := getR_some hv
    have d := k1 _ (getR_memD hx)
    rcases (kk v).mp hv with z | z
    · cases z
    · obtain ⟨f, hf, rfl⟩ := List.mem_map.mp z
      obtain ⟨a, _, b, c⟩ := h.el f hf
      refine ⟨a, ?_, b, c⟩
      simpa [hx] using d
  · have p : (sortQ (keys (addAll [] l))).Perm (keys (addAll [] l)) := (List.perm_ext_iff_of_nodup (nodup_of_lt (sortQ_sorted nd)) nd).mpr fun a => mem_sortQ nd
    unfold tabOf
    rw [List.length_map, p.length_eq]
    unfold keys
    rw [List.length_map]
    have := h.ln
    simp only [List.length_nil] at k2
    omega
theorem Szt.cap {V M s n : Nat} {l : Tab} (h : Szt V M s n l) {z : Rat} {m s' : Nat} (hz : Dv (V * m) z) (h1 : -(1000000 * (1 + (s' : Rat))) ≤ z) (h2 : z ≤ 1000000) (hs : s ≤ s') : Szt (V * m) M s' n (capL l z) := by
  refine ⟨fun e he => ?_, by unfold capL; rw [List.length_map]; exact h.ln⟩
  obtain ⟨f, hf, rfl⟩ := List.mem_map.mp he
  obtain ⟨a, b, c, d⟩ := h.el f hf
  have ss : (s : Rat) ≤ (s' : Rat) := Rat.natCast_le_natCast.mpr hs
  unfold mn
  dsimp only
  split
  · exact ⟨hz, b, h1, h2⟩
  · exact ⟨a.mulR m, b, by grind, d⟩
theorem dv_mass {V M s n : Nat} : ∀ {t : Tab}, (∀ e ∈ t, Dv V e.1 ∧ Dv M e.2) → Dv M (mass t) ∧ Dv (V * M) (mean t)
  | [], _ => ⟨Dv.zero, Dv.zero⟩
  | e :: t, h => by
    obtain ⟨a, b⟩ := h e (List.mem_cons_self ..)
    obtain ⟨c, d⟩ := dv_mass (V := V) (M := M) (s := s) (n := n) (t := t) fun f hf => h f (List.mem_cons_of_mem _ hf)
    unfold mass mean at *
    rw [E_cons, E_cons]
    refine ⟨?_, ?_⟩
    · rw [Rat.mul_one]; exact b.add c
    · have := a.mul b
      rw [Rat.mul_comm] at this
      exact this.add d
theorem strike_dv {V M s n : Nat} {t : Tab} {c : Nat} (g : Good t) (a : Asc t) (h : Szt V M s n t) (M0 : 0 < M) : ∃ m : Nat, 0 < m ∧ m ≤ M ∧ Dv (V * m) (strikeR t c) := by
  by_cases c0 : (c : Rat) = 0
  · have := strikeR_ok g a (c := (c : Rat)) Rat.natCast_nonneg
    unfold IsStrike at this
    rw [if_pos c0] at this
    obtain ⟨⟨p, hp, e⟩, _⟩ := this
    refine ⟨1, by omega, by omega, ?_⟩
    rw [← e]
    exact (h.el p hp).1.mulR 1
  · have cp : (0 : Rat) < (c : Rat) := by have : (0 : Rat) ≤ (c : Rat) := Rat.natCast_nonneg; grind
    obtain ⟨p, b, e, ne, q⟩ := strikeR_quot g a cp
    have hb : ∀ f ∈ b, Dv V f.1 ∧ Dv M f.2 := fun f hf => by
      have := h.el f (by rw [e]; exact List.mem_append_right _ hf)
      exact ⟨this.1, this.2.1⟩
    obtain ⟨⟨m, em⟩, d⟩ := dv_mass (s := s) (n := n) hb
    have pb : Pos b := fun f hf => g.pos f (by rw [e]; exact List.mem_append_right _ hf)
    have pp : Pos p := fun f hf => g.pos f (by rw [e]; exact List.mem_append_left _ hf)
    have mp := mass_pos pb ne
    have ml : mass b ≤ 1 := by
      have o := g.one
      rw [e, mass_append] at o
      have := mass_nn pp
      grind
    have M0' : (0 : Rat) < (M : Rat) := Rat.natCast_pos.mpr M0
    have m0 : (0 : Rat) < (m : Rat) := by rw [← em]; exact Rat.mul_pos mp M0'
    have m0' : 0 < m := Rat.intCast_pos.mp m0
    have m1 : (m : Rat) ≤ ((M : Int) : Rat) := by
      rw [← em, Rat.intCast_natCast]
      have := Rat.mul_le_mul_of_nonneg_right ml (Rat.le_of_lt M0')
      grind
    have m1' : m ≤ M := Rat.intCast_le_intCast.mp m1
    refine ⟨m.toNat, by omega, by omega, ?_⟩
    obtain ⟨N, eN⟩ := d.sub (Dv.int (D := V * M) (c : Int))
    refine ⟨N, ?_⟩
    have t1 : ((m.toNat : Nat) : Rat) = (m : Rat) := by rw [← Rat.intCast_natCast, Int.toNat_of_nonneg (by omega)]
    have qm : (mean b - (c : Rat)) / mass b * mass b = mean b - c := Rat.div_mul_cancel (by grind)
    rw [q, ← eN, Rat.natCast_mul, Rat.natCast_mul, t1, ← em, Rat.intCast_natCast]
    grind
def tri : Nat → Nat
  | 0 => 0
  | n + 1 => tri n + (n + 1)
theorem tri_add (a b : Nat) : tri a + tri b ≤ tri (a + b) := by
  induction b with
  | zero => exact Nat.le_refl _
  | succ b ih => rw [← Nat.add_assoc, tri, tri]; omega
theorem tri_mono {a b : Nat} (h : a ≤ b) : tri a ≤ tri b := by
  induction b with
  | zero => have : a = 0 := by omega
            subst this; exact Nat.le_refl _
  | succ b ih =>
    by_cases e : a = b + 1
    · subst e; exact Nat.le_refl _
    · have := ih (by omega); rw [tri]; omega
theorem wsum_le {bs : Bs} (hb : bs.ok) (f : Tr → Tab) : wsum (bs.list.map fun p => (p.1, f p.2)) ≤ 1000 * bs.list.length := by
  have : ∀ l : List (Nat × Tr), (∀ p ∈ l, p.1 ≤ 1000) → wsum (l.map fun p => (p.1, f p.2)) ≤ 1000 * l.length := by
    intro l
    induction l with
    | nil => intro _; exact Nat.le_refl _
    | cons p l ih =>
      intro h
      have h1 := h p (List.mem_cons_self ..)
      have h2 := ih fun q hq => h q (List.mem_cons_of_mem _ hq)
      unfold wsum at h2 ⊢
      simp only [List.map_cons, List.sum_cons, List.length_cons]
      omega
  exact this _ fun p hp => (Bs.ok_mem hb p hp).1.2
/-- what is known of the tables of a node's branches, mixed -/
structure Mixd (bs : Bs) (V M : Nat) : Prop where
  V0 : 0 < V
  M0 : 0 < M
  Vl : V ≤ 2 ^ (13 * tri bs.steps)
  Ml : M ≤ 2 ^ (13 * (bs.steps + 1))
  b : Szt V M bs.steps bs.size (belowR bs)
  c : Szt V M bs.steps bs.size (mixL (capsP bs))
structure Tabd (t : Tr) (V M : Nat) : Prop where
  V0 : 0 < V
  M0 : 0 < M
  Vl : V ≤ 2 ^ (13 * tri t.steps)
  Ml : M ≤ 2 ^ (13 * t.steps)
  b : Szt V M t.steps t.size (tableR t)
  c : Szt V M t.steps t.size (capsR t)
structure Ford (bs : Bs) (V M : Nat) : Prop where
  V0 : 0 < V
  M0 : 0 < M
  Vl : V ≤ 2 ^ (13 * tri bs.steps)
  Ml : M ≤ 2 ^ (13 * bs.steps)
  b : Szp V M bs.steps bs.size (belowP bs)
  c : Szp V M bs.steps bs.size (capsP bs)
theorem Ford.mix {bs : Bs} {V M : Nat} (F : Ford bs V M) (hb : bs.ok) (h0 : 0 < bs.list.length) (h5 : bs.list.length ≤ 5) : ∃ M', Mixd bs V M' := by
  have w1 : wsum (belowP bs) = wsum (capsP bs) := (sames hb).2.2.wsum
  have w0 : 0 < wsum (belowP bs) := wpos (fun p hp => by
      rw [belowP_map] at hp
      obtain ⟨q, hq, rfl⟩ := List.mem_map.mp hp
      exact (Bs.ok_mem hb q hq).1.1) (belowP_ne h0)
  have wl : wsum (belowP bs) ≤ 2 ^ 13 := by
    have := wsum_le hb tableR
    rw [← belowP_map] at this
    omega
  refine ⟨M * wsum (belowP bs), F.V0, Nat.mul_pos F.M0 w0, F.Vl, ?_, (F.b.mix w0).dict, ?_⟩
  · rw [Nat.mul_add, Nat.pow_add]
    exact Nat.mul_le_mul F.Ml wl
  · rw [w1]
    exact F.c.mix (by omega)
mutual
theorem tabd : ∀ {t : Tr}, t.ok → ∃ V M, Tabd t V M
  | .en w, h => by
    rw [Tr.ok] at h
    have el : Szt 1 1 0 1 [((w : Rat), (1 : Rat))] := by
      refine ⟨fun e he => ?_, Nat.le_refl _⟩
      rw [List.mem_singleton.mp he]
      refine ⟨Dv.int w, Dv.one, ?_, ?_⟩
      · have : ((-1000000 : Int) : Rat) ≤ (w : Rat) := Rat.intCast_le_intCast.mpr (by omega)
        have e1 : ((-1000000 : Int) : Rat) = -1000000 := rfl
        have e2 : ((0 : Nat) : Rat) = 0 := rfl
        rw [e1] at this
        rw [e2]
        dsimp only
        grind
      · have : (w : Rat) ≤ ((1000000 : Int) : Rat) := Rat.intCast_le_intCast.mpr (by omega)
        have e1 : ((1000000 : Int) : Rat) = 1000000 := rfl
        rw [e1] at this
        exact this
    exact ⟨1, 1, by omega, by omega, Nat.le_refl _, Nat.le_refl _, by rw [tableR]; exact el, by rw [capsR]; exact el⟩
  | .st c bs, h => by
    rw [Tr.ok] at h
    obtain ⟨hc, hl, h5, hb⟩ := h
    obtain ⟨V, M0, F⟩ := ford hb
    obtain ⟨M, X⟩ := F.mix hb hl h5
    obtain ⟨g1, g2, g3⟩ := sames hb
    have w1 : ∀ p ∈ belowP bs, 0 < p.1 := fun p hp => by
      rw [belowP_map] at hp
      obtain ⟨q, hq, rfl⟩ := List.mem_map.mp hp
      exact (Bs.ok_mem hb q hq).1.1
    have gb : Good (belowR bs) := (Good.mix g1 w1 (belowP_ne hl)).dict
    have ab : Asc (belowR bs) := Asc.dict _
    have c0 : (0 : Rat) ≤ (c : Rat) := Rat.natCast_nonneg
    obtain ⟨m, m0, m1, dz⟩ := strike_dv (c := c) gb ab X.b X.M0
    have sk := strikeR_ok gb ab c0
    have z2 := strike_le gb c0 sk (B := 1000000) fun p hp => (X.b.el p hp).2.2.2
    have z1 := strike_ge gb c0 sk (B := -(1000000 * (1 + (bs.steps : Rat)))) fun p hp => (X.b.el p hp).2.2.1
    have c1 : (c : Rat) ≤ 1000000 := by
      have : (c : Rat) ≤ ((1000000 : Nat) : Rat) := Rat.natCast_le_natCast.mpr hc
      exact this
    have z1' : -(1000000 * (1 + ((bs.steps + 1 : Nat) : Rat))) ≤ strikeR (belowR bs) c := by
      have e1 : ((bs.steps + 1 : Nat) : Rat) = (bs.steps : Rat) + 1 := by rw [Rat.natCast_add]; rfl
      rw [e1]
      grind
    have se : lawStrike (mixL (capsP bs)) c = strikeR (belowR bs) c := by
      have := (same (t := .st c bs) (by rw [Tr.ok]; exact ⟨hc, hl, h5, hb⟩)).2.2.2
      exact this.symm
    refine ⟨V * m, M, Nat.mul_pos X.V0 m0, X.M0, ?_, X.Ml, ?_, ?_⟩
    · simp only [Tr.steps, tri]
      rw [Nat.mul_add, Nat.pow_add]
      exact Nat.mul_le_mul X.Vl (Nat.le_trans m1 X.Ml)
    · simp only [Tr.steps, Tr.size]
      rw [tableR]
      have := (X.b.cap dz z1' z2 (Nat.le_succ _)).dict
      exact ⟨this.el, Nat.le_succ_of_le this.ln⟩
    · simp only [Tr.steps, Tr.size]
      rw [capsR, se]
      have := X.c.cap dz z1' z2 (Nat.le_succ _)
      exact ⟨this.el, Nat.le_succ_of_le this.ln⟩
theorem ford : ∀ {bs : Bs}, bs.ok → ∃ V M, Ford bs V M
  | .nil, _ => ⟨1, 1, by omega, by omega, Nat.le_refl _, Nat.le_refl _, ⟨fun _ h => (List.not_mem_nil h).elim, Nat.le_refl _⟩, ⟨fun _ h => (List.not_mem_nil h).elim, Nat.le_refl _⟩⟩
  | .cons w t bs, h => by
    rw [Bs.ok] at h
    obtain ⟨V, M, T⟩ := tabd h.2.1
    obtain ⟨V', M', F⟩ := ford h.2.2
    have up : ∀ {a b : Nat} {x : Rat}, a ≤ b → -(1000000 * (1 + (a : Rat))) ≤ x → -(1000000 * (1 + (b : Rat))) ≤ x := by
      intro a b x hab hx
      have : (a : Rat) ≤ (b : Rat) := Rat.natCast_le_natCast.mpr hab
      grind
    have join : ∀ (s : Tab) (ps : List Part), Szt V M t.steps t.size s → Szp V' M' bs.steps bs.size ps → Szp (V * V') (M * M') (t.steps + bs.steps) (t.size + bs.size) ((w, s) :: ps) := by
      intro s ps hs hp
      refine ⟨fun p hp' e he => ?_, ?_⟩
      · rcases List.mem_cons.mp hp' with rfl | hp'
        · obtain ⟨a, b, c, d⟩ := hs.el e he
          exact ⟨a.mulR _, b.mulR _, up (by omega) c, d⟩
        · obtain ⟨a, b, c, d⟩ := hp.el p hp' e he
          exact ⟨a.mulL _, b.mulL _, up (by omega) c, d⟩
      · have h1 := hs.ln
        have h2 := hp.ln
        unfold tl at h2 ⊢
        simp only [List.map_cons, List.sum_cons]
        omega
    refine ⟨V * V', M * M', Nat.mul_pos T.V0 F.V0, Nat.mul_pos T.M0 F.M0, ?_, ?_, ?_, ?_⟩
    · simp only [Bs.steps]
      refine Nat.le_trans (Nat.mul_le_mul T.Vl F.Vl) ?_
      rw [← Nat.pow_add]
      exact Nat.pow_le_pow_right (by decide) (by have := tri_add t.steps bs.steps; omega)
    · simp only [Bs.steps]
      rw [Nat.mul_add, Nat.pow_add]
      exact Nat.mul_le_mul T.Ml F.Ml
    · simp only [Bs.steps, Bs.size]
      rw [belowP]
      exact join _ _ T.b F.b
    · simp only [Bs.steps, Bs.size]
      rw [capsP]
      exact join _ _ T.c F.c
end
end Lw

namespace Lw
/-! P6: pairs: what the law asks, and that it fits together. -/
theorem places_same {s t : Tr} (hs : s.ok) (ht : t.ok) (m : Rat) : (m ∈ keys (tableR s) ∨ m ∈ keys (tableR t)) ↔ (m ∈ keys (capsR s) ∨ m ∈ keys (capsR t)) := by
  rw [(same hs).2.2.1.k, (same ht).2.2.1.k]
theorem rst_same {s : Tr} (hs : s.ok) (m : Rat) : rst (tableR s) m = rst (capsR s) m := (same hs).2.2.1.E _
/-- the law's marks -/
def marksR (a b : Tab) : List Rat := 0 :: ((a ++ b).filter fun e => decide (0 < e.1)).map (·.1)
theorem mem_marks {a b : Tab} {m : Rat} : m ∈ marksR a b ↔ m = 0 ∨ (0 < m ∧ (m ∈ keys a ∨ m ∈ keys b)) := by
  unfold marksR keys
  simp only [List.mem_cons, List.mem_map, List.mem_filter, List.mem_append, decide_eq_true_eq]
  constructor
  · rintro (h | ⟨e, ⟨h1 | h1, h2⟩, rfl⟩)
    · exact .inl h
    · exact .inr ⟨h2, .inl ⟨e, h1, rfl⟩⟩
    · exact .inr ⟨h2, .inr ⟨e, h1, rfl⟩⟩
  · rintro (h | ⟨h, ⟨e, h1, rfl⟩ | ⟨e, h1, rfl⟩⟩)
    · exact .inl h
    · exact .inr ⟨e, ⟨.inl h1, h⟩, rfl⟩
    · exact .inr ⟨e, ⟨.inr h1, h⟩, rfl⟩
theorem interp {t : Tab} {a b m : Rat} (h1 : a ≤ m) (h2 : m < b) (hv : ∀ p ∈ t, p.1 ≤ a ∨ b ≤ p.1) : (b - a) * rst t m = (b - m) * rst t a + (m - a) * rst t b := by
  unfold rst
  rw [← E_lin]
  have : (b - a) * E (fun v => pos (v - m)) t = E (fun v => (b - a) * pos (v - m) + 0 * pos (v - m)) t := by
    rw [E_lin (f := fun v => pos (v - m)) (g := fun v => pos (v - m))]
    grind
  rw [this]
  apply E_congr
  intro p hp
  unfold pos
  rcases hv p hp with q | q
  · rw [if_neg (by grind), if_neg (by grind), if_neg (by grind)]
    grind
  · rw [if_pos (by grind), if_pos (by grind)]
    split
    · grind
    · have : p.1 = b := by grind
      rw [this]
      grind
theorem rst_zero {t : Tab} {m : Rat} (h : ∀ p ∈ t, p.1 ≤ m) : rst t m = 0 := by
  unfold rst
  rw [← E_zero (t := t)]
  apply E_congr
  intro p hp
  have := h p hp
  unfold pos
  rw [if_neg (by grind)]
/-- rests in order at all marks are in order everywhere from 0 on -/
theorem never_all {a b : Tab} (h : ∀ m ∈ marksR a b, rst b m ≤ rst a m) {m : Rat} (hm : 0 ≤ m) : rst b m ≤ rst a m := by
  have z0 : (0 : Rat) ∈ (marksR a b).filter (fun x => decide (x ≤ m)) := by
    rw [List.mem_filter]
    exact ⟨mem_marks.mpr (.inl rfl), by simpa using hm⟩
  obtain ⟨x, hx, mx⟩ := exists_min (fun x : Rat => -x) _ (List.ne_nil_of_mem z0)
  rw [List.mem_filter] at hx
  obtain ⟨hx, lx⟩ := hx
  have lx : x ≤ m := by simpa using lx
  have x0 : 0 ≤ x := by have := mx 0 z0; grind
  have below : ∀ v : Rat, (v ∈ keys a ∨ v ∈ keys b) → v ≤ m → v ≤ x := by
    intro v hv l
    by_cases p : 0 < v
    · have := mx v (by rw [List.mem_filter]; exact ⟨mem_marks.mpr (.inr ⟨p, hv⟩), by simpa using l⟩)
      grind
    · grind
  by_cases e : (marksR a b).filter (fun x => decide (m < x)) = []
  · have up : ∀ v : Rat, (v ∈ keys a ∨ v ∈ keys b) → v ≤ m := by
      intro v hv
      by_cases q : m < v
      · have : v ∈ (marksR a b).filter (fun x => decide (m < x)) := by
          rw [List.mem_filter]
          exact ⟨mem_marks.mpr (.inr ⟨by grind, hv⟩), by simpa using q⟩
        rw [e] at this
        cases this
      · grind
    rw [rst_zero (t := a) fun p hp => up _ (.inl (List.mem_map.mpr ⟨p, hp, rfl⟩)), rst_zero (t := b) fun p hp => up _ (.inr (List.mem_map.mpr ⟨p, hp, rfl⟩))]
    exact Rat.le_refl
  · obtain ⟨y, hy, my⟩ := exists_min (fun x : Rat => x) _ e
    rw [List.mem_filter] at hy
    obtain ⟨hy, ly⟩ := hy
    have ly : m < y := by simpa using ly
    have above : ∀ v : Rat, (v ∈ keys a ∨ v ∈ keys b) → v ≤ x ∨ y ≤ v := by
      intro v hv
      by_cases q : m < v
      · right
        exact my v (by rw [List.mem_filter]; exact ⟨mem_marks.mpr (.inr ⟨by grind, hv⟩), by simpa using q⟩)
      · left
        exact below v hv (by grind)
    have ia := interp (t := a) lx ly fun p hp => above _ (.inl (List.mem_map.mpr ⟨p, hp, rfl⟩))
    have ib := interp (t := b) lx ly fun p hp => above _ (.inr (List.mem_map.mpr ⟨p, hp, rfl⟩))
    have hxx := h x hx
    have hyy := h y hy
    have c1 := Rat.mul_le_mul_of_nonneg_left hxx (show 0 ≤ y - m by grind)
    have c2 := Rat.mul_le_mul_of_nonneg_left hyy (show 0 ≤ m - x by grind)
    apply Rat.le_of_mul_le_mul_left (c := y - x) _ (by grind)
    grind
/-! lists of branches -/
def Bs.of : List (Nat × Tr) → Bs
  | [] => .nil
  | p :: l => .cons p.1 p.2 (Bs.of l)
theorem Bs.of_list : ∀ l : List (Nat × Tr), (Bs.of l).list = l
  | [] => rfl
  | p :: l => by rw [Bs.of, Bs.list, Bs.of_list l]
theorem Bs.of_ok : ∀ {l : List (Nat × Tr)}, (∀ p ∈ l, (1 ≤ p.1 ∧ p.1 ≤ 1000) ∧ p.2.ok) → (Bs.of l).ok
  | [], _ => by rw [Bs.of, Bs.ok]; trivial
  | p :: l, h => by
    rw [Bs.of, Bs.ok]
    obtain ⟨a, b⟩ := h p (List.mem_cons_self ..)
    exact ⟨a, b, Bs.of_ok fun q hq => h q (List.mem_cons_of_mem _ hq)⟩
theorem Bs.of_size : ∀ l : List (Nat × Tr), (Bs.of l).size = (l.map fun p => p.2.size).sum
  | [] => rfl
  | p :: l => by rw [Bs.of, Bs.size, Bs.of_size l]; rfl
theorem Bs.of_deep : ∀ {l : List (Nat × Tr)} {n : Nat}, (∀ p ∈ l, p.2.deep ≤ n) → (Bs.of l).deep ≤ n
  | [], n, _ => by rw [Bs.of, Bs.deep]; omega
  | p :: l, n, h => by
    rw [Bs.of, Bs.deep]
    have h1 := h p (List.mem_cons_self ..)
    have h2 := Bs.of_deep (l := l) (n := n) fun q hq => h q (List.mem_cons_of_mem _ hq)
    omega
theorem Bs.size_sum : ∀ bs : Bs, bs.size = (bs.list.map fun p => p.2.size).sum
  | .nil => rfl
  | .cons w t bs => by rw [Bs.size, Bs.list, Bs.size_sum bs]; rfl
/-! a drawn tree: weights, costs, worths are small -/
mutual
def Tr.sm : Tr → Prop
  | .en w => -1000 ≤ w ∧ w ≤ 1000
  | .st c bs => c ≤ 1000 ∧ 0 < bs.list.length ∧ bs.list.length ≤ 5 ∧ bs.sm
def Bs.sm : Bs → Prop
  | .nil => True
  | .cons w t bs => (1 ≤ w ∧ w ≤ 100) ∧ t.sm ∧ bs.sm
end
mutual
theorem Tr.sm_ok : ∀ {t : Tr}, t.sm → t.ok
  | .en w, h => by rw [Tr.sm] at h; rw [Tr.ok]; omega
  | .st c bs, h => by rw [Tr.sm] at h; rw [Tr.ok]; exact ⟨by omega, h.2.1, h.2.2.1, Bs.sm_ok h.2.2.2⟩
theorem Bs.sm_ok : ∀ {bs : Bs}, bs.sm → bs.ok
  | .nil, _ => by rw [Bs.ok]; trivial
  | .cons w t bs, h => by rw [Bs.sm] at h; rw [Bs.ok]; exact ⟨⟨h.1.1, by omega⟩, Tr.sm_ok h.2.1, Bs.sm_ok h.2.2⟩
end
theorem Bs.sm_mem : ∀ {bs : Bs}, bs.sm → ∀ p ∈ bs.list, (1 ≤ p.1 ∧ p.1 ≤ 100) ∧ p.2.sm
  | .nil, _, p, hp => by cases hp
  | .cons w t bs, h, p, hp => by
    rw [Bs.sm] at h
    rw [Bs.list] at hp
    rcases List.mem_cons.mp hp with rfl | hp
    · exact ⟨h.1, h.2.1⟩
    · exact Bs.sm_mem h.2.2 p hp
theorem Bs.of_sm : ∀ {l : List (Nat × Tr)}, (∀ p ∈ l, (1 ≤ p.1 ∧ p.1 ≤ 100) ∧ p.2.sm) → (Bs.of l).sm
  | [], _ => by rw [Bs.of, Bs.sm]; trivial
  | p :: l, h => by
    rw [Bs.of, Bs.sm]
    obtain ⟨a, b⟩ := h p (List.mem_cons_self ..)
    exact ⟨a, b, Bs.of_sm fun q hq => h q (List.mem_cons_of_mem _ hq)⟩
end Lw

namespace Lw
/-! P7: the greatest numbers of some, their mean, the worth of a company. -/
def mx (a b : Rat) : Rat := if a < b then b else a
theorem mx_l (a b : Rat) : a ≤ mx a b := by unfold mx; split <;> grind
theorem mx_r (a b : Rat) : b ≤ mx a b := by unfold mx; split <;> grind
theorem mx_le {a b c : Rat} (h : a ≤ c) (g : b ≤ c) : mx a b ≤ c := by unfold mx; split <;> assumption
/-- the greatest sum of at most k of some numbers -/
def topk : Nat → List Rat → Rat
  | _, [] => 0
  | 0, _ :: _ => 0
  | k + 1, x :: l => mx (topk (k + 1) l) (x + topk k l)
theorem topk_nil (k : Nat) : topk k [] = 0 := by cases k <;> rfl
theorem topk_zero (l : List Rat) : topk 0 l = 0 := by cases l <;> rfl
theorem topk_cons (k : Nat) (x : Rat) (l : List Rat) : topk (k + 1) (x :: l) = mx (topk (k + 1) l) (x + topk k l) := rfl
theorem topk_nn : ∀ (k : Nat) (l : List Rat), 0 ≤ topk k l
  | k, [] => by rw [topk_nil]; exact Rat.le_refl
  | 0, _ :: _ => by rw [topk_zero]; exact Rat.le_refl
  | k + 1, x :: l => by rw [topk_cons]; exact Rat.le_trans (topk_nn (k + 1) l) (mx_l _ _)
theorem topk_mono_k : ∀ (k : Nat) (l : List Rat), topk k l ≤ topk (k + 1) l
  | k, [] => by rw [topk_nil, topk_nil]; exact Rat.le_refl
  | 0, x :: l => by rw [topk_zero]; exact topk_nn _ _
  | k + 1, x :: l => by
    rw [topk_cons, topk_cons]
    have h1 := topk_mono_k (k + 1) l
    have h2 := topk_mono_k k l
    exact mx_le (Rat.le_trans h1 (mx_l _ _)) (Rat.le_trans (by grind) (mx_r _ _))
theorem topk_tail (k : Nat) (x : Rat) (l : List Rat) : topk k l ≤ topk k (x :: l) := by
  cases k with
  | zero => rw [topk_zero, topk_zero]; exact Rat.le_refl
  | succ k => rw [topk_cons]; exact mx_l _ _
theorem topk_swap (k : Nat) (x y : Rat) (l : List Rat) : topk k (x :: y :: l) = topk k (y :: x :: l) := by
  cases k with
  | zero => rw [topk_zero, topk_zero]
  | succ k =>
    cases k with
    | zero =>
      rw [topk_cons, topk_cons, topk_cons, topk_cons, topk_zero, topk_zero, topk_zero]
      unfold mx
      grind
    | succ k =>
      rw [topk_cons, topk_cons, topk_cons, topk_cons, topk_cons, topk_cons]
      unfold mx
      grind
theorem topk_perm {l m : List Rat} (h : l.Perm m) : ∀ k, topk k l = topk k m := by
  induction h with
  | nil => intro k; rfl
  | cons x _ ih =>
    intro k
    cases k with
    | zero => rw [topk_zero, topk_zero]
    | succ k => rw [topk_cons, topk_cons, ih, ih]
  | swap x y l => intro k; exact topk_swap k y x l
  | trans _ _ i j => intro k; rw [i, j]
/-- higher numbers, by at most d -/
theorem topk_lip (k : Nat) {x y : Rat} (l : List Rat) (h : x ≤ y) : topk k (x :: l) ≤ topk k (y :: l) ∧ topk k (y :: l) ≤ topk k (x :: l) + (y - x) := by
  cases k with
  | zero => rw [topk_zero, topk_zero]; grind
  | succ k =>
    rw [topk_cons, topk_cons]
    have h1 := mx_l (topk (k + 1) l) (x + topk k l)
    have h2 := mx_r (topk (k + 1) l) (x + topk k l)
    have h3 := mx_l (topk (k + 1) l) (y + topk k l)
    have h4 := mx_r (topk (k + 1) l) (y + topk k l)
    exact ⟨mx_le (by grind) (by grind), mx_le (by grind) (by grind)⟩
theorem topk_neg (k : Nat) {x : Rat} (l : List Rat) (h : x ≤ 0) : topk k (x :: l) = topk k l := by
  cases k with
  | zero => rw [topk_zero, topk_zero]
  | succ k =>
    rw [topk_cons]
    have := topk_mono_k k l
    unfold mx
    rw [if_neg (by grind)]
/-- how many are above -/
def above (z : Rat) (l : List Rat) : Nat := (l.filter fun x => decide (z < x)).length
def atLeast (z : Rat) (l : List Rat) : Nat := (l.filter fun x => decide (z ≤ x)).length
theorem above_cons (z y : Rat) (l : List Rat) : above z (y :: l) = (if z < y then 1 else 0) + above z l := by
  unfold above
  rw [List.filter_cons]
  by_cases h : z < y
  · simp [h]; omega
  · simp [h]
theorem atLeast_cons (z y : Rat) (l : List Rat) : atLeast z (y :: l) = (if z ≤ y then 1 else 0) + atLeast z l := by
  unfold atLeast
  rw [List.filter_cons]
  by_cases h : z ≤ y
  · simp [h]; omega
  · simp [h]
theorem few_above {z : Rat} (hz : 0 ≤ z) : ∀ (l : List Rat) (k : Nat), above z l ≤ k → topk (k + 1) l ≤ z + topk k l
  | [], k, _ => by rw [topk_nil, topk_nil]; grind
  | y :: l, 0, h => by
    rw [above_cons] at h
    have h1 : ¬ z < y := by intro c; rw [if_pos c] at h; omega
    have h2 := few_above hz l 0 (by omega)
    rw [topk_zero] at h2
    rw [topk_cons, topk_zero, topk_zero]
    exact mx_le h2 (by grind)
  | y :: l, k + 1, h => by
    rw [above_cons] at h
    rw [topk_cons (k + 1), topk_cons k]
    have t1 := mx_l (topk (k + 1) l) (y + topk k l)
    have t2 := mx_r (topk (k + 1) l) (y + topk k l)
    by_cases c : z < y
    · rw [if_pos c] at h
      have h1 := few_above hz l (k + 1) (by omega)
      have h2 := few_above hz l k (by omega)
      exact mx_le (by grind) (by grind)
    · rw [if_neg c] at h
      have h1 := few_above hz l (k + 1) (by omega)
      exact mx_le (by grind) (by grind)
/-- a number that is taken for sure -/
theorem topk_take {z x : Rat} {l : List Rat} {k : Nat} (hz : 0 ≤ z) (h : above z l ≤ k) (hx : z ≤ x) : topk (k + 1) (x :: l) = x + topk k l := by
  rw [topk_cons]
  have := few_above hz l k h
  unfold mx
  split
  · rfl
  · grind
theorem many_least {z : Rat} : ∀ (l : List Rat) (k : Nat), k + 1 ≤ atLeast z l → z + topk k l ≤ topk (k + 1) l
  | [], k, h => by simp [atLeast] at h
  | y :: l, 0, h => by
    rw [atLeast_cons] at h
    rw [topk_zero, topk_cons, topk_zero]
    by_cases c : z ≤ y
    · exact Rat.le_trans (by grind) (mx_r _ _)
    · rw [if_neg c] at h
      have := many_least (z := z) l 0 (by omega)
      rw [topk_zero] at this
      exact Rat.le_trans this (mx_l _ _)
  | y :: l, k + 1, h => by
    rw [atLeast_cons] at h
    rw [topk_cons (k + 1), topk_cons k]
    have t1 := mx_l (topk (k + 1 + 1) l) (y + topk (k + 1) l)
    have t2 := mx_r (topk (k + 1 + 1) l) (y + topk (k + 1) l)
    by_cases c : z ≤ y
    · rw [if_pos c] at h
      have h2 := many_least (z := z) l k (by omega)
      unfold mx at *
      split <;> grind
    · rw [if_neg c] at h
      have h1 := many_least (z := z) l (k + 1) (by omega)
      have h2 := many_least (z := z) l k (by omega)
      unfold mx at *
      split <;> grind
theorem topk_drop {z x : Rat} {l : List Rat} {k : Nat} (h : z ≤ 0 ∨ k ≤ atLeast z l) (hx : x ≤ z) : topk k (x :: l) = topk k l := by
  rcases h with h | h
  · exact topk_neg k l (by grind)
  · cases k with
    | zero => rw [topk_zero, topk_zero]
    | succ k =>
      have := many_least l k h
      rw [topk_cons]
      unfold mx
      rw [if_neg (by grind)]
theorem atLeast_mono (z y : Rat) (l : List Rat) : atLeast z l ≤ atLeast z (y :: l) := by rw [atLeast_cons]; omega
/-- descending, from 0 on: the first ones -/
theorem topk_sorted : ∀ (l : List Rat) (k : Nat), l.Pairwise (fun a b => b ≤ a) → (∀ a ∈ l, 0 ≤ a) → topk k l = rsum (l.take k)
  | [], k, _, _ => by rw [topk_nil]; simp [rsum]
  | x :: l, 0, _, _ => by rw [topk_zero]; simp [rsum]
  | x :: l, k + 1, h, p => by
    obtain ⟨h1, h2⟩ := List.pairwise_cons.mp h
    have a0 : above x l ≤ k := by
      unfold above
      rw [List.filter_eq_nil_iff.mpr (by
        intro b hb
        have := h1 b hb
        simp
        grind)]
      simp
    rw [topk_take (p x (List.mem_cons_self ..)) a0 Rat.le_refl, topk_sorted l k h2 fun a ha => p a (List.mem_cons_of_mem _ ha)]
    rfl
theorem topk_filter : ∀ (l : List Rat) (k : Nat), topk k (l.filter fun x => decide (0 < x)) = topk k l
  | [], k => rfl
  | x :: l, k => by
    rw [List.filter_cons]
    by_cases c : 0 < x
    · simp only [c, decide_true, if_true]
      cases k with
      | zero => rw [topk_zero, topk_zero]
      | succ k => rw [topk_cons, topk_cons, topk_filter l, topk_filter l]
    · simp only [c, decide_false, Bool.false_eq_true, if_false]
      rw [topk_neg k l (by grind), topk_filter l]
theorem topk_le {B : Rat} (hB : 0 ≤ B) : ∀ (l : List Rat) (k : Nat), (∀ a ∈ l, a ≤ B) → topk k l ≤ k * B
  | [], k, _ => by
    rw [topk_nil]
    exact Rat.mul_nonneg Rat.natCast_nonneg hB
  | x :: l, 0, _ => by rw [topk_zero]; exact Rat.mul_nonneg Rat.natCast_nonneg hB
  | x :: l, k + 1, h => by
    have h1 := topk_le hB l (k + 1) fun a ha => h a (List.mem_cons_of_mem _ ha)
    have h2 := topk_le hB l k fun a ha => h a (List.mem_cons_of_mem _ ha)
    have h3 := h x (List.mem_cons_self ..)
    have e : ((k + 1 : Nat) : Rat) = (k : Rat) + 1 := by rw [Rat.natCast_add]; rfl
    rw [topk_cons]
    rw [e] at h1 ⊢
    exact mx_le h1 (by grind)
/-! ### the mean of the greatest -/
def FE (k : Nat) : List Tab → List Rat → Rat
  | [], xs => topk k xs
  | t :: ts, xs => E (fun v => FE k ts (v :: xs)) t
theorem FE_perm (k : Nat) : ∀ (ts : List Tab) {xs ys : List Rat}, xs.Perm ys → FE k ts xs = FE k ts ys
  | [], _, _, h => topk_perm h k
  | t :: ts, _, _, h => E_congr fun p _ => FE_perm k ts (h.cons p.1)
theorem E_add (f g : Rat → Rat) (t : Tab) : E (fun v => f v + g v) t = E f t + E g t := by
  have := E_lin (f := f) (g := g) (a := 1) (b := 1) (t := t)
  simp only [Rat.one_mul] at this
  exact this
theorem E_mul (c : Rat) (f : Rat → Rat) (t : Tab) : E (fun v => c * f v) t = c * E f t := by
  have := E_lin (f := f) (g := f) (a := c) (b := 0) (t := t)
  have e : E (fun v => c * f v + 0 * f v) t = E (fun v => c * f v) t := E_congr fun p _ => by grind
  rw [e] at this
  grind
theorem E_const (c : Rat) (t : Tab) : E (fun _ => c) t = c * mass t := by
  have := E_mul c (fun _ => 1) t
  have e : E (fun _ => c * 1) t = E (fun _ => c) t := E_congr fun p _ => by grind
  rw [e] at this
  exact this
theorem E_swap (f : Rat → Rat → Rat) : ∀ (s t : Tab), E (fun u => E (fun v => f u v) t) s = E (fun v => E (fun u => f u v) s) t
  | [], t => by
    rw [E_nil]
    have : E (fun v => E (fun u => f u v) []) t = E (fun _ => 0) t := E_congr fun p _ => rfl
    rw [this, E_zero]
  | p :: s, t => by
    rw [E_cons, E_swap f s t]
    have : E (fun v => E (fun u => f u v) (p :: s)) t = E (fun v => p.2 * f p.1 v + E (fun u => f u v) s) t := E_congr fun q _ => by rw [E_cons]
    rw [this, E_add, E_mul]
theorem FE_mid (k : Nat) (t : Tab) (ts : List Tab) : ∀ (A : List Tab) (xs : List Rat), FE k (A ++ t :: ts) xs = E (fun v => FE k (A ++ ts) (v :: xs)) t
  | [], xs => rfl
  | a :: A, xs => by
    show E (fun u => FE k (A ++ t :: ts) (u :: xs)) a = E (fun v => E (fun u => FE k (A ++ ts) (u :: v :: xs)) a) t
    have e1 : E (fun u => FE k (A ++ t :: ts) (u :: xs)) a = E (fun u => E (fun v => FE k (A ++ ts) (v :: u :: xs)) t) a := E_congr fun p _ => FE_mid k t ts A (p.1 :: xs)
    rw [e1, E_swap]
    apply E_congr
    intro p _
    apply E_congr
    intro q _
    exact FE_perm k _ (List.Perm.swap _ _ _)
/-- slopes -/
theorem FE_lip (k : Nat) : ∀ (ts : List Tab), (∀ t ∈ ts, Good t) → ∀ {x y : Rat} (xs : List Rat), x ≤ y → FE k ts (x :: xs) ≤ FE k ts (y :: xs) ∧ FE k ts (y :: xs) ≤ FE k ts (x :: xs) + (y - x)
  | [], _, _, _, xs, h => topk_lip k xs h
  | t :: ts, g, x, y, xs, h => by
    have gt := g t (List.mem_cons_self ..)
    have gs : ∀ s ∈ ts, Good s := fun s hs => g s (List.mem_cons_of_mem _ hs)
    have sw : ∀ (z v : Rat), FE k ts (v :: z :: xs) = FE k ts (z :: v :: xs) := fun z v => FE_perm k ts (List.Perm.swap _ _ _)
    constructor
    · apply E_le gt.pos
      intro p _
      show FE k ts (p.1 :: x :: xs) ≤ FE k ts (p.1 :: y :: xs)
      rw [sw x p.1, sw y p.1]
      exact (FE_lip k ts gs (p.1 :: xs) h).1
    · have e : E (fun v => FE k ts (v :: x :: xs)) t + (y - x) = E (fun v => FE k ts (v :: x :: xs) + (y - x)) t := by
        rw [E_add, E_const, gt.one, Rat.mul_one]
      show E (fun v => FE k ts (v :: y :: xs)) t ≤ E (fun v => FE k ts (v :: x :: xs)) t + (y - x)
      rw [e]
      apply E_le gt.pos
      intro p _
      show FE k ts (p.1 :: y :: xs) ≤ FE k ts (p.1 :: x :: xs) + (y - x)
      rw [sw x p.1, sw y p.1]
      exact (FE_lip k ts gs (p.1 :: xs) h).2
/-- the first one is taken for sure -/
theorem FE_take {k : Nat} {z : Rat} (hz : 0 ≤ z) : ∀ (ts : List Tab), (∀ t ∈ ts, Good t) → ∀ (n : Nat) (xs : List Rat), n + above z xs ≤ k → (ts.filter fun t => decide (∃ p ∈ t, z < p.1)).length ≤ n → ∀ x, z ≤ x → FE (k + 1) ts (x :: xs) = x + FE k ts xs
  | [], _, n, xs, h, _, x, hx => topk_take hz (by omega) hx
  | t :: ts, g, n, xs, h, hc, x, hx => by
    have gt := g t (List.mem_cons_self ..)
    have gs : ∀ s ∈ ts, Good s := fun s hs => g s (List.mem_cons_of_mem _ hs)
    have main : ∀ p ∈ t, FE (k + 1) ts (p.1 :: x :: xs) = x + FE k ts (p.1 :: xs) := by
      intro p hp
      rw [FE_perm (k + 1) ts (List.Perm.swap x p.1 xs)]
      by_cases c : ∃ p ∈ t, z < p.1
      · rw [List.filter_cons] at hc
        simp only [c, decide_true, if_true, List.length_cons] at hc
        refine FE_take hz ts gs (n - 1) (p.1 :: xs) ?_ (by omega) x hx
        rw [above_cons]
        split <;> omega
      · rw [List.filter_cons] at hc
        simp only [c, decide_false, Bool.false_eq_true, if_false] at hc
        have : ¬ z < p.1 := fun l => c ⟨p, hp, l⟩
        refine FE_take hz ts gs n (p.1 :: xs) ?_ hc x hx
        rw [above_cons, if_neg this]
        omega
    show E (fun v => FE (k + 1) ts (v :: x :: xs)) t = x + E (fun v => FE k ts (v :: xs)) t
    have e : x + E (fun v => FE k ts (v :: xs)) t = E (fun v => x + FE k ts (v :: xs)) t := by
      rw [E_add, E_const, gt.one, Rat.mul_one]
    rw [e]
    exact E_congr main
/-- ones that are never taken -/
theorem FE_none {k : Nat} {z : Rat} : ∀ (ts : List Tab), (∀ t ∈ ts, Good t) → (∀ t ∈ ts, ∀ p ∈ t, p.1 ≤ z) → ∀ (xs : List Rat), (z ≤ 0 ∨ k ≤ atLeast z xs) → FE k ts xs = topk k xs
  | [], _, _, xs, _ => rfl
  | t :: ts, g, hz, xs, h => by
    have gt := g t (List.mem_cons_self ..)
    have e : E (fun v => FE k ts (v :: xs)) t = E (fun _ => topk k xs) t := by
      apply E_congr
      intro p hp
      rw [FE_none ts (fun s hs => g s (List.mem_cons_of_mem _ hs)) (fun s hs => hz s (List.mem_cons_of_mem _ hs)) (p.1 :: xs) (h.imp id fun q => Nat.le_trans q (atLeast_mono z p.1 xs))]
      exact topk_drop h (hz t (List.mem_cons_self ..) p hp)
    show E (fun v => FE k ts (v :: xs)) t = _
    rw [e, E_const, gt.one, Rat.mul_one]
end Lw

namespace Lw
/-! P8: plans: the greatest gain of all, and the strikes gain it. -/
theorem Bs.pos_len : ∀ bs : Bs, bs.list = [] ↔ bs = .nil
  | .nil => by simp [Bs.list]
  | .cons w t bs => by simp [Bs.list]
def Tr.end? : Tr → Option Rat
  | .en w => some (w : Rat)
  | .st _ _ => none
/-- the worths of the ends -/
def endsOf (s : List Tr) : List Rat := s.filterMap Tr.end?
def handR (k : Nat) (s : List Tr) : Rat := topk k (endsOf s)
/-- the weights of branches, all together -/
def wB (bs : Bs) : Nat := (bs.list.map (·.1)).sum
def stepsL (s : List Tr) : Nat := (s.map Tr.steps).sum
/-- what going on with a step brings in the mean -/
def goF (f : Tr → Rat) (c : Nat) (bs : Bs) : Rat := -(c : Rat) + rsum (bs.list.map fun p => f p.2 * mkRat p.1 (wB bs))
/-- the greatest gain of all plans (n: steps at most) -/
def bestIn (V : List Tr → Rat) (pre : List Tr) : List Tr → Rat → Rat
  | [], b => b
  | .en w :: s, b => bestIn V (pre ++ [.en w]) s b
  | .st c bs :: s, b => bestIn V (pre ++ [.st c bs]) s (mx b (goF (fun t => V (pre ++ t :: s)) c bs))
def valF : Nat → Nat → List Tr → Rat
  | 0, k, s => handR k s
  | n + 1, k, s => bestIn (valF n k) [] s (handR k s)
def valR (k : Nat) (s : List Tr) : Rat := valF (stepsL s) k s
theorem bestIn_nil {V : List Tr → Rat} {pre : List Tr} {b : Rat} : bestIn V pre [] b = b := by rw [bestIn]
theorem bestIn_en {V : List Tr → Rat} {pre s : List Tr} {w : Int} {b : Rat} : bestIn V pre (.en w :: s) b = bestIn V (pre ++ [.en w]) s b := by rw [bestIn]
theorem bestIn_st {V : List Tr → Rat} {pre s : List Tr} {c : Nat} {bs : Bs} {b : Rat} : bestIn V pre (.st c bs :: s) b = bestIn V (pre ++ [.st c bs]) s (mx b (goF (fun t => V (pre ++ t :: s)) c bs)) := by rw [bestIn]
theorem app1 (pre s : List Tr) (t : Tr) : pre ++ [t] ++ s = pre ++ t :: s := by simp
theorem bestIn_le {V : List Tr → Rat} {B : Rat} (s : List Tr) : ∀ (pre : List Tr) (b : Rat), b ≤ B → (∀ (a : List Tr) (c : Nat) (bs : Bs) (d : List Tr), pre ++ s = a ++ .st c bs :: d → goF (fun t => V (a ++ t :: d)) c bs ≤ B) → bestIn V pre s b ≤ B := by
  induction s with
  | nil => intro pre b hb _; rw [bestIn_nil]; exact hb
  | cons t s ih =>
    intro pre b hb h
    cases t with
    | en w =>
      rw [bestIn_en]
      exact ih _ b hb fun a c bs d e => h a c bs d (by rw [← e, app1])
    | st c bs =>
      rw [bestIn_st]
      exact ih _ _ (mx_le hb (h pre c bs s rfl)) fun a c bs d e => h a c bs d (by rw [← e, app1])
theorem bestIn_ge {V : List Tr → Rat} (s : List Tr) : ∀ (pre : List Tr) (b : Rat), b ≤ bestIn V pre s b := by
  induction s with
  | nil => intro pre b; rw [bestIn_nil]; exact Rat.le_refl
  | cons t s ih =>
    intro pre b
    cases t with
    | en w => rw [bestIn_en]; exact ih _ b
    | st c bs => rw [bestIn_st]; exact Rat.le_trans (mx_l _ _) (ih _ _)
theorem bestIn_act {V : List Tr → Rat} {c : Nat} {bs : Bs} {d : List Tr} (a : List Tr) : ∀ (pre : List Tr) (b : Rat), goF (fun t => V (pre ++ a ++ t :: d)) c bs ≤ bestIn V pre (a ++ .st c bs :: d) b := by
  induction a with
  | nil =>
    intro pre b
    rw [List.nil_append, bestIn_st]
    simp only [List.append_nil]
    exact Rat.le_trans (mx_r _ _) (bestIn_ge d _ _)
  | cons t a ih =>
    intro pre b
    have e : pre ++ t :: a = pre ++ [t] ++ a := (app1 pre a t).symm
    rw [e]
    cases t with
    | en w => rw [List.cons_append, bestIn_en]; exact ih _ b
    | st c bs => rw [List.cons_append, bestIn_st]; exact ih _ _
theorem bestIn_congr {V V' : List Tr → Rat} (s : List Tr) : ∀ (pre : List Tr) (b : Rat), (∀ (a : List Tr) (c : Nat) (bs : Bs) (d : List Tr), pre ++ s = a ++ .st c bs :: d → goF (fun t => V (a ++ t :: d)) c bs = goF (fun t => V' (a ++ t :: d)) c bs) → bestIn V pre s b = bestIn V' pre s b := by
  induction s with
  | nil => intro pre b _; rw [bestIn_nil, bestIn_nil]
  | cons t s ih =>
    intro pre b h
    cases t with
    | en w =>
      rw [bestIn_en, bestIn_en]
      exact ih _ b fun a c bs d e => h a c bs d (by rw [← e, app1])
    | st c bs =>
      rw [bestIn_st, bestIn_st, h pre c bs s rfl]
      exact ih _ _ fun a c bs d e => h a c bs d (by rw [← e, app1])
theorem stepsL_mid (a d : List Tr) (t : Tr) : stepsL (a ++ t :: d) = stepsL a + t.steps + stepsL d := by
  unfold stepsL
  simp [List.sum_append]
  omega
theorem Bs.steps_mem : ∀ {bs : Bs} {p : Nat × Tr}, p ∈ bs.list → p.2.steps ≤ bs.steps
  | .nil, p, hp => by cases hp
  | .cons w t bs, p, hp => by
    rw [Bs.list] at hp
    simp only [Bs.steps]
    rcases List.mem_cons.mp hp with rfl | hp
    · dsimp only; omega
    · have := Bs.steps_mem hp; omega
theorem steps_child {a d : List Tr} {c : Nat} {bs : Bs} {p : Nat × Tr} (hp : p ∈ bs.list) : stepsL (a ++ p.2 :: d) + 1 ≤ stepsL (a ++ .st c bs :: d) := by
  rw [stepsL_mid, stepsL_mid]
  have := Bs.steps_mem hp
  simp only [Tr.steps]
  omega
theorem goF_congr {f g : Tr → Rat} {c : Nat} {bs : Bs} (h : ∀ p ∈ bs.list, f p.2 = g p.2) : goF f c bs = goF g c bs := by
  unfold goF
  congr 2
  apply List.map_congr_left
  intro p hp
  rw [h p hp]
theorem valF_more (k : Nat) : ∀ (n : Nat) (s : List Tr), stepsL s ≤ n → valF n k s = valR k s := by
  have key : ∀ (n : Nat) (s : List Tr), stepsL s ≤ n → valF (n + 1) k s = valF n k s := by
    intro n
    induction n with
    | zero =>
      intro s h
      have : ∀ (s pre : List Tr) (b : Rat), stepsL s = 0 → bestIn (valF 0 k) pre s b = b := by
        intro s
        induction s with
        | nil => intro pre b _; rw [bestIn_nil]
        | cons t s ih =>
          intro pre b h
          cases t with
          | en w => rw [bestIn_en]; exact ih _ b (by unfold stepsL at h ⊢; simp only [List.map_cons, List.sum_cons, Tr.steps] at h; omega)
          | st c bs => unfold stepsL at h; simp only [List.map_cons, List.sum_cons, Tr.steps] at h; omega
      exact this s [] _ (by omega)
    | succ n ih =>
      intro s h
      show bestIn (valF (n + 1) k) [] s (handR k s) = bestIn (valF n k) [] s (handR k s)
      apply bestIn_congr
      intro a c bs d e
      apply goF_congr
      intro p hp
      have := steps_child (a := a) (d := d) (c := c) hp
      rw [List.nil_append] at e
      exact ih _ (by rw [← e] at this; omega)
  intro n s h
  unfold valR
  have : ∀ m : Nat, valF (stepsL s + m) k s = valF (stepsL s) k s := by
    intro m
    induction m with
    | zero => rfl
    | succ m ih => rw [← Nat.add_assoc, key _ _ (by omega), ih]
  have e := this (n - stepsL s)
  rw [show stepsL s + (n - stepsL s) = n by omega] at e
  exact e
/-- the recursion -/
theorem valR_eq (k : Nat) (s : List Tr) : valR k s = bestIn (valR k) [] s (handR k s) := by
  have e : valR k s = valF (stepsL s + 1) k s := (valF_more k _ s (by omega)).symm
  rw [e]
  show bestIn (valF (stepsL s) k) [] s (handR k s) = _
  apply bestIn_congr
  intro a c bs d e
  apply goF_congr
  intro p hp
  have := steps_child (a := a) (d := d) (c := c) hp
  rw [List.nil_append] at e
  exact valF_more k _ _ (by rw [← e] at this; omega)
/-! ### the mean of the greatest caps -/
def capF (k : Nat) (s : List Tr) : Rat := FE k (s.map tableR) []
theorem wB_eq (bs : Bs) : wB bs = wsum (belowP bs) := by
  unfold wB wsum
  rw [belowP_map, List.map_map]
  rfl
theorem E_mixW (f : Rat → Rat) (W : Nat) : ∀ ps : List Part, E f (ps.flatMap fun p => p.2.map fun e => (e.1, e.2 * mkRat p.1 W)) = rsum (ps.map fun p => E f p.2 * mkRat p.1 W)
  | [] => rfl
  | p :: ps => by
    rw [List.flatMap_cons, E_append, E_map f (fun v => v), E_mixW f W ps, List.map_cons]
    show mkRat p.1 W * E (fun v => f v) p.2 + _ = E f p.2 * mkRat p.1 W + _
    grind
theorem E_below (f : Rat → Rat) (bs : Bs) : E f (belowR bs) = rsum (bs.list.map fun p => E f (tableR p.2) * mkRat p.1 (wB bs)) := by
  unfold belowR mixR
  rw [(Eqv.dict _).E]
  unfold mixL
  rw [E_mixW, wB_eq]
  conv => lhs; rw [belowP_map]
  rw [List.map_map, ← belowP_map]
  rfl
theorem goF_cap (k : Nat) (a d : List Tr) (c : Nat) (bs : Bs) : goF (fun t => capF k (a ++ t :: d)) c bs = -(c : Rat) + E (fun v => FE k ((a ++ d).map tableR) [v]) (belowR bs) := by
  unfold goF
  rw [E_below]
  congr 2
  apply List.map_congr_left
  intro p _
  have e : capF k (a ++ p.2 :: d) = E (fun v => FE k ((a ++ d).map tableR) [v]) (tableR p.2) := by
    unfold capF
    rw [List.map_append, List.map_cons, FE_mid, ← List.map_append]
  show capF k (a ++ p.2 :: d) * mkRat p.1 (wB bs) = _
  rw [e]
theorem capF_st (k : Nat) (a d : List Tr) (c : Nat) (bs : Bs) : capF k (a ++ .st c bs :: d) = E (fun v => FE k ((a ++ d).map tableR) [mn v (strikeR (belowR bs) c)]) (belowR bs) := by
  unfold capF
  rw [List.map_append, List.map_cons, FE_mid, ← List.map_append]
  have : tableR (.st c bs) = cappedR (belowR bs) (strikeR (belowR bs) c) := by rw [tableR]; rfl
  rw [this]
  unfold cappedR
  rw [(Eqv.dict _).E, E_capL]
def okL (s : List Tr) : Prop := ∀ t ∈ s, t.ok
theorem okL.good {s : List Tr} (h : okL s) : ∀ t ∈ s.map tableR, Good t := by
  intro t ht
  obtain ⟨u, hu, rfl⟩ := List.mem_map.mp ht
  exact (same (h u hu)).1
theorem okL.mid {a d : List Tr} {t : Tr} (h : okL (a ++ t :: d)) : okL (a ++ d) ∧ t.ok := by
  refine ⟨fun u hu => h u ?_, h t (by simp)⟩
  rcases List.mem_append.mp hu with hu | hu
  · exact List.mem_append_left _ hu
  · exact List.mem_append_right _ (List.mem_cons_of_mem _ hu)
theorem okL.child {a d : List Tr} {c : Nat} {bs : Bs} (h : okL (a ++ .st c bs :: d)) {p : Nat × Tr} (hp : p ∈ bs.list) : okL (a ++ p.2 :: d) := by
  have ht := h.mid.2
  rw [Tr.ok] at ht
  intro u hu
  rcases List.mem_append.mp hu with hu | hu
  · exact h u (List.mem_append_left _ hu)
  · rcases List.mem_cons.mp hu with rfl | hu
    · exact (Bs.ok_mem ht.2.2.2 p hp).2
    · exact h u (List.mem_append_right _ (List.mem_cons_of_mem _ hu))
theorem strike_rest {c : Nat} {bs : Bs} (h : (Tr.st c bs).ok) : rst (belowR bs) (strikeR (belowR bs) c) = c := by
  rw [Tr.ok] at h
  obtain ⟨_, h0, h5, hb⟩ := h
  obtain ⟨g1, _, _⟩ := sames hb
  have w1 : ∀ p ∈ belowP bs, 0 < p.1 := fun p hp => by
    rw [belowP_map] at hp
    obtain ⟨q, hq, rfl⟩ := List.mem_map.mp hp
    exact (Bs.ok_mem hb q hq).1.1
  have g : Good (belowR bs) := (Good.mix g1 w1 (belowP_ne h0)).dict
  have s := strikeR_ok g (Asc.dict _) (c := (c : Rat)) Rat.natCast_nonneg
  unfold IsStrike at s
  split at s
  · rename_i c0
    rw [c0]
    exact rst_zero fun p hp => by rw [← c0] ; exact s.2 p hp
  · exact s
theorem good_belowR {c : Nat} {bs : Bs} (h : (Tr.st c bs).ok) : Good (belowR bs) := by
  rw [Tr.ok] at h
  obtain ⟨_, h0, h5, hb⟩ := h
  obtain ⟨g1, _, _⟩ := sames hb
  exact (Good.mix g1 (fun p hp => by
    rw [belowP_map] at hp
    obtain ⟨q, hq, rfl⟩ := List.mem_map.mp hp
    exact (Bs.ok_mem hb q hq).1.1) (belowP_ne h0)).dict
/-- going on never brings more -/
theorem go_le {k : Nat} {a d : List Tr} {c : Nat} {bs : Bs} (h : okL (a ++ .st c bs :: d)) : goF (fun t => capF k (a ++ t :: d)) c bs ≤ capF k (a ++ .st c bs :: d) := by
  rw [goF_cap, capF_st]
  obtain ⟨h1, h2⟩ := h.mid
  have r := strike_rest h2
  have g := good_belowR h2
  generalize strikeR (belowR bs) c = z at *
  have key : E (fun v => FE k ((a ++ d).map tableR) [v]) (belowR bs) ≤ E (fun v => FE k ((a ++ d).map tableR) [mn v z] + pos (v - z)) (belowR bs) := by
    apply E_le g.pos
    intro p _
    unfold mn pos
    by_cases q : z < p.1
    · rw [if_pos q, if_pos (by grind)]
      exact (FE_lip k _ h1.good [] (Rat.le_of_lt q)).2
    · rw [if_neg q, if_neg (by grind), Rat.add_zero]
      exact Rat.le_refl
  rw [E_add] at key
  have r' : E (fun v => pos (v - z)) (belowR bs) = c := r
  rw [r'] at key
  grind
theorem hand_le {k : Nat} : ∀ (s : List Tr), okL s → ∀ (xs : List Rat), topk k (xs ++ endsOf s) ≤ FE k (s.map tableR) xs
  | [], _, xs => by
    show topk k (xs ++ []) ≤ topk k xs
    rw [List.append_nil]
    exact Rat.le_refl
  | .en w :: s, h, xs => by
    have ih := hand_le (k := k) s (fun t ht => h t (List.mem_cons_of_mem _ ht)) ((w : Rat) :: xs)
    have e : FE k ((.en w :: s).map tableR) xs = FE k (s.map tableR) ((w : Rat) :: xs) := by
      show E (fun v => FE k (s.map tableR) (v :: xs)) (tableR (.en w)) = _
      rw [tableR]
      show (1 : Rat) * FE k (s.map tableR) ((w : Rat) :: xs) + 0 = _
      grind
    have pe : topk k (xs ++ endsOf (.en w :: s)) = topk k (((w : Rat) :: xs) ++ endsOf s) := topk_perm (List.perm_middle (a := (w : Rat)) (l₁ := xs) (l₂ := endsOf s)) k
    rw [e, pe]
    exact ih
  | .st c bs :: s, h, xs => by
    have gs : okL s := fun t ht => h t (List.mem_cons_of_mem _ ht)
    have g := (same (h (.st c bs) (List.mem_cons_self ..))).1
    have ih := hand_le (k := k) s gs
    have e : topk k (xs ++ endsOf (.st c bs :: s)) = E (fun _ => topk k (xs ++ endsOf s)) (tableR (.st c bs)) := by
      rw [E_const, g.one, Rat.mul_one]
      rfl
    rw [e]
    apply E_le g.pos
    intro p _
    exact Rat.le_trans (topk_tail k p.1 _) (ih (p.1 :: xs))
theorem capF_up {k : Nat} : ∀ (n : Nat) (s : List Tr), okL s → valF n k s ≤ capF k s
  | 0, s, h => by
    have := hand_le (k := k) s h []
    exact this
  | n + 1, s, h => by
    apply bestIn_le s [] _ (by have := hand_le (k := k) s h []; exact this)
    intro a c bs d e
    rw [List.nil_append] at e
    subst e
    refine Rat.le_trans ?_ (go_le h)
    unfold goF
    have : ∀ l : List (Nat × Tr), (∀ p ∈ l, p ∈ bs.list) → rsum (l.map fun p => valF n k (a ++ p.2 :: d) * mkRat p.1 (wB bs)) ≤ rsum (l.map fun p => capF k (a ++ p.2 :: d) * mkRat p.1 (wB bs)) := by
      intro l
      induction l with
      | nil => intro _; exact Rat.le_refl
      | cons p l ih =>
        intro hl
        have h1 := ih fun q hq => hl q (List.mem_cons_of_mem _ hq)
        have hp := hl p (List.mem_cons_self ..)
        have h2 := capF_up (k := k) n (a ++ p.2 :: d) (h.child hp)
        have w0 : 0 ≤ mkRat p.1 (wB bs) := by
          rw [Rat.mkRat_eq_div, Rat.div_def]
          exact Rat.mul_nonneg (Rat.intCast_nonneg.mpr (by omega)) (by
            by_cases z : wB bs = 0
            · rw [z, show ((0 : Nat) : Rat) = 0 from rfl, Rat.inv_zero]; exact Rat.le_refl
            · exact Rat.le_of_lt (Rat.inv_pos.mpr (Rat.natCast_pos.mpr (by omega))))
        have h3 := Rat.mul_le_mul_of_nonneg_right h2 w0
        simp only [List.map_cons, rsum]
        grind
    have := this bs.list fun _ z => z
    grind
end Lw

namespace Lw
/-! P9: rules: what going by numbers gains. -/
mutual
inductive NT where
  | en (w : Int)
  | st (c : Nat) (z : Rat) (bs : NB)
inductive NB where
  | nil
  | cons (w : Nat) (t : NT) (bs : NB)
end
def NB.list : NB → List (Nat × NT)
  | .nil => []
  | .cons w t bs => (w, t) :: bs.list
mutual
def NT.tree : NT → Tr
  | .en w => .en w
  | .st c _ bs => .st c bs.trees
def NB.trees : NB → Bs
  | .nil => .nil
  | .cons w t bs => .cons w t.tree bs.trees
end
mutual
def NT.row : NT → List Rat
  | .en _ => []
  | .st _ z bs => z :: bs.rows
def NB.rows : NB → List Rat
  | .nil => []
  | .cons _ t bs => t.row ++ bs.rows
end
theorem NB.trees_list : ∀ bs : NB, bs.trees.list = bs.list.map fun p => (p.1, p.2.tree)
  | .nil => by rw [NB.trees, Bs.list, NB.list]; rfl
  | .cons w t bs => by rw [NB.trees, Bs.list, NB.list, List.map_cons, NB.trees_list bs]
mutual
theorem NT.row_len : ∀ t : NT, t.row.length = t.tree.steps
  | .en _ => by rw [NT.row, NT.tree, Tr.steps]; rfl
  | .st _ z bs => by rw [NT.row, NT.tree, Tr.steps, List.length_cons, NB.rows_len bs]
theorem NB.rows_len : ∀ bs : NB, bs.rows.length = bs.trees.steps
  | .nil => by rw [NB.rows, NB.trees, Bs.steps]; rfl
  | .cons w t bs => by rw [NB.rows, NB.trees, Bs.steps, List.length_append, NT.row_len t, NB.rows_len bs]
end
/-! a row put on a tree -/
mutual
def putRow : Tr → List Rat → NT
  | .en w, _ => .en w
  | .st c bs, r => .st c (r.headD 0) (putRows bs r.tail)
def putRows : Bs → List Rat → NB
  | .nil, _ => .nil
  | .cons w t bs, r => .cons w (putRow t (r.take t.steps)) (putRows bs (r.drop t.steps))
end
mutual
theorem putRow_tree : ∀ (t : Tr) (r : List Rat), (putRow t r).tree = t
  | .en w, r => by rw [putRow, NT.tree]
  | .st c bs, r => by rw [putRow, NT.tree, putRows_trees bs]
theorem putRows_trees : ∀ (bs : Bs) (r : List Rat), (putRows bs r).trees = bs
  | .nil, r => by rw [putRows, NB.trees]
  | .cons w t bs, r => by rw [putRows, NB.trees, putRow_tree t, putRows_trees bs]
end
mutual
theorem putRow_row : ∀ (t : Tr) (r : List Rat), r.length = t.steps → (putRow t r).row = r
  | .en w, r, h => by
    rw [Tr.steps] at h
    rw [putRow, NT.row]
    exact (List.length_eq_zero_iff.mp h).symm
  | .st c bs, r, h => by
    rw [Tr.steps] at h
    rw [putRow, NT.row, putRows_rows bs r.tail (by simp; omega)]
    cases r with
    | nil => simp at h
    | cons x r => rfl
theorem putRows_rows : ∀ (bs : Bs) (r : List Rat), r.length = bs.steps → (putRows bs r).rows = r
  | .nil, r, h => by
    rw [Bs.steps] at h
    rw [putRows, NB.rows]
    exact (List.length_eq_zero_iff.mp h).symm
  | .cons w t bs, r, h => by
    rw [Bs.steps] at h
    rw [putRows, NB.rows, putRow_row t _ (by simp; omega), putRows_rows bs _ (by simp; omega)]
    simp
end
/-! the strikes as numbers -/
mutual
def sN : Tr → NT
  | .en w => .en w
  | .st c bs => .st c (strikeR (belowR bs) c) (sNB bs)
def sNB : Bs → NB
  | .nil => .nil
  | .cons w t bs => .cons w (sN t) (sNB bs)
end
mutual
theorem sN_tree : ∀ t : Tr, (sN t).tree = t
  | .en w => by rw [sN, NT.tree]
  | .st c bs => by rw [sN, NT.tree, sNB_trees bs]
theorem sNB_trees : ∀ bs : Bs, (sNB bs).trees = bs
  | .nil => by rw [sNB, NB.trees]
  | .cons w t bs => by rw [sNB, NB.trees, sN_tree t, sNB_trees bs]
end
theorem sNB_list : ∀ bs : Bs, (sNB bs).list = bs.list.map fun p => (p.1, sN p.2)
  | .nil => by rw [sNB, NB.list, Bs.list]; rfl
  | .cons w t bs => by rw [sNB, NB.list, Bs.list, List.map_cons, sNB_list bs]
/-! ### going on -/
/-! the first step with the greatest number -/
def bmx : Option (Nat × Rat) → Nat → Rat → Option (Nat × Rat)
  | none, i, z => some (i, z)
  | some (j, y), i, z => if y < z then some (i, z) else some (j, y)
def bestN : List NT → Nat → Option (Nat × Rat) → Option (Nat × Rat)
  | [], _, b => b
  | .en _ :: s, i, b => bestN s (i + 1) b
  | .st _ z _ :: s, i, b => bestN s (i + 1) (bmx b i z)
def NT.end? : NT → Option Rat
  | .en w => some (w : Rat)
  | .st _ _ _ => none
def endsN (s : List NT) : List Rat := s.filterMap NT.end?
def trees (s : List NT) : List Tr := s.map NT.tree
theorem endsN_eq (s : List NT) : endsN s = endsOf (trees s) := by
  unfold endsN endsOf trees
  rw [List.filterMap_map]
  congr 1
  funext t
  cases t with
  | en w => simp only [Function.comp_apply, NT.tree]; rfl
  | st c z bs => simp only [Function.comp_apply, NT.tree]; rfl
def goIdx (k : Nat) (s : List NT) : Option Nat := match bestN s 0 none with
  | none => none
  | some (i, z) => if 0 < z then (if atLeast z (endsN s) < k then some i else none) else none
/-- another one at a place -/
def rep {α : Type} (s : List α) (i : Nat) (a : α) : List α := s.take i ++ a :: s.drop (i + 1)
def NB.w (bs : NB) : Nat := (bs.list.map (·.1)).sum
theorem NB.w_eq (bs : NB) : bs.w = wB bs.trees := by
  unfold NB.w wB
  rw [NB.trees_list, List.map_map]
  rfl
def goN (f : NT → Rat) (c : Nat) (bs : NB) : Rat := -(c : Rat) + rsum (bs.list.map fun p => f p.2 * mkRat p.1 bs.w)
def gainF : Nat → Nat → List NT → Rat
  | 0, k, s => handR k (trees s)
  | n + 1, k, s => match goIdx k s with
    | none => handR k (trees s)
    | some i => match s[i]? with
      | some (.st c _ bs) => goN (fun t => gainF n k (rep s i t)) c bs
      | _ => handR k (trees s)
theorem bestN_some : ∀ (s : List NT) (i : Nat) (b : Option (Nat × Rat)) (j : Nat) (z : Rat), bestN s i b = some (j, z) → (b = some (j, z) ∨ (i ≤ j ∧ ∃ c bs, s[j - i]? = some (.st c z bs))) ∧ (∀ y, (∃ l, b = some (l, y)) → y ≤ z) ∧ ∀ c y bs, NT.st c y bs ∈ s → y ≤ z
  | [], i, b, j, z, h => ⟨.inl h, fun y ⟨l, e⟩ => by rw [bestN] at h; rw [h] at e; cases e; exact Rat.le_refl, fun c y bs hm => by cases hm⟩
  | .en w :: s, i, b, j, z, h => by
    rw [bestN] at h
    obtain ⟨h1, h2, h3⟩ := bestN_some s (i + 1) b j z h
    refine ⟨?_, h2, fun c y bs hm => ?_⟩
    · rcases h1 with h1 | ⟨h1, c, bs, h4⟩
      · exact .inl h1
      · refine .inr ⟨by omega, c, bs, ?_⟩
        rw [show j - i = (j - (i + 1)) + 1 by omega, List.getElem?_cons_succ]
        exact h4
    · rcases List.mem_cons.mp hm with e | hm
      · cases e
      · exact h3 c y bs hm
  | .st c0 z0 bs0 :: s, i, b, j, z, h => by
    rw [bestN] at h
    obtain ⟨h1, h2, h3⟩ := bestN_some s (i + 1) _ j z h
    have z0z : z0 ≤ z := by
      cases b with
      | none => exact h2 z0 ⟨i, rfl⟩
      | some p =>
        obtain ⟨l, y⟩ := p
        simp only [bmx] at h2
        by_cases q : y < z0
        · exact h2 z0 ⟨i, by rw [if_pos q]⟩
        · have := h2 y ⟨l, by rw [if_neg q]⟩
          grind
    refine ⟨?_, fun y hy => ?_, fun c y bs hm => ?_⟩
    · rcases h1 with h1 | ⟨h1, c, bs, h4⟩
      · cases b with
        | none =>
          cases h1
          exact .inr ⟨Nat.le_refl _, c0, bs0, by simp⟩
        | some p =>
          obtain ⟨l, y⟩ := p
          simp only [bmx] at h1
          split at h1
          · cases h1
            exact .inr ⟨Nat.le_refl _, c0, bs0, by simp⟩
          · exact .inl h1
      · refine .inr ⟨by omega, c, bs, ?_⟩
        rw [show j - i = (j - (i + 1)) + 1 by omega, List.getElem?_cons_succ]
        exact h4
    · obtain ⟨l, rfl⟩ := hy
      simp only [bmx] at h2
      by_cases q : y < z0
      · have := h2 z0 ⟨i, by rw [if_pos q]⟩
        grind
      · exact h2 y ⟨l, by rw [if_neg q]⟩
    · rcases List.mem_cons.mp hm with e | hm
      · cases e; exact z0z
      · exact h3 c y bs hm
theorem bestN_none : ∀ (s : List NT) (i : Nat) (b : Option (Nat × Rat)), bestN s i b = none → b = none ∧ ∀ c y bs, NT.st c y bs ∉ s
  | [], i, b, h => ⟨h, fun c y bs hm => by cases hm⟩
  | .en w :: s, i, b, h => by
    rw [bestN] at h
    obtain ⟨h1, h2⟩ := bestN_none s (i + 1) b h
    refine ⟨h1, fun c y bs hm => ?_⟩
    rcases List.mem_cons.mp hm with e | hm
    · cases e
    · exact h2 c y bs hm
  | .st c0 z0 bs0 :: s, i, b, h => by
    rw [bestN] at h
    obtain ⟨h1, _⟩ := bestN_none s (i + 1) _ h
    cases b with
    | none => cases h1
    | some p =>
      simp only [bmx] at h1
      split at h1 <;> cases h1
theorem goIdx_some {k : Nat} {s : List NT} {i : Nat} (h : goIdx k s = some i) : ∃ c z bs, s[i]? = some (.st c z bs) ∧ 0 < z ∧ atLeast z (endsN s) < k ∧ ∀ c' y bs', NT.st c' y bs' ∈ s → y ≤ z := by
  unfold goIdx at h
  split at h
  · cases h
  · rename_i j z hb
    obtain ⟨h1, _, h3⟩ := bestN_some s 0 none j z hb
    split at h
    · split at h
      · cases h
        rcases h1 with h1 | ⟨_, c, bs, h1⟩
        · cases h1
        · exact ⟨c, z, bs, h1, by assumption, by assumption, h3⟩
      · cases h
    · cases h
theorem goIdx_none {k : Nat} {s : List NT} (h : goIdx k s = none) : ∃ z : Rat, (z ≤ 0 ∨ k ≤ atLeast z (endsN s)) ∧ ∀ c y bs, NT.st c y bs ∈ s → y ≤ z := by
  unfold goIdx at h
  split at h
  · rename_i hb
    exact ⟨0, .inl Rat.le_refl, fun c y bs hm => absurd hm ((bestN_none s 0 none hb).2 c y bs)⟩
  · rename_i j z hb
    obtain ⟨_, _, h3⟩ := bestN_some s 0 none j z hb
    split at h
    · split at h
      · cases h
      · exact ⟨z, .inr (by omega), h3⟩
    · exact ⟨z, .inl (by grind), h3⟩
theorem rep_eq {α : Type} {s : List α} {i : Nat} {a : α} (h : s[i]? = some a) : s = s.take i ++ a :: s.drop (i + 1) := by
  obtain ⟨hi, rfl⟩ := List.getElem?_eq_some_iff.mp h
  rw [← List.drop_eq_getElem_cons hi, List.take_append_drop]
theorem trees_rep {s : List NT} {i : Nat} {t : NT} : trees (rep s i t) = (trees s).take i ++ t.tree :: (trees s).drop (i + 1) := by
  unfold trees rep
  rw [List.map_append, List.map_cons, List.map_take, List.map_drop]
theorem goN_eq {f : NT → Rat} {g : Tr → Rat} {c : Nat} {bs : NB} (h : ∀ p ∈ bs.list, f p.2 = g p.2.tree) : goN f c bs = goF g c bs.trees := by
  unfold goN goF
  rw [NB.trees_list, List.map_map, NB.w_eq]
  congr 2
  apply List.map_congr_left
  intro p hp
  rw [h p hp]
  rfl
theorem mkRat_nn (a b : Nat) : 0 ≤ mkRat a b := by
  rw [Rat.mkRat_eq_div, Rat.div_def]
  exact Rat.mul_nonneg (Rat.intCast_nonneg.mpr (by omega)) (by
    by_cases z : b = 0
    · rw [z, show ((0 : Nat) : Rat) = 0 from rfl, Rat.inv_zero]; exact Rat.le_refl
    · exact Rat.le_of_lt (Rat.inv_pos.mpr (Rat.natCast_pos.mpr (by omega))))
theorem goN_le {f : NT → Rat} {g : Tr → Rat} {c : Nat} {bs : NB} (h : ∀ p ∈ bs.list, f p.2 ≤ g p.2.tree) : goN f c bs ≤ goF g c bs.trees := by
  unfold goN goF
  rw [NB.trees_list, List.map_map, NB.w_eq]
  have : ∀ l : List (Nat × NT), (∀ p ∈ l, p ∈ bs.list) → rsum (l.map fun p => f p.2 * mkRat p.1 (wB bs.trees)) ≤ rsum (l.map ((fun p : Nat × Tr => g p.2 * mkRat p.1 (wB bs.trees)) ∘ fun p => (p.1, p.2.tree))) := by
    intro l
    induction l with
    | nil => intro _; exact Rat.le_refl
    | cons p l ih =>
      intro hl
      have h1 := ih fun q hq => hl q (List.mem_cons_of_mem _ hq)
      have h2 := h p (hl p (List.mem_cons_self ..))
      have h3 := Rat.mul_le_mul_of_nonneg_right h2 (mkRat_nn p.1 (wB bs.trees))
      simp only [List.map_cons, rsum, Function.comp_apply] at h1 ⊢
      grind
  have := this bs.list fun _ z => z
  grind
theorem mid_tree {s : List NT} {i c : Nat} {z : Rat} {bs : NB} (h : s[i]? = some (.st c z bs)) : trees s = (trees s).take i ++ .st c bs.trees :: (trees s).drop (i + 1) := by
  have : (trees s)[i]? = some (.st c bs.trees) := by
    unfold trees
    rw [List.getElem?_map, h]
    rw [Option.map_some, NT.tree]
  exact rep_eq this
/-- no rule gains more than the greatest gain -/
theorem gain_le (k : Nat) : ∀ (n : Nat) (s : List NT), gainF n k s ≤ valF n k (trees s)
  | 0, s => Rat.le_refl
  | n + 1, s => by
    have hand : handR k (trees s) ≤ valF (n + 1) k (trees s) := bestIn_ge _ _ _
    rw [gainF]
    split
    · exact hand
    · rename_i i hi
      split
      · rename_i c z bs hs
        have e := mid_tree hs
        refine Rat.le_trans (goN_le (g := fun t => valF n k ((trees s).take i ++ t :: (trees s).drop (i + 1))) fun p hp => ?_) ?_
        · have := gain_le k n (rep s i p.2)
          rw [trees_rep] at this
          exact this
        · show _ ≤ bestIn (valF n k) [] (trees s) (handR k (trees s))
          have a := bestIn_act (V := valF n k) (c := c) (bs := bs.trees) (d := (trees s).drop (i + 1)) ((trees s).take i) [] (handR k (trees s))
          rw [← e, List.nil_append] at a
          exact a
      · exact hand
/-! ### the strikes -/
theorem table_le {c : Nat} {bs : Bs} {p : Rat × Rat} (h : p ∈ tableR (.st c bs)) : p.1 ≤ strikeR (belowR bs) c := by
  have e : tableR (.st c bs) = cappedR (belowR bs) (strikeR (belowR bs) c) := by rw [tableR]; rfl
  rw [e] at h
  have k : p.1 ∈ keys (cappedR (belowR bs) (strikeR (belowR bs) c)) := List.mem_map.mpr ⟨p, h, rfl⟩
  unfold cappedR at k
  rw [(Eqv.dict _).k] at k
  obtain ⟨q, hq, e2⟩ := List.mem_map.mp k
  obtain ⟨r, hr, rfl⟩ := List.mem_map.mp hq
  rw [← e2]
  unfold mn
  dsimp only
  split <;> grind
theorem tab_en (w : Int) : tableR (.en w) = [((w : Rat), 1)] := by rw [tableR]
theorem FE_en (k : Nat) (w : Int) (ts : List Tab) (xs : List Rat) : FE k (tableR (.en w) :: ts) xs = FE k ts ((w : Rat) :: xs) := by
  rw [tab_en]
  show (1 : Rat) * FE k ts ((w : Rat) :: xs) + 0 = _
  grind
theorem cap_stop {k : Nat} {z : Rat} : ∀ (s : List Tr), okL s → (∀ c bs, Tr.st c bs ∈ s → strikeR (belowR bs) c ≤ z) → ∀ (xs : List Rat), (z ≤ 0 ∨ k ≤ atLeast z (xs ++ endsOf s)) → FE k (s.map tableR) xs = topk k (xs ++ endsOf s)
  | [], _, _, xs, _ => by
    show topk k xs = topk k (xs ++ [])
    rw [List.append_nil]
  | .en w :: s, h, hz, xs, hk => by
    have pm : (xs ++ endsOf (.en w :: s)).Perm (((w : Rat) :: xs) ++ endsOf s) := List.perm_middle (a := (w : Rat)) (l₁ := xs) (l₂ := endsOf s)
    rw [List.map_cons, FE_en, topk_perm pm]
    refine cap_stop s (fun t ht => h t (List.mem_cons_of_mem _ ht)) (fun c bs hm => hz c bs (List.mem_cons_of_mem _ hm)) ((w : Rat) :: xs) (hk.imp id fun q => ?_)
    unfold atLeast at q ⊢
    rw [(pm.filter _).length_eq] at q
    exact q
  | .st c bs :: s, h, hz, xs, hk => by
    have g := (same (h (.st c bs) (List.mem_cons_self ..))).1
    have e0 : endsOf (.st c bs :: s) = endsOf s := rfl
    rw [e0] at hk ⊢
    have e : E (fun v => FE k (s.map tableR) (v :: xs)) (tableR (.st c bs)) = E (fun _ => topk k (xs ++ endsOf s)) (tableR (.st c bs)) := by
      apply E_congr
      intro p hp
      have pz : p.1 ≤ z := Rat.le_trans (table_le hp) (hz c bs (List.mem_cons_self ..))
      rw [cap_stop s (fun t ht => h t (List.mem_cons_of_mem _ ht)) (fun c bs hm => hz c bs (List.mem_cons_of_mem _ hm)) (p.1 :: xs) (hk.imp id fun q => Nat.le_trans q (atLeast_mono z p.1 _))]
      exact topk_drop hk pz
    show E (fun v => FE k (s.map tableR) (v :: xs)) (tableR (.st c bs)) = _
    rw [e, E_const, g.one, Rat.mul_one]
/-- how many tables tell more than z -/
theorem few_tables {z : Rat} : ∀ (s : List Tr), (∀ c bs, Tr.st c bs ∈ s → strikeR (belowR bs) c ≤ z) → ((s.map tableR).filter fun t => decide (∃ p ∈ t, z < p.1)).length ≤ atLeast z (endsOf s)
  | [], _ => Nat.zero_le _
  | .en w :: s, h => by
    have ih := few_tables s fun c bs hm => h c bs (List.mem_cons_of_mem _ hm)
    have e : endsOf (.en w :: s) = (w : Rat) :: endsOf s := rfl
    rw [e, atLeast_cons, List.map_cons, List.filter_cons, tab_en]
    by_cases q : z < (w : Rat)
    · have : ∃ p ∈ [((w : Rat), (1 : Rat))], z < p.1 := ⟨_, List.mem_singleton.mpr rfl, q⟩
      simp only [this, decide_true, if_true, List.length_cons]
      rw [if_pos (Rat.le_of_lt q)]
      omega
    · have : ¬ ∃ p ∈ [((w : Rat), (1 : Rat))], z < p.1 := fun ⟨p, hp, l⟩ => q (by rw [List.mem_singleton.mp hp] at l; exact l)
      simp only [this, decide_false, Bool.false_eq_true, if_false]
      omega
  | .st c bs :: s, h => by
    have ih := few_tables s fun c bs hm => h c bs (List.mem_cons_of_mem _ hm)
    have e : endsOf (.st c bs :: s) = endsOf s := rfl
    rw [e, List.map_cons, List.filter_cons]
    have : ¬ ∃ p ∈ tableR (.st c bs), z < p.1 := fun ⟨p, hp, l⟩ => by
      have h1 := table_le hp
      have h2 := h c bs (List.mem_cons_self ..)
      grind
    simp only [this, decide_false, Bool.false_eq_true, if_false]
    exact ih
theorem go_eq {k : Nat} {a d : List Tr} {c : Nat} {bs : Bs} (h : okL (a ++ .st c bs :: d)) (hz : 0 < strikeR (belowR bs) c) (hk : atLeast (strikeR (belowR bs) c) (endsOf (a ++ d)) < k)
    (hm : ∀ c' bs', Tr.st c' bs' ∈ a ++ d → strikeR (belowR bs') c' ≤ strikeR (belowR bs) c) : goF (fun t => capF k (a ++ t :: d)) c bs = capF k (a ++ .st c bs :: d) := by
  rw [goF_cap, capF_st]
  obtain ⟨h1, h2⟩ := h.mid
  have r := strike_rest h2
  have few := few_tables (a ++ d) hm
  generalize strikeR (belowR bs) c = z at *
  obtain ⟨k, rfl⟩ : ∃ m, k = m + 1 := ⟨k - 1, by omega⟩
  have tk := FE_take (k := k) (z := z) (by grind) ((a ++ d).map tableR) h1.good _ [] (by show _ + 0 ≤ k; exact Nat.le_trans few (by omega)) (Nat.le_refl _)
  have key : E (fun v => FE (k + 1) ((a ++ d).map tableR) [v]) (belowR bs) = E (fun v => FE (k + 1) ((a ++ d).map tableR) [mn v z] + pos (v - z)) (belowR bs) := by
    apply E_congr
    intro p _
    unfold mn pos
    by_cases q : z < p.1
    · rw [if_pos q, if_pos (by grind), tk p.1 (Rat.le_of_lt q), tk z Rat.le_refl]
      grind
    · rw [if_neg q, if_neg (by grind), Rat.add_zero]
  rw [E_add] at key
  have r' : E (fun v => pos (v - z)) (belowR bs) = c := r
  rw [r'] at key
  grind
theorem trees_sN (s : List Tr) : trees (s.map sN) = s := by
  unfold trees
  rw [List.map_map]
  conv => rhs; rw [← List.map_id s]
  apply List.map_congr_left
  intro t _
  exact sN_tree t
theorem sN_mem {s : List Tr} {c : Nat} {y : Rat} {bs : NB} (h : NT.st c y bs ∈ s.map sN) : ∃ b, Tr.st c b ∈ s ∧ y = strikeR (belowR b) c ∧ bs = sNB b := by
  obtain ⟨t, ht, e⟩ := List.mem_map.mp h
  cases t with
  | en w => rw [sN] at e; cases e
  | st c' b =>
    rw [sN] at e
    cases e
    exact ⟨b, ht, rfl, rfl⟩
theorem mem_sN {s : List Tr} {c : Nat} {b : Bs} (h : Tr.st c b ∈ s) : NT.st c (strikeR (belowR b) c) (sNB b) ∈ s.map sN := List.mem_map.mpr ⟨_, h, by rw [sN]⟩
theorem map_rep {α β : Type} (f : α → β) (s : List α) (i : Nat) (a : α) : (rep s i a).map f = rep (s.map f) i (f a) := by
  unfold rep
  rw [List.map_append, List.map_cons, List.map_take, List.map_drop]
theorem atLeast_app (z : Rat) (s t : List Rat) : atLeast z (s ++ t) = atLeast z s + atLeast z t := by
  unfold atLeast
  rw [List.filter_append, List.length_append]
theorem endsOf_app (s t : List Tr) : endsOf (s ++ t) = endsOf s ++ endsOf t := by
  unfold endsOf
  rw [List.filterMap_append]
/-- going by the strikes gains the mean of the greatest caps -/
theorem gain_strikes (k : Nat) : ∀ (n : Nat) (s : List Tr), okL s → stepsL s ≤ n → gainF n k (s.map sN) = capF k s
  | 0, s, h, hn => by
    have no : ∀ c bs, Tr.st c bs ∈ s → strikeR (belowR bs) c ≤ 0 := by
      intro c bs hm
      exfalso
      obtain ⟨a, d, rfl⟩ := List.append_of_mem hm
      rw [stepsL_mid] at hn
      simp only [Tr.steps] at hn
      omega
    rw [gainF, trees_sN]
    exact (cap_stop s h no [] (.inl Rat.le_refl)).symm
  | n + 1, s, h, hn => by
    rw [gainF, trees_sN]
    split
    · rename_i hg
      obtain ⟨z, h1, h2⟩ := goIdx_none hg
      rw [endsN_eq, trees_sN] at h1
      exact (cap_stop s h (fun c bs hm => h2 _ _ _ (mem_sN hm)) [] h1).symm
    · rename_i i hg
      obtain ⟨c, z, bs, h1, h2, h3, h4⟩ := goIdx_some hg
      rw [h1]
      dsimp only
      rw [endsN_eq, trees_sN] at h3
      obtain ⟨b, hb, rfl, rfl⟩ := sN_mem (List.mem_of_getElem? h1)
      have hs : s[i]? = some (.st c b) := by
        rw [List.getElem?_map] at h1
        obtain ⟨t, ht, e⟩ := Option.map_eq_some_iff.mp h1
        have := congrArg NT.tree e
        rw [sN_tree, NT.tree, sNB_trees] at this
        rw [ht, this]
      have es := rep_eq hs
      have hk : okL (s.take i ++ .st c b :: s.drop (i + 1)) := by rw [← es]; exact h
      have ee : endsOf s = endsOf (s.take i ++ s.drop (i + 1)) := by
        conv => lhs; rw [es]
        rw [endsOf_app, endsOf_app]
        rfl
      rw [ee] at h3
      have ge := go_eq (k := k) hk h2 h3 (fun c' bs' hm => h4 _ _ _ (mem_sN (by
        rw [es]
        rcases List.mem_append.mp hm with hm | hm
        · exact List.mem_append_left _ hm
        · exact List.mem_append_right _ (List.mem_cons_of_mem _ hm))))
      rw [← es] at ge
      rw [← ge]
      refine (goN_eq (g := fun t => capF k (s.take i ++ t :: s.drop (i + 1))) fun p hp => ?_).trans (by rw [sNB_trees])
      rw [sNB_list] at hp
      obtain ⟨q, hq, rfl⟩ := List.mem_map.mp hp
      dsimp only
      rw [sN_tree, ← map_rep]
      have sc := steps_child (a := s.take i) (d := s.drop (i + 1)) (c := c) hq
      rw [← es] at sc
      exact gain_strikes k n _ (hk.child hq) (by unfold rep; omega)
/-- the greatest gain of all plans is the mean of the greatest caps -/
theorem val_cap (k : Nat) {s : List Tr} (h : okL s) : valR k s = capF k s := by
  apply Rat.le_antisymm
  · exact capF_up _ s h
  · have := gain_le k (stepsL s) (s.map sN)
    rw [gain_strikes k _ s h (Nat.le_refl _), trees_sN] at this
    exact this
theorem gainF_more (k : Nat) : ∀ (n m : Nat) (s : List NT), stepsL (trees s) ≤ n → n ≤ m → gainF m k s = gainF n k s := by
  have key : ∀ (n : Nat) (s : List NT), stepsL (trees s) ≤ n → gainF (n + 1) k s = gainF n k s := by
    intro n
    induction n with
    | zero =>
      intro s h
      rw [gainF, gainF]
      split
      · rfl
      · rename_i i hg
        obtain ⟨c, z, bs, h1, _⟩ := goIdx_some hg
        have := mid_tree h1
        rw [this, stepsL_mid] at h
        simp only [Tr.steps] at h
        omega
    | succ n ih =>
      intro s h
      rw [gainF]
      conv => rhs; rw [gainF]
      split
      · rfl
      · rename_i i hg
        obtain ⟨c, z, bs, h1, _⟩ := goIdx_some hg
        rw [h1]
        dsimp only
        unfold goN
        congr 2
        apply List.map_congr_left
        intro p hp
        have e := mid_tree h1
        have hp' : (p.1, p.2.tree) ∈ bs.trees.list := by rw [NB.trees_list]; exact List.mem_map.mpr ⟨p, hp, rfl⟩
        have sc := steps_child (a := (trees s).take i) (d := (trees s).drop (i + 1)) (c := c) hp'
        rw [← e] at sc
        dsimp only at sc
        show gainF (n + 1) k (rep s i p.2) * _ = gainF n k (rep s i p.2) * _
        rw [ih (rep s i p.2) (by rw [trees_rep]; omega)]
  intro n m s h hm
  induction m with
  | zero => have : n = 0 := by omega
            rw [this]
  | succ m ihm =>
    by_cases q : n = m + 1
    · rw [q]
    · rw [key m s (by omega), ihm (by omega)]
def gainR (k : Nat) (s : List NT) : Rat := gainF (stepsL (trees s)) k s
theorem gainR_le (k : Nat) (s : List NT) : gainR k s ≤ valR k (trees s) := gain_le k _ s
end Lw

namespace Lw
open PySem L2 Mi
/-! Q1: fractions. -/
def fr (q : Rat) : MV := .tup [.int q.num, .int q.den]
theorem fix_fr {q : Rat} : (fr q).fix = true := rfl
theorem fixL0 : fixL [] = true := rfl
theorem fixL1 {a : MV} {l : List MV} (h : a.fix = true) (h2 : fixL l = true) : fixL (a :: l) = true := by rw [fixL, h, h2]; rfl
theorem fixI {i : Int} : (MV.int i).fix = true := rfl
theorem fixS {i : Str} : (MV.str i).fix = true := rfl
theorem fixN : MV.non.fix = true := rfl
theorem fixB {i : Bool} : (MV.bl i).fix = true := rfl
theorem fixT {l : List MV} (h : fixL l = true) : (MV.tup l).fix = true := by rw [MV.fix]; exact h
theorem fixLst {l : List MV} (h : fixL l = true) : (MV.lst l).fix = true := by rw [MV.fix]; exact h
theorem cltI {G : Gm} {i j : Int} {h : MH} : copG G .lt (.int i) (.int j) h = .ok (.bl (decide (i < j))) h := rfl
theorem cleI {G : Gm} {i j : Int} {h : MH} : copG G .le (.int i) (.int j) h = .ok (.bl (decide (i ≤ j))) h := rfl
theorem cgtI {G : Gm} {i j : Int} {h : MH} : copG G .gt (.int i) (.int j) h = .ok (.bl (decide (j < i))) h := rfl
theorem cgeI {G : Gm} {i j : Int} {h : MH} : copG G .ge (.int i) (.int j) h = .ok (.bl (decide (j ≤ i))) h := rfl
theorem sh0 {d : PyData} (h : d.canLay0 = true) (h2 : d.depth ≤ 64) : SeqAt.shaped d = true := by
  unfold SeqAt.shaped
  rw [h, decide_eq_true h2]
  rfl
theorem beqI (i j : Int) : (i == j) = decide (i = j) := by
  by_cases c : i = j
  · subst c; simp
  · simp [c]
theorem pyEqI {i j : Int} : pyEq (.int i) (.int j) = some (decide (i = j)) := by
  unfold pyEq
  simp only [MV.pd]
  rw [sh0 (d := .int i) rfl (Nat.zero_le _), sh0 (d := .int j) rfl (Nat.zero_le _), ← beqI]
  rfl
theorem ceqI {G : Gm} {i j : Int} {h : MH} : copG G .eq (.int i) (.int j) h = .ok (.bl (decide (i = j))) h := by
  unfold copG cop
  simp only [pyEqI]
theorem cneI {G : Gm} {i j : Int} {h : MH} : copG G .ne (.int i) (.int j) h = .ok (.bl (!decide (i = j))) h := by
  unfold copG cop
  simp only [pyEqI]
theorem fr_inj {p q : Rat} (h : p.num = q.num) (h2 : (p.den : Int) = q.den) : p = q := Rat.ext h (by omega)
theorem pyEqF {p q : Rat} : pyEq (fr p) (fr q) = some (decide (p = q)) := by
  unfold pyEq fr
  simp only [MV.pd, pdL, Option.map]
  rw [sh0 (d := .tuple [.int p.num, .int p.den]) rfl (by simp [PyData.depth, PyData.depthAll]), sh0 (d := .tuple [.int q.num, .int q.den]) rfl (by simp [PyData.depth, PyData.depthAll])]
  simp only [Bool.and_self, if_true, PyData.eqv, PyData.eqvAll, beqI, Bool.and_true]
  congr 1
  rw [← Bool.decide_and, decide_eq_decide]
  constructor
  · rintro ⟨a, b⟩; exact fr_inj a b
  · rintro rfl; exact ⟨rfl, rfl⟩
theorem ceqF {G : Gm} {p q : Rat} {h : MH} : copG G .eq (fr p) (fr q) h = .ok (.bl (decide (p = q))) h := by
  show cop .eq (fr p) (fr q) h = _
  have : cop .eq (fr p) (fr q) h = (match pyEq (fr p) (fr q) with | some k => .ok (.bl k) h | none => .bad) := rfl
  rw [this, pyEqF]
theorem cneF {G : Gm} {p q : Rat} {h : MH} : copG G .ne (fr p) (fr q) h = .ok (.bl (!decide (p = q))) h := by
  show cop .ne (fr p) (fr q) h = _
  have : cop .ne (fr p) (fr q) h = (match pyEq (fr p) (fr q) with | some k => .ok (.bl (!k)) h | none => .bad) := rfl
  rw [this, pyEqF]
/-! ### sizes -/
def BB : Nat := 2 ^ 4400
theorem BB_mul : BB * BB ≤ 2 ^ 8800 := by unfold BB; rw [← Nat.pow_add]; exact Nat.le_refl _
theorem BB_lim : BB ≤ LIM := Nat.pow_le_pow_right (by decide) (by decide)
theorem BB_pos : 0 < BB := Nat.pow_pos (by decide)
def fits (q : Rat) : Prop := q.num.natAbs < BB ∧ q.den < BB
theorem smB {i : Int} (h : i.natAbs < BB) : small i = true := decide_eq_true (Nat.lt_of_lt_of_le h BB_lim)
theorem mulB {x y : Int} {h : MH} (hx : x.natAbs < BB) (hy : y.natAbs < BB) : bop .mul (.int x) (.int y) h = .ok (.int (x * y)) h := by
  unfold bop
  simp only [smB hx, smB hy, Bool.and_self, if_true]
theorem denB {p : Rat} (h : fits p) : ((p.den : Int)).natAbs < BB := h.2
theorem den8800 {p q : Rat} (hp : fits p) (hq : fits q) : p.den * q.den < 2 ^ 8800 := Nat.lt_of_lt_of_le (Nat.mul_lt_mul'' hp.2 hq.2) BB_mul
/-! ### the greatest common divisor -/
theorem gcd_loop {h : MH} {b : MS → MH → SR} {cc : MS → MH → Out MV} {st : Int → Int → MS} (hc : ∀ x y : Int, cc (st x y) h = .ok (.bl (decide (0 < y))) h)
    (hb : ∀ x y : Int, 0 < y → b (st x y) h = .nx (st y (x % y)) h) : ∀ (n : Nat) (x y : Nat), y < 2 ^ n →
    loopW cc b (2 * n + 1) (st x y) h = .nx (st (Nat.gcd x y) 0) h := by
  have step : ∀ (m : Nat) (x y : Nat), 0 < y → loopW cc b (m + 1) (st x y) h = loopW cc b m (st y ((x % y : Nat) : Int)) h := by
    intro m x y hy
    have e1 : decide ((0 : Int) < (y : Int)) = true := by simpa using hy
    rw [loopW, hc, e1]
    dsimp only [truth]
    rw [hb _ _ (by omega), Int.natCast_emod]
  have stop : ∀ (m : Nat) (x : Nat), loopW cc b (m + 1) (st x ((0 : Nat) : Int)) h = .nx (st x 0) h := by
    intro m x
    rw [loopW, hc]
    rfl
  intro n
  induction n with
  | zero =>
    intro a b hb
    have : b = 0 := by omega
    subst this
    rw [stop, Nat.gcd_zero_right]
  | succ n ih =>
    intro a b hb
    by_cases h0 : b = 0
    · subst h0
      rw [stop, Nat.gcd_zero_right]
    · have e : 2 * (n + 1) + 1 = (2 * n + 1 + 1) + 1 := by omega
      rw [e, step _ _ _ (by omega)]
      by_cases h1 : a % b = 0
      · rw [h1, stop]
        rw [Nat.gcd_comm, Nat.gcd_rec, h1, Nat.gcd_zero_left]
      · rw [step _ _ _ (by omega), ih]
        · rw [Nat.gcd_comm a b, Nat.gcd_rec b a, Nat.gcd_rec (a % b) b]
          exact congrArg (fun z : Nat => SR.nx (st z 0) h) (Nat.gcd_comm _ _)
        · have h2 : b % (a % b) < a % b := Nat.mod_lt _ (by omega)
          have h3 : a % b < b := Nat.mod_lt _ (by omega)
          have h4 : b % (a % b) + (a % b) ≤ b := by
            have := Nat.div_add_mod b (a % b)
            have h5 : 1 ≤ b / (a % b) := (Nat.le_div_iff_mul_le (by omega)).2 (by omega)
            have h6 : (a % b) * 1 ≤ (a % b) * (b / (a % b)) := Nat.mul_le_mul_left _ h5
            omega
          rw [Nat.pow_succ] at hb
          omega
theorem gcd_loopW {h : MH} {b : MS → MH → SR} {cc : MS → MH → Out MV} (st : Int → Int → MS) {W : Nat} (hW : 20000 ≤ W) (hc : ∀ x y : Int, cc (st x y) h = .ok (.bl (decide (0 < y))) h)
    (hb : ∀ x y : Int, 0 < y → b (st x y) h = .nx (st y (x % y)) h) (x y : Nat) (hy : y < 2 ^ 8800) :
    loopW cc b W (st x y) h = .nx (st (Nat.gcd x y) 0) h := by
  have q := loopW_mono _ _ _ (W - (2 * 8800 + 1)) _ _ _ _ (gcd_loop (st := st) (h := h) hc hb 8800 x y hy)
  rw [show W - (2 * 8800 + 1) + (2 * 8800 + 1) = W by omega] at q
  exact q
theorem absI (x : Int) (h : MH) : bAbs [.int x] h = .ok (.int x.natAbs) h := by
  unfold bAbs
  dsimp only
  congr 2
  split <;> omega
theorem modI {x y : Int} {h : MH} (hy : 0 < y) : bop .mod (.int x) (.int y) h = .ok (.int (x % y)) h := by
  unfold bop
  simp only [hy, decide_true, if_true]
theorem c_common {W k : Nat} {a : Int} {b : Nat} {h : MH} (hb : b < 2 ^ 8800) (hW : 20000 ≤ W) (hk : 1 ≤ k) : callD GG (runF GG W k) j_common [.int a, .int b] h = .ok (.int (Int.gcd a b)) h := by
  obtain ⟨k, rfl⟩ : ∃ m, k = m + 1 := ⟨k - 1, by omega⟩
  refine Pc.call (Pc.mk (h := []) ?_ rfl) g_common rfl rfl h
  have q := gcd_loopW (h := []) (fun x y => [some (.int x), some (.int y)]) (cc := fun σ h => evE GG (runF GG W k) wc_common σ h) (b := fun σ h => evSs GG (runF GG W k) W wb_common σ h) hW
    (fun x y => by simp only [wc_common, evSs, evS, evE, evL, evO, evTs, List.getElem?_cons_zero, List.getElem?_cons_succ, List.set_cons_zero, List.set_cons_succ, truth, cltI, cleI, cgtI, cgeI, ceqI, cneI, gt0, gt1, gt2, gt3, gl0, gl1, addI, subI, fin_rt, fin_nx])
    (fun x y hy => by simp only [wb_common, blt, bInt, modI hy, evSs, evS, evE, evL, evO, evTs, List.getElem?_cons_zero, List.getElem?_cons_succ, List.set_cons_zero, List.set_cons_succ, truth, cltI, cleI, cgtI, cgeI, ceqI, cneI, gt0, gt1, gt2, gt3, gl0, gl1, addI, subI, fin_rt, fin_nx]) a.natAbs b hb
  rw [r_common, b_common]
  simp only [evSs, evS, evE, evL, List.getElem?_cons_zero, List.set_cons_zero, blt, absI]
  rw [q]
  rfl
theorem fdivB {x : Int} {g : Nat} {h : MH} (h0 : 0 < g) (hg : g < 2 ^ 8800) : bop .fdiv (.int x) (.int g) h = .ok (.int (x / (g : Int))) h := by
  have sm : small (g : Int) = true := decide_eq_true (Nat.lt_of_lt_of_le (show (g : Int).natAbs < 2 ^ 8800 from hg) (Nat.pow_le_pow_right (by decide) (by decide)))
  have ps : decide ((0 : Int) < (g : Int)) = true := decide_eq_true (by omega)
  unfold bop
  simp only [ps, sm, Bool.and_self, if_true]
theorem fr_low (a : Int) (b : Nat) (h0 : 0 < b) : MV.tup [.int (a / (Int.gcd a b : Int)), .int ((b : Int) / (Int.gcd a b : Int))] = fr (mkRat a b) := by
  unfold fr
  have e1 : (mkRat a b).num = a / (Int.gcd a b : Int) := by
    rw [Rat.num_mkRat, if_neg (by omega), Nat.gcd_comm]
    rfl
  have e2 : ((mkRat a b).den : Int) = (b : Int) / (Int.gcd a b : Int) := by
    rw [Rat.den_mkRat, if_neg (by omega), Nat.gcd_comm, Int.natCast_ediv]
    rfl
  rw [e1, e2]
theorem gcd8800 {a : Int} {b : Nat} (h0 : 0 < b) (hb : b < 2 ^ 8800) : 0 < Int.gcd a b ∧ Int.gcd a b < 2 ^ 8800 :=
  ⟨Nat.gcd_pos_of_pos_right _ h0, Nat.lt_of_le_of_lt (Nat.gcd_le_right _ h0) hb⟩
theorem c_lowest {W k : Nat} {a : Int} {b : Nat} {h : MH} (h0 : 0 < b) (hb : b < 2 ^ 8800) (hW : 20000 ≤ W) (hk : 2 ≤ k) : callD GG (runF GG W k) j_lowest [.int a, .int b] h = .ok (fr (mkRat a b)) h := by
  obtain ⟨k, rfl⟩ : ∃ m, k = m + 1 := ⟨k - 1, by omega⟩
  refine Pc.call (Pc.mk (h := []) ?_ rfl) g_lowest rfl rfl h
  obtain ⟨g0, g1⟩ := gcd8800 (a := a) h0 hb
  rw [r_lowest, b_lowest]
  simp only [evSs, evS, evE, evL, evO, evTs, List.getElem?_cons_zero, List.getElem?_cons_succ, List.set_cons_zero, List.set_cons_succ, truth, cltI, cleI, cgtI, cgeI, ceqI, cneI, gt0, gt1, gt2, gt3, gl0, gl1, addI, subI, fin_rt, fin_nx, c_common hb hW (show 1 ≤ k by omega), fdivB g0 g1, fr_low a b h0]
theorem radd (p q : Rat) : p + q = mkRat (p.num * q.den + q.num * p.den) (p.den * q.den) := by
  rw [← Rat.mkRat_add_mkRat _ _ p.den_nz q.den_nz, Rat.mkRat_self, Rat.mkRat_self]
theorem rsub (p q : Rat) : p - q = mkRat (p.num * q.den - q.num * p.den) (p.den * q.den) := by
  rw [Rat.sub_def, Rat.normalize_eq_mkRat]
theorem rmul (p q : Rat) : p * q = mkRat (p.num * q.num) (p.den * q.den) := by
  rw [← Rat.mkRat_mul_mkRat, Rat.mkRat_self, Rat.mkRat_self]
theorem num_pos' {q : Rat} (h : 0 < q) : 0 < q.num := by
  have := (Rat.lt_iff 0 q).mp h
  simpa using this
theorem rdiv (p q : Rat) (hq : 0 < q) : p / q = mkRat (p.num * q.den) (p.den * q.num.natAbs) := by
  have hn : 0 < q.num := num_pos' hq
  have e : q⁻¹ = mkRat q.den q.num.natAbs := by
    have h1 : (q.num.natAbs : Int) = q.num := by omega
    rw [Rat.inv_def, ← Rat.divInt_ofNat, h1]
  rw [Rat.div_def, e]
  conv => lhs; rw [← Rat.mkRat_self p]
  rw [Rat.mkRat_mul_mkRat]
section
variable {W k : Nat} {p q : Rat} {h : MH}
theorem c_add (hp : fits p) (hq : fits q) (hW : 20000 ≤ W) (hk : 3 ≤ k) : callD GG (runF GG W k) j_add [fr p, fr q] h = .ok (fr (p + q)) h := by
  obtain ⟨k, rfl⟩ : ∃ m, k = m + 1 := ⟨k - 1, by omega⟩
  refine Pc.call (Pc.mk (h := []) ?_ rfl) g_add rfl rfl h
  have c := c_lowest (W := W) (k := k) (a := p.num * q.den + q.num * p.den) (h := []) (Nat.mul_pos p.den_pos q.den_pos) (den8800 hp hq) hW (by omega)
  rw [← radd, Int.natCast_mul] at c
  rw [r_add, b_add]
  unfold fr at c ⊢
  simp only [evSs, evS, evE, evL, evO, evTs, List.getElem?_cons_zero, List.getElem?_cons_succ, List.set_cons_zero, List.set_cons_succ, truth, cltI, cleI, cgtI, cgeI, ceqI, cneI, gt0, gt1, gt2, gt3, gl0, gl1, addI, subI, fin_rt, fin_nx, mulB hp.1 (denB hq), mulB hq.1 (denB hp), mulB (denB hp) (denB hq), c]
theorem c_less (hp : fits p) (hq : fits q) (hW : 20000 ≤ W) (hk : 3 ≤ k) : callD GG (runF GG W k) j_less [fr p, fr q] h = .ok (fr (p - q)) h := by
  obtain ⟨k, rfl⟩ : ∃ m, k = m + 1 := ⟨k - 1, by omega⟩
  refine Pc.call (Pc.mk (h := []) ?_ rfl) g_less rfl rfl h
  have c := c_lowest (W := W) (k := k) (a := p.num * q.den - q.num * p.den) (h := []) (Nat.mul_pos p.den_pos q.den_pos) (den8800 hp hq) hW (by omega)
  rw [← rsub, Int.natCast_mul] at c
  rw [r_less, b_less]
  unfold fr at c ⊢
  simp only [evSs, evS, evE, evL, evO, evTs, List.getElem?_cons_zero, List.getElem?_cons_succ, List.set_cons_zero, List.set_cons_succ, truth, cltI, cleI, cgtI, cgeI, ceqI, cneI, gt0, gt1, gt2, gt3, gl0, gl1, addI, subI, fin_rt, fin_nx, mulB hp.1 (denB hq), mulB hq.1 (denB hp), mulB (denB hp) (denB hq), c]
theorem c_times (hp : fits p) (hq : fits q) (hW : 20000 ≤ W) (hk : 3 ≤ k) : callD GG (runF GG W k) j_times [fr p, fr q] h = .ok (fr (p * q)) h := by
  obtain ⟨k, rfl⟩ : ∃ m, k = m + 1 := ⟨k - 1, by omega⟩
  refine Pc.call (Pc.mk (h := []) ?_ rfl) g_times rfl rfl h
  have c := c_lowest (W := W) (k := k) (a := p.num * q.num) (h := []) (Nat.mul_pos p.den_pos q.den_pos) (den8800 hp hq) hW (by omega)
  rw [← rmul, Int.natCast_mul] at c
  rw [r_times, b_times]
  unfold fr at c ⊢
  simp only [evSs, evS, evE, evL, evO, evTs, List.getElem?_cons_zero, List.getElem?_cons_succ, List.set_cons_zero, List.set_cons_succ, truth, cltI, cleI, cgtI, cgeI, ceqI, cneI, gt0, gt1, gt2, gt3, gl0, gl1, addI, subI, fin_rt, fin_nx, mulB hp.1 hq.1, mulB (denB hp) (denB hq), c]
theorem c_over (hp : fits p) (hq : fits q) (h0 : 0 < q) (hW : 20000 ≤ W) (hk : 3 ≤ k) : callD GG (runF GG W k) j_over [fr p, fr q] h = .ok (fr (p / q)) h := by
  obtain ⟨k, rfl⟩ : ∃ m, k = m + 1 := ⟨k - 1, by omega⟩
  refine Pc.call (Pc.mk (h := []) ?_ rfl) g_over rfl rfl h
  have hn : 0 < q.num := num_pos' h0
  have c := c_lowest (W := W) (k := k) (a := p.num * q.den) (b := p.den * q.num.natAbs) (h := []) (Nat.mul_pos p.den_pos (by omega)) (Nat.lt_of_lt_of_le (Nat.mul_lt_mul'' hp.2 hq.1) BB_mul) hW (by omega)
  rw [← rdiv _ _ h0, Int.natCast_mul, show (q.num.natAbs : Int) = q.num by omega] at c
  rw [r_over, b_over]
  unfold fr at c ⊢
  simp only [evSs, evS, evE, evL, evO, evTs, List.getElem?_cons_zero, List.getElem?_cons_succ, List.set_cons_zero, List.set_cons_succ, truth, cltI, cleI, cgtI, cgeI, ceqI, cneI, gt0, gt1, gt2, gt3, gl0, gl1, addI, subI, fin_rt, fin_nx, mulB hp.1 (denB hq), mulB (denB hp) hq.1, c]
theorem c_is_below (hp : fits p) (hq : fits q) (hk : 1 ≤ k) : callD GG (runF GG W k) j_is_below [fr p, fr q] h = .ok (.bl (decide (p < q))) h := by
  obtain ⟨k, rfl⟩ : ∃ m, k = m + 1 := ⟨k - 1, by omega⟩
  refine Pc.call (Pc.mk (h := []) ?_ rfl) g_is_below rfl rfl h
  have e : decide (p < q) = decide (p.num * q.den < q.num * p.den) := decide_eq_decide.2 (Rat.lt_iff p q)
  rw [r_is_below, b_is_below, e]
  unfold fr
  simp only [evSs, evS, evE, evL, evO, evTs, List.getElem?_cons_zero, List.getElem?_cons_succ, List.set_cons_zero, List.set_cons_succ, truth, cltI, cleI, cgtI, cgeI, ceqI, cneI, gt0, gt1, gt2, gt3, gl0, gl1, addI, subI, fin_rt, fin_nx, mulB hp.1 (denB hq), mulB hq.1 (denB hp)]
theorem c_lesser (hp : fits p) (hq : fits q) (hk : 2 ≤ k) : callD GG (runF GG W k) j_lesser [fr p, fr q] h = .ok (fr (if q < p then q else p)) h := by
  obtain ⟨k, rfl⟩ : ∃ m, k = m + 1 := ⟨k - 1, by omega⟩
  refine Pc.call (Pc.mk (h := []) ?_ rfl) g_lesser rfl rfl h
  have c := c_is_below (W := W) (k := k) (h := []) hq hp (by omega)
  rw [r_lesser, b_lesser]
  by_cases e : q < p
  · simp only [evSs, evS, evE, evL, evO, evTs, List.getElem?_cons_zero, List.getElem?_cons_succ, List.set_cons_zero, List.set_cons_succ, truth, cltI, cleI, cgtI, cgeI, ceqI, cneI, gt0, gt1, gt2, gt3, gl0, gl1, addI, subI, fin_rt, fin_nx, c, e, decide_true, if_true]
  · simp only [evSs, evS, evE, evL, evO, evTs, List.getElem?_cons_zero, List.getElem?_cons_succ, List.set_cons_zero, List.set_cons_succ, truth, cltI, cleI, cgtI, cgeI, ceqI, cneI, gt0, gt1, gt2, gt3, gl0, gl1, addI, subI, fin_rt, fin_nx, c, e, decide_false, if_false]
theorem c_greater (hp : fits p) (hq : fits q) (hk : 2 ≤ k) : callD GG (runF GG W k) j_greater [fr p, fr q] h = .ok (fr (if p < q then q else p)) h := by
  obtain ⟨k, rfl⟩ : ∃ m, k = m + 1 := ⟨k - 1, by omega⟩
  refine Pc.call (Pc.mk (h := []) ?_ rfl) g_greater rfl rfl h
  have c := c_is_below (W := W) (k := k) (h := []) hp hq (by omega)
  rw [r_greater, b_greater]
  by_cases e : p < q
  · simp only [evSs, evS, evE, evL, evO, evTs, List.getElem?_cons_zero, List.getElem?_cons_succ, List.set_cons_zero, List.set_cons_succ, truth, cltI, cleI, cgtI, cgeI, ceqI, cneI, gt0, gt1, gt2, gt3, gl0, gl1, addI, subI, fin_rt, fin_nx, c, e, decide_true, if_true]
  · simp only [evSs, evS, evE, evL, evO, evTs, List.getElem?_cons_zero, List.getElem?_cons_succ, List.set_cons_zero, List.set_cons_succ, truth, cltI, cleI, cgtI, cgeI, ceqI, cneI, gt0, gt1, gt2, gt3, gl0, gl1, addI, subI, fin_rt, fin_nx, c, e, decide_false, if_false]
end
end Lw

namespace Lw
open PySem L2 Mi
/-! Q2: lists of fractions, dicts, tables. -/
theorem foldl_fst {α S T : Type} {f : S × T → α → S × T} {g : S → α → S} (h : ∀ s x, (f s x).1 = g s.1 x) : ∀ (xs : List α) (s : S × T), (xs.foldl f s).1 = xs.foldl g s.1
  | [], _ => rfl
  | x :: xs, s => by rw [List.foldl_cons, List.foldl_cons, foldl_fst h xs, h]
theorem zZ : GG.glo[k_ZERO]? = some (fr 0) := glo_ZERO
theorem zO : GG.glo[k_ONE]? = some (fr 1) := glo_ONE
theorem fixFrs (qs : List Rat) : (MV.lst (qs.map fr)).fix = true := fixLst (fixL_map fun _ _ => fix_fr)
theorem c_total {W k : Nat} {h : MH} {qs : List Rat} (hf : ∀ q ∈ qs, fits q) (hp : ∀ n, fits (rsum (qs.take n))) (hW : 20000 ≤ W) (hk : 4 ≤ k) : callD GG (runF GG W k) j_total [.lst (qs.map fr)] h = .ok (fr (rsum qs)) h := by
  obtain ⟨k, rfl⟩ : ∃ m, k = m + 1 := ⟨k - 1, by omega⟩
  refine Pc.call (Pc.mk (h := []) ?_ fix_fr) g_total rfl (fixL1 (fixFrs qs) fixL0) h
  have L := loopF_fold (α := Rat) (S := Rat × Option MV) (t := .nm 2) (b := fun σ h => evSs GG (runF GG W k) W fb_total σ h) (enc := fr) (fun s x => (s.1 + x, some (fr x)))
    (fun s => [some (.lst (qs.map fr)), some (fr s.1), s.2]) (fun _ => []) (fun xs s => ∃ n, xs = qs.drop n ∧ s.1 = rsum (qs.take n))
    (fun x xs s i => by
      obtain ⟨n, e1, e2⟩ := i
      have hx : qs[n]? = some x := by
        have := congrArg (fun l => l[0]?) e1
        simpa using this.symm
      have hm : x ∈ qs := List.mem_of_getElem? hx
      have f1 : fits s.1 := by rw [e2]; exact hp n
      obtain ⟨hn, rfl⟩ := List.getElem?_eq_some_iff.mp hx
      refine ⟨⟨n + 1, ?_, ?_⟩, [some (.lst (qs.map fr)), some (fr s.1), some (fr qs[n])], rfl, ?_⟩
      · have := congrArg List.tail e1
        simpa using this
      · rw [List.take_succ_eq_append_getElem hn, rsum_append, e2]
        simp only [rsum]
        grind
      · simp only [fb_total, evSs, evS, evE, evL, evO, evTs, List.getElem?_cons_zero, List.getElem?_cons_succ, List.set_cons_zero, List.set_cons_succ, truth, cltI, cleI, cgtI, cgeI, ceqI, cneI, gt0, gt1, gt2, gt3, gl0, gl1, addI, subI, fin_rt, fin_nx, c_add f1 (hf _ hm) hW (show 3 ≤ k by omega)])
    qs (0, none) ⟨0, by simp, rfl⟩
  obtain ⟨n, e1, e2⟩ := L.2
  have e3 : rsum (qs.take n) = rsum qs := by
    rw [List.take_of_length_le]
    have := congrArg List.length e1
    simp at this
    omega
  rw [e3] at e2
  have L1 := L.1
  dsimp only at L1
  rw [e2] at L1
  rw [r_total, b_total]
  simp only [evSs, evS, evE, evL, evO, evTs, List.getElem?_cons_zero, List.getElem?_cons_succ, List.set_cons_zero, List.set_cons_succ, truth, cltI, cleI, cgtI, cgeI, ceqI, cneI, gt0, gt1, gt2, gt3, gl0, gl1, addI, subI, fin_rt, fin_nx, zZ, evI, specB, seqOf, L1]
/-! ### order -/
theorem take_tw (o : Rat) (l : List Rat) : l.take (l.takeWhile fun x => decide (x < o)).length = l.takeWhile fun x => decide (x < o) := by
  have e := List.takeWhile_append_dropWhile (p := fun x => decide (x < o)) (l := l)
  generalize l.takeWhile (fun x => decide (x < o)) = a at *
  generalize l.dropWhile (fun x => decide (x < o)) = b at *
  subst e
  simp
theorem drop_tw (o : Rat) (l : List Rat) : l.drop (l.takeWhile fun x => decide (x < o)).length = l.dropWhile fun x => decide (x < o) := by
  have e := List.takeWhile_append_dropWhile (p := fun x => decide (x < o)) (l := l)
  generalize l.takeWhile (fun x => decide (x < o)) = a at *
  generalize l.dropWhile (fun x => decide (x < o)) = b at *
  subst e
  simp
theorem tw_lt {o : Rat} : ∀ {l : List Rat} {n : Nat}, n < (l.takeWhile fun x => decide (x < o)).length → ∃ y, l[n]? = some y ∧ y < o
  | [], n, h => by simp at h
  | a :: l, n, h => by
    rw [List.takeWhile_cons] at h
    by_cases c : a < o
    · simp only [c, decide_true, if_true] at h
      cases n with
      | zero => exact ⟨a, rfl, c⟩
      | succ n =>
        obtain ⟨y, h1, h2⟩ := tw_lt (l := l) (n := n) (by simp at h; omega)
        exact ⟨y, by simpa using h1, h2⟩
    · simp only [c, decide_false] at h
      simp at h
theorem tw_eq {o : Rat} : ∀ {l : List Rat} {y : Rat}, l[(l.takeWhile fun x => decide (x < o)).length]? = some y → ¬ y < o
  | [], y, h => by simp at h
  | a :: l, y, h => by
    rw [List.takeWhile_cons] at h
    by_cases c : a < o
    · simp only [c, decide_true, if_true, List.length_cons, List.getElem?_cons_succ] at h
      exact tw_eq h
    · simp [c] at h
      subst h
      exact c
theorem tw_le (o : Rat) (l : List Rat) : (l.takeWhile fun x => decide (x < o)).length ≤ l.length := by
  have := congrArg List.length (List.takeWhile_append_dropWhile (p := fun x => decide (x < o)) (l := l))
  rw [List.length_append] at this
  omega
theorem c_ordered {W k : Nat} {h : MH} {qs : List Rat} (hf : ∀ q ∈ qs, fits q) (hl : qs.length ≤ 10000) (hW : 20000 ≤ W) (hk : 4 ≤ k) : callD GG (runF GG W k) j_ordered [.lst (qs.map fr)] h = .ok (.lst ((sortQ qs).map fr)) h := by
  obtain ⟨k, rfl⟩ : ∃ m, k = m + 1 := ⟨k - 1, by omega⟩
  refine Pc.call (Pc.mk (h := []) ?_ (fixFrs _)) g_ordered rfl (fixL1 (fixFrs qs) fixL0) h
  have L := loopF_fold (α := Rat) (S := List Rat × Option MV × Option MV) (t := .nm 2) (b := fun σ h => evSs GG (runF GG W k) W fb_ordered σ h) (enc := fr)
    (fun s x => (insQ x s.1, some (fr x), some (.int ((s.1.takeWhile fun y => decide (y < x)).length : Nat))))
    (fun s => [some (.lst (qs.map fr)), some (.lst (s.1.map fr)), s.2.1, s.2.2]) (fun _ => []) (fun xs s => (∀ x ∈ xs, fits x) ∧ (∀ x ∈ s.1, fits x) ∧ s.1.length + xs.length ≤ 10000)
    (fun x xs s i => by
      obtain ⟨i1, i2, i3⟩ := i
      have fx := i1 x (List.mem_cons_self ..)
      refine ⟨⟨fun y hy => i1 y (List.mem_cons_of_mem _ hy), fun y hy => ?_, ?_⟩, [some (.lst (qs.map fr)), some (.lst (s.1.map fr)), some (fr x), s.2.2], rfl, ?_⟩
      · rcases mem_insQ.mp hy with rfl | hy
        · exact fx
        · exact i2 y hy
      · have : (insQ x s.1).length = s.1.length + 1 := by
          unfold insQ
          have := congrArg List.length (List.takeWhile_append_dropWhile (p := fun y => decide (y < x)) (l := s.1))
          simp only [List.length_append, List.length_cons] at this ⊢
          omega
        rw [this]
        simp only [List.length_cons] at i3
        omega
      · have V := loopW_inv (S := Nat) (c := fun σ h => evE GG (runF GG W k) wc_ordered σ h) (b := fun σ h => evSs GG (runF GG W k) W wb_ordered σ h) (R := fun _ _ => False)
          (fun n => [some (.lst (qs.map fr)), some (.lst (s.1.map fr)), some (fr x), some (.int n)]) (fun _ => []) (fun n => s.1.length - n) (fun n => n ≤ (s.1.takeWhile fun y => decide (y < x)).length) (fun n => n = (s.1.takeWhile fun y => decide (y < x)).length)
          (fun n hn => by
            by_cases c : n < (s.1.takeWhile fun y => decide (y < x)).length
            · obtain ⟨y, h1, h2⟩ := tw_lt c
              have h3 : (s.1.map fr)[n]? = some (fr y) := by rw [List.getElem?_map, h1]; rfl
              have h4 := (List.getElem?_eq_some_iff.mp h1).1
              have h5 : decide ((n : Int) < ((s.1.map fr).length : Int)) = true := decide_eq_true (by simp; omega)
              refine .inr ⟨?_, .inl ⟨n + 1, ?_, by omega, by omega⟩⟩
              · simp only [wc_ordered, evSs, evS, evE, evL, evO, evTs, List.getElem?_cons_zero, List.getElem?_cons_succ, List.set_cons_zero, List.set_cons_succ, truth, cltI, cleI, cgtI, cgeI, ceqI, cneI, gt0, gt1, gt2, gt3, gl0, gl1, addI, subI, fin_rt, fin_nx, blt, bLen, asSeq, h5, glN h3, c_is_below (i2 y (List.mem_of_getElem? h1)) fx (show 1 ≤ k by omega), h2, decide_true]
              · simp only [wb_ordered, evSs, evS, evE, evL, evO, evTs, List.getElem?_cons_zero, List.getElem?_cons_succ, List.set_cons_zero, List.set_cons_succ, truth, cltI, cleI, cgtI, cgeI, ceqI, cneI, gt0, gt1, gt2, gt3, gl0, gl1, addI, subI, fin_rt, fin_nx]
                rfl
            · have e : n = (s.1.takeWhile fun y => decide (y < x)).length := by omega
              refine .inl ⟨?_, e⟩
              by_cases c2 : n < s.1.length
              · have h1 : s.1[n]? = some s.1[n] := by simp [c2]
                have h3 : (s.1.map fr)[n]? = some (fr s.1[n]) := by rw [List.getElem?_map, h1]; rfl
                have h5 : decide ((n : Int) < ((s.1.map fr).length : Int)) = true := decide_eq_true (by simp; omega)
                have h6 : ¬ s.1[n] < x := tw_eq (l := s.1) (o := x) (by rw [← e]; exact h1)
                simp only [wc_ordered, evSs, evS, evE, evL, evO, evTs, List.getElem?_cons_zero, List.getElem?_cons_succ, List.set_cons_zero, List.set_cons_succ, truth, cltI, cleI, cgtI, cgeI, ceqI, cneI, gt0, gt1, gt2, gt3, gl0, gl1, addI, subI, fin_rt, fin_nx, blt, bLen, asSeq, h5, glN h3, c_is_below (i2 _ (List.mem_of_getElem? h1)) fx (show 1 ≤ k by omega), h6, decide_false]
              · have h5 : decide ((n : Int) < ((s.1.map fr).length : Int)) = false := decide_eq_false (by simp; omega)
                simp only [wc_ordered, evSs, evS, evE, evL, evO, evTs, List.getElem?_cons_zero, List.getElem?_cons_succ, List.set_cons_zero, List.set_cons_succ, truth, cltI, cleI, cgtI, cgeI, ceqI, cneI, gt0, gt1, gt2, gt3, gl0, gl1, addI, subI, fin_rt, fin_nx, blt, bLen, asSeq, h5])
          W 0 (Nat.zero_le _) (by simp only [List.length_cons] at i3; omega)
        rcases V with ⟨n, V, rfl⟩ | ⟨_, _, _, V⟩
        · have tl := tw_le x s.1
          have tl' : (s.1.takeWhile fun y => decide (y < x)).length ≤ (s.1.map fr).length := by simpa using tl
          have c1 := cutTo tl'
          have c2 := cutFrom tl'
          rw [← List.map_take, take_tw] at c1
          rw [← List.map_drop, drop_tw] at c2
          have l1 : (s.1.takeWhile fun y => decide (y < x)).length ≤ 10000 := by simp only [List.length_cons] at i3; omega
          have l2 : (s.1.dropWhile fun y => decide (y < x)).length ≤ 10000 := by
            have := congrArg List.length (List.takeWhile_append_dropWhile (p := fun y => decide (y < x)) (l := s.1))
            rw [List.length_append] at this
            simp only [List.length_cons] at i3
            omega
          have a1 : bop .add (.lst ((s.1.takeWhile fun y => decide (y < x)).map fr)) (.lst [fr x]) [] = .ok (.lst ((s.1.takeWhile fun y => decide (y < x)).map fr ++ [fr x])) [] := addL (by simp; omega)
          have a2 : bop .add (.lst ((s.1.takeWhile fun y => decide (y < x)).map fr ++ [fr x])) (.lst ((s.1.dropWhile fun y => decide (y < x)).map fr)) [] = .ok (.lst ((s.1.takeWhile fun y => decide (y < x)).map fr ++ [fr x] ++ (s.1.dropWhile fun y => decide (y < x)).map fr)) [] := addL (by simp; omega)
          have e9 : (insQ x s.1).map fr = (s.1.takeWhile fun y => decide (y < x)).map fr ++ [fr x] ++ (s.1.dropWhile fun y => decide (y < x)).map fr := by simp [insQ]
          dsimp only
          rw [e9, fb_ordered]
          have V' : loopW (fun σ h => evE GG (runF GG W k) wc_ordered σ h) (fun σ h => evSs GG (runF GG W k) W wb_ordered σ h) W [some (.lst (qs.map fr)), some (.lst (s.1.map fr)), some (fr x), some (.int 0)] [] = _ := V
          simp only [evSs, evS, evE, evL, evO, evTs, List.getElem?_cons_zero, List.getElem?_cons_succ, List.set_cons_zero, List.set_cons_succ, truth, cltI, cleI, cgtI, cgeI, ceqI, cneI, gt0, gt1, gt2, gt3, gl0, gl1, addI, subI, fin_rt, fin_nx, V', slcV, c1, c2, a1, a2]
        · exact V.elim)
    qs ([], none, none) ⟨hf, fun _ z => (List.not_mem_nil z).elim, by simp; exact hl⟩
  have L1 := L.1
  rw [r_ordered, b_ordered]
  dsimp only at L1
  rw [show List.map fr [] = [] from rfl, foldl_fst (g := fun f o => insQ o f) (fun _ _ => rfl)] at L1
  simp only [evSs, evS, evE, evL, evO, evTs, List.getElem?_cons_zero, List.getElem?_cons_succ, List.set_cons_zero, List.set_cons_succ, truth, cltI, cleI, cgtI, cgeI, ceqI, cneI, gt0, gt1, gt2, gt3, gl0, gl1, addI, subI, fin_rt, fin_nx, evI, specB, seqOf, L1]
  rfl
end Lw

namespace Lw
open PySem L2 Mi
/-! Q3: tables. -/
theorem Bd.fits {D B a b : Nat} {q : Rat} (h : Bd D B q) (hD : 0 < D) (ha : D ≤ 2 ^ a) (hb : B ≤ 2 ^ b) (hab : a + b < 4400) : fits q := by
  obtain ⟨h1, h2⟩ := h.parts hD
  have e1 : (2 : Nat) ^ a < BB := Nat.pow_lt_pow_right (by decide) (by omega)
  have e2 : (2 : Nat) ^ (b + a) < BB := Nat.pow_lt_pow_right (by decide) (by omega)
  have e3 : B * D ≤ 2 ^ (b + a) := by rw [Nat.pow_add]; exact Nat.mul_le_mul hb ha
  exact ⟨by omega, by omega⟩
theorem fits0 : fits 0 := ⟨BB_pos, Nat.one_lt_two_pow (by decide)⟩
theorem fits1 : fits 1 := ⟨Nat.one_lt_two_pow (by decide), Nat.one_lt_two_pow (by decide)⟩
theorem fits_pos {q : Rat} (h : fits q) : fits (pos q) := by
  unfold pos
  split
  · exact h
  · exact fits0
theorem frI (i : Int) : MV.tup [.int i, .int 1] = fr (i : Rat) := rfl
/-! ### dicts -/
def kq (q : Rat) : NestedKey := .tup [.num q.num, .num q.den]
theorem nk_fr (q : Rat) : (fr q).nk = some (kq q) := rfl
theorem kq_inj {p q : Rat} (h : kq p = kq q) : p = q := by
  unfold kq at h
  simp only [NestedKey.tup.injEq, List.cons.injEq, NestedKey.num.injEq, and_true] at h
  exact fr_inj h.1 h.2
theorem key_fr (q : Rat) : keyT (fr q) = some (kq q) := by
  have e : keyT (fr q) = (match (fr q).nk with | some k => if decide (k.depth ≤ 8) then some k else none | none => none) := rfl
  have d : (kq q).depth ≤ 8 := by unfold kq; simp [NestedKey.depth, NestedKey.depthAll]
  rw [e, nk_fr]
  simp only [d, decide_true, if_true]
def enD (m : Tab) : List (MV × MV) := m.map fun p => (fr p.1, fr p.2)
theorem dec_nk (p q : Rat) : decide ((fr p).nk = some (kq q)) = decide (p = q) := by
  rw [nk_fr, decide_eq_decide]
  constructor
  · intro h; exact kq_inj (Option.some.inj h)
  · rintro rfl; rfl
theorem lk_enD (m : Tab) (q : Rat) : lkT (enD m) (kq q) = (getR m q).map fr := by
  unfold lkT getR enD
  rw [List.find?_map]
  have : ((fun p : MV × MV => decide (p.1.nk = some (kq q))) ∘ fun p : Rat × Rat => (fr p.1, fr p.2)) = fun p => decide (p.1 = q) := by
    funext p
    exact dec_nk p.1 q
  rw [this]
  cases m.find? fun p => decide (p.1 = q) <;> rfl
theorem put_enD (m : Tab) (q v : Rat) : putT (enD m) (kq q) (fr q) (fr v) = enD (putR m q v) := by
  unfold putT putR enD
  have e : ((m.map fun p => (fr p.1, fr p.2)).any fun p => decide (p.1.nk = some (kq q))) = m.any fun p => decide (p.1 = q) := by
    rw [List.any_map]
    congr 1
    funext p
    exact dec_nk p.1 q
  rw [e]
  by_cases c : (m.any fun p => decide (p.1 = q)) = true
  · rw [if_pos c, if_pos c, List.map_map, List.map_map]
    apply List.map_congr_left
    intro p _
    have := dec_nk p.1 q
    by_cases d : p.1 = q
    · have z : (fr q).nk = some (kq q) := rfl
      subst d
      simp [z]
    · have : ¬ (fr p.1).nk = some (kq q) := fun z => d (kq_inj (Option.some.inj z))
      simp [this, d]
  · rw [if_neg c, if_neg c]
    simp
section
variable {G : Gm} {h : MH} {i : Nat} {m : Tab}
theorem rcvD {kvs : List (MV × MV)} (hi : h[i]? = some (.dt kvs)) : rcv .get (.loc i) h = true := by
  unfold rcv
  dsimp only
  rw [hi]
theorem getD {q d : Rat} (hi : h[i]? = some (.dt (enD m))) : mGet (.loc i) [fr q, fr d] h = .ok (fr ((getR m q).getD d)) h := by
  unfold mGet
  dsimp only
  rw [hi]
  dsimp only
  rw [key_fr]
  dsimp only
  rw [lk_enD]
  cases getR m q <;> rfl
theorem setD {q v : Rat} (hi : h[i]? = some (.dt (enD m))) (hl : m.length < 100000) : setIx (.loc i) (fr q) (fr v) h = some (h.set i (.dt (enD (putR m q v)))) := by
  have e : (enD m).length < 100000 := by unfold enD; simpa using hl
  unfold setIx
  dsimp only
  rw [hi]
  dsimp only
  rw [key_fr]
  dsimp only
  simp only [e, decide_true, if_true, put_enD]
theorem idxD {q v : Rat} (hi : h[i]? = some (.dt (enD m))) (hv : getR m q = some v) : getIx G (.loc i) (fr q) h = .ok (fr v) h := by
  show (match h[i]?, keyT (fr q) with | some (.dt kvs), some q => (match lkT kvs q with | some v => Out.ok v h | none => .bad) | _, _ => .bad) = _
  rw [hi, key_fr]
  dsimp only
  rw [lk_enD, hv]
  rfl
theorem listD (hi : h[i]? = some (.dt (enD m))) (hl : m.length ≤ 100000) : bList [.loc i] h = .ok (.lst ((keys m).map fr)) h := by
  have e : (enD m).length ≤ 100000 := by unfold enD; simpa using hl
  unfold bList
  dsimp only
  rw [hi]
  dsimp only
  simp only [e, decide_true, if_true]
  congr 2
  simp [enD, keys, List.map_map, Function.comp_def]
end
/-! ### tables -/
def enP (p : Rat × Rat) : MV := .tup [fr p.1, fr p.2]
def enT (t : Tab) : MV := .tup (t.map enP)
def enL (t : Tab) : MV := .lst (t.map enP)
theorem fix_enP (p : Rat × Rat) : (enP p).fix = true := rfl
theorem fix_enT (t : Tab) : (enT t).fix = true := fixT (fixL_map fun _ _ => fix_enP _)
theorem fix_enL (t : Tab) : (enL t).fix = true := fixLst (fixL_map fun _ _ => fix_enP _)
theorem st_pair {i j : Nat} {x y : MV} {σ : MS} {h : MH} : stT (.tup [.nm i, .nm j]) (.tup [x, y]) σ h = some ((σ.set i (some x)).set j (some y)) := rfl
theorem st_enP {i j : Nat} {p : Rat × Rat} {σ : MS} {h : MH} : stT (.tup [.nm i, .nm j]) (enP p) σ h = some ((σ.set i (some (fr p.1))).set j (some (fr p.2))) := rfl
theorem st_nm {i : Nat} {x : MV} {σ : MS} {h : MH} : stT (.nm i) x σ h = some (σ.set i (some x)) := rfl
/-- what a mean rest needs -/
structure MA (t : Tab) (m : Rat) : Prop where
  fm : fits m
  v : ∀ p ∈ t, fits p.1 ∧ fits p.2 ∧ fits (p.1 - m) ∧ fits (p.2 * pos (p.1 - m))
  s : ∀ n, fits (rsum ((t.map fun p => p.2 * pos (p.1 - m)).take n))
  l : t.length ≤ 1000
theorem c_mean_above {W k : Nat} {h : MH} {t : Tab} {m : Rat} (a : MA t m) (hW : 20000 ≤ W) (hk : 5 ≤ k) : callD GG (runF GG W k) j_mean_above [enT t, fr m] h = .ok (fr (rst t m)) h := by
  obtain ⟨k, rfl⟩ : ∃ m, k = m + 1 := ⟨k - 1, by omega⟩
  refine Pc.call (Pc.mk (h := []) ?_ fix_fr) g_mean_above rfl (fixL1 (fix_enT t) (fixL1 fix_fr fixL0)) h
  have L := loopC_map (α := Rat × Rat) (t := .tup [.nm 2, .nm 3]) (tt := fun _ h => .ok (.bl true) h) (e := fun σ h => evE GG (runF GG W k) ce_mean_above σ h) (enc := enP) (σ := [some (enT t), some (fr m), none, none]) (h := [])
    (fun p => fr (p.2 * pos (p.1 - m))) t [] (fun p hp => by
      obtain ⟨f1, f2, f3, f4⟩ := a.v p hp
      refine ⟨_, st_enP, rfl, ?_⟩
      simp only [ce_mean_above, evSs, evS, evE, evL, evO, evTs, List.getElem?_cons_zero, List.getElem?_cons_succ, List.set_cons_zero, List.set_cons_succ, truth, cltI, cleI, cgtI, cgeI, ceqI, cneI, gt0, gt1, gt2, gt3, gl0, gl1, addI, subI, fin_rt, fin_nx, zZ, c_less f1 a.fm hW (show 3 ≤ k by omega), c_greater fits0 f3 (show 2 ≤ k by omega)]
      rw [show (if (0 : Rat) < p.1 - m then p.1 - m else 0) = pos (p.1 - m) from rfl]
      simp only [c_times f2 (fits_pos f3) hW (show 3 ≤ k by omega)]) (by have := a.l; simp; omega)
  have T := c_total (W := W) (k := k) (h := []) (qs := t.map fun p => p.2 * pos (p.1 - m)) (fun q hq => by
    obtain ⟨p, hp, rfl⟩ := List.mem_map.mp hq
    exact (a.v p hp).2.2.2) a.s hW (by omega)
  rw [List.map_map] at T
  rw [r_mean_above, b_mean_above]
  simp only [evSs, evS, evE, evL, evO, evTs, List.getElem?_cons_zero, List.getElem?_cons_succ, List.set_cons_zero, List.set_cons_succ, truth, cltI, cleI, cgtI, cgeI, ceqI, cneI, gt0, gt1, gt2, gt3, gl0, gl1, addI, subI, fin_rt, fin_nx, specB, seqOf, enT, wipeM] at L ⊢
  simp only [L, List.nil_append]
  have e : (List.map (fun p : Rat × Rat => fr (p.2 * pos (p.1 - m))) t) = (List.map (fr ∘ fun p : Rat × Rat => p.2 * pos (p.1 - m)) t) := rfl
  rw [e, T]
  rfl
/-! ### mixing -/
theorem intsM_map {α : Type} (f : α → Int) : ∀ l : List α, intsM (l.map fun x => .int (f x)) = some (l.map f)
  | [] => rfl
  | a :: l => by
    show (intsM (l.map fun x => .int (f x))).map (f a :: ·) = _
    rw [intsM_map f l]
    rfl
def enQ (p : Part) : MV := .tup [.int p.1, enT p.2]
theorem fix_enQ (p : Part) : (enQ p).fix = true := fixT (fixL1 fixI (fixL1 (fix_enT _) fixL0))
theorem isum (l : List Part) : (l.map fun p => ((p.1 : Nat) : Int)).sum = ((wsum l : Nat) : Int) := by
  unfold wsum
  induction l with
  | nil => rfl
  | cons a l ih => simp only [List.map_cons, List.sum_cons, ih, Int.natCast_add]
theorem sum_pos_le {l : List Nat} {n : Nat} (h : n ∈ l) : n ≤ l.sum := by
  induction l with
  | nil => cases h
  | cons a l ih =>
    rcases List.mem_cons.mp h with rfl | h
    · simp
    · have := ih h; simp; omega
/-- what a mix needs: chances over M, at most n of them -/
structure MX (ps : List Part) (M n a : Nat) : Prop where
  w : ∀ p ∈ ps, 0 < p.1 ∧ p.1 ≤ 100000
  v : ∀ p ∈ ps, ∀ e ∈ p.2, fits e.1 ∧ Bd M 1 e.2
  hM : 0 < M
  Ma : M * wsum ps ≤ 2 ^ a
  ha : a < 4300
  l : (mixL ps).length ≤ n
  hn : n ≤ 1000
  k : ps.length ≤ 1000
theorem mkRat_nat {x y : Nat} (h : 0 < y) (h2 : x ≤ y) : Bd y 1 (mkRat x y) := Bd.mk h (by omega) (by omega)
theorem c_mixed {W k : Nat} {h : MH} {ps : List Part} {M n a : Nat} (X : MX ps M n a) (hW : 20000 ≤ W) (hk : 6 ≤ k) : callD GG (runF GG W k) j_mixed [.lst (ps.map enQ)] h = .ok (enT (mixR ps)) h := by
  obtain ⟨k, rfl⟩ : ∃ m, k = m + 1 := ⟨k - 1, by omega⟩
  refine Pc.call (Pc.mk (h := [.dt (enD (addAll [] (mixL ps)))]) ?_ (fix_enT _)) g_mixed rfl (fixL1 (fixLst (fixL_map fun p _ => fix_enQ p)) fixL0) h
  have hM := X.hM
  have ha := X.ha
  have hn := X.hn
  -- the whole
  have L1 := loopC_map (α := Part) (t := .tup [.nm 3, .nm 4]) (tt := fun _ h => .ok (.bl true) h) (e := fun σ h => evE GG (runF GG W k) ce_mixed σ h) (enc := enQ) (σ := [some (.lst (ps.map enQ)), none, none, none, none, none, none]) (h := [])
    (fun p => .int p.1) ps [] (fun p hp => ⟨_, st_pair, rfl, by simp only [ce_mixed, evSs, evS, evE, evL, evO, evTs, List.getElem?_cons_zero, List.getElem?_cons_succ, List.set_cons_zero, List.set_cons_succ, truth, cltI, cleI, cgtI, cgeI, ceqI, cneI, gt0, gt1, gt2, gt3, gl0, gl1, addI, subI, fin_rt, fin_nx]⟩) (by have := X.k; simp; omega)
  rw [List.nil_append] at L1
  have S1 : bSum [.lst (ps.map fun p => .int ((p.1 : Nat) : Int))] [] = .ok (.int (wsum ps : Nat)) [] := by
    unfold bSum
    dsimp only
    rw [intsM_map (fun p : Part => ((p.1 : Nat) : Int))]
    dsimp only
    rw [isum]
  -- one table
  have inner : ∀ (p : Part), p ∈ ps → ∀ (m : Tab) (c : Nat) (s5 s6 : Option MV), Dd (M * wsum ps) c m → c + p.2.length ≤ n → ∃ s5' s6', loopF (.tup [.nm 5, .nm 6]) (fun σ h => evSs GG (runF GG W k) W fb_mixed σ h) (p.2.map enP)
      [some (.lst (ps.map enQ)), some (.int (wsum ps : Nat)), some (.loc 0), some (.int p.1), some (enT p.2), s5, s6] [.dt (enD m)] =
      .nx [some (.lst (ps.map enQ)), some (.int (wsum ps : Nat)), some (.loc 0), some (.int p.1), some (enT p.2), s5', s6'] [.dt (enD (addAll m (p.2.map fun e => (e.1, e.2 * mkRat p.1 (wsum ps)))))] := by
    intro p hp m c s5 s6 hm hc
    obtain ⟨w0, w1⟩ := X.w p hp
    have wl : p.1 ≤ wsum ps := sum_pos_le (List.mem_map.mpr ⟨p, hp, rfl⟩)
    have wp : 0 < wsum ps := by omega
    have wB : wsum ps ≤ 2 ^ a := Nat.le_trans (by have := Nat.mul_le_mul_right (wsum ps) hM; omega) X.Ma
    have w88 : wsum ps < 2 ^ 8800 := Nat.lt_of_le_of_lt wB (Nat.pow_lt_pow_right (by decide) (by omega))
    have bw := mkRat_nat wp wl
    have D0 : 0 < M * wsum ps := Nat.mul_pos hM wp
    have L := loopF_fold (α := Rat × Rat) (S := Tab × Option MV × Option MV) (t := .tup [.nm 5, .nm 6]) (b := fun σ h => evSs GG (runF GG W k) W fb_mixed σ h) (enc := enP)
      (fun s e => (addR s.1 e.1 (e.2 * mkRat p.1 (wsum ps)), some (fr e.1), some (fr e.2)))
      (fun s => [some (.lst (ps.map enQ)), some (.int (wsum ps : Nat)), some (.loc 0), some (.int p.1), some (enT p.2), s.2.1, s.2.2]) (fun s => [.dt (enD s.1)])
      (fun xs s => (∀ e ∈ xs, e ∈ p.2) ∧ ∃ c', Dd (M * wsum ps) c' s.1 ∧ c' + xs.length ≤ n)
      (fun e xs s i => by
        obtain ⟨i1, c', i2, i3⟩ := i
        obtain ⟨f1, f2⟩ := X.v p hp e (i1 e (List.mem_cons_self ..))
        have b2 : Bd (M * wsum ps) 1 (e.2 * mkRat p.1 (wsum ps)) := f2.mul bw
        have i4 := i2.add (q := e.1) b2
        simp only [List.length_cons] at i3
        have nb : c' + 1 ≤ 2 ^ 10 := by omega
        refine ⟨⟨fun z hz => i1 z (List.mem_cons_of_mem _ hz), c' + 1, i4, by omega⟩, _, st_enP, ?_⟩
        have g1 : fits e.2 := f2.fits hM (a := a) (b := 0) (Nat.le_trans (Nat.le_mul_of_pos_right _ wp) X.Ma) (by decide) (by omega)
        have g2 : fits (mkRat p.1 (wsum ps)) := bw.fits wp (a := a) (b := 0) wB (by decide) (by omega)
        have g3 : fits (e.2 * mkRat p.1 (wsum ps)) := b2.fits D0 (a := a) (b := 0) X.Ma (by decide) (by omega)
        have g4 : fits ((getR s.1 e.1).getD 0) := (i2.get e.1).fits D0 (a := a) (b := 10) X.Ma (by omega) (by omega)
        have lm : s.1.length < 100000 := by have := i2.2; omega
        simp only [fb_mixed, evSs, evS, evE, evL, evO, evTs, List.getElem?_cons_zero, List.getElem?_cons_succ, List.set_cons_zero, List.set_cons_succ, truth, cltI, cleI, cgtI, cgeI, ceqI, cneI, gt0, gt1, gt2, gt3, gl0, gl1, addI, subI, fin_rt, fin_nx, zZ, rcvD (h := [.dt (enD s.1)]) (i := 0) (kvs := enD s.1) rfl, mth, getD (h := [.dt (enD s.1)]) (i := 0) (m := s.1) rfl, c_lowest wp w88 hW (show 2 ≤ k by omega), c_times g1 g2 hW (show 3 ≤ k by omega), c_add g4 g3 hW (show 3 ≤ k by omega),
          setD (h := [.dt (enD s.1)]) (i := 0) (m := s.1) rfl lm]
        rfl)
      p.2 (m, s5, s6) ⟨fun _ z => z, c, hm, hc⟩
    have L1 := L.1
    dsimp only at L1
    rw [foldl_fst (g := fun m (e : Rat × Rat) => addR m e.1 (e.2 * mkRat p.1 (wsum ps))) (fun _ _ => rfl)] at L1
    have fe : addAll m (p.2.map fun e => (e.1, e.2 * mkRat p.1 (wsum ps))) = p.2.foldl (fun m (e : Rat × Rat) => addR m e.1 (e.2 * mkRat p.1 (wsum ps))) m := by
      unfold addAll
      rw [List.foldl_map]
    rw [fe]
    exact ⟨_, _, L1⟩
  have outer : ∀ (xs : List Part) (m : Tab) (c : Nat) (s3 s4 s5 s6 : Option MV), (∀ p ∈ xs, p ∈ ps) → Dd (M * wsum ps) c m → c + (xs.flatMap fun p => p.2.map fun e => (e.1, e.2 * mkRat p.1 (wsum ps))).length ≤ n →
      ∃ s3' s4' s5' s6', loopF (.tup [.nm 3, .nm 4]) (fun σ h => evSs GG (runF GG W k) W fb_mixed_1 σ h) (xs.map enQ) [some (.lst (ps.map enQ)), some (.int (wsum ps : Nat)), some (.loc 0), s3, s4, s5, s6] [.dt (enD m)] =
        .nx [some (.lst (ps.map enQ)), some (.int (wsum ps : Nat)), some (.loc 0), s3', s4', s5', s6'] [.dt (enD (addAll m (xs.flatMap fun p => p.2.map fun e => (e.1, e.2 * mkRat p.1 (wsum ps)))))] ∧
        Dd (M * wsum ps) (c + (xs.flatMap fun p => p.2.map fun e => (e.1, e.2 * mkRat p.1 (wsum ps))).length) (addAll m (xs.flatMap fun p => p.2.map fun e => (e.1, e.2 * mkRat p.1 (wsum ps)))) := by
    intro xs
    induction xs with
    | nil => intro m c s3 s4 s5 s6 _ hm _; exact ⟨s3, s4, s5, s6, rfl, hm⟩
    | cons p xs ih =>
      intro m c s3 s4 s5 s6 hxs hm hc
      simp only [List.flatMap_cons, List.length_append, List.length_map] at hc
      have hp := hxs p (List.mem_cons_self ..)
      have wl : p.1 ≤ wsum ps := sum_pos_le (List.mem_map.mpr ⟨p, hp, rfl⟩)
      have wp : 0 < wsum ps := by have := (X.w p hp).1; omega
      have bw := mkRat_nat wp wl
      obtain ⟨s5', s6', e1⟩ := inner p hp m c s5 s6 hm (by omega)
      have d1 := Dd.all (p.2.map fun e => (e.1, e.2 * mkRat p.1 (wsum ps))) hm (fun e he => by
        obtain ⟨f, hf, rfl⟩ := List.mem_map.mp he
        exact (X.v p hp f hf).2.mul bw)
      rw [List.length_map] at d1
      obtain ⟨t3, t4, t5, t6, e2, d2⟩ := ih _ _ (some (.int p.1)) (some (enT p.2)) s5' s6' (fun q hq => hxs q (List.mem_cons_of_mem _ hq)) d1 (by omega)
      refine ⟨t3, t4, t5, t6, ?_, ?_⟩
      · rw [List.map_cons, loopF]
        dsimp only [enQ]
        rw [st_pair]
        dsimp only
        have e0 : evSs GG (runF GG W k) W fb_mixed_1 [some (.lst (ps.map enQ)), some (.int (wsum ps : Nat)), some (.loc 0), some (.int p.1), some (enT p.2), s5, s6] [.dt (enD m)] =
            .nx [some (.lst (ps.map enQ)), some (.int (wsum ps : Nat)), some (.loc 0), some (.int p.1), some (enT p.2), s5', s6'] [.dt (enD (addAll m (p.2.map fun e => (e.1, e.2 * mkRat p.1 (wsum ps)))))] := by
          rw [fb_mixed_1]
          have e1' := e1
          simp only [enT] at e1'
          simp only [evSs, evS, evE, evL, evO, evTs, List.getElem?_cons_zero, List.getElem?_cons_succ, List.set_cons_zero, List.set_cons_succ, truth, cltI, cleI, cgtI, cgeI, ceqI, cneI, gt0, gt1, gt2, gt3, gl0, gl1, addI, subI, fin_rt, fin_nx, evI, specB, seqOf, enT, e1']
        have e0' : evSs GG (runF GG W k) W fb_mixed_1 ((([some (.lst (ps.map enQ)), some (.int (wsum ps : Nat)), some (.loc 0), s3, s4, s5, s6] : MS).set 3 (some (.int p.1))).set 4 (some (enT p.2))) [.dt (enD m)] = _ := e0
        rw [e0']
        dsimp only
        rw [List.flatMap_cons, addAll_append]
        exact e2
      · rw [List.flatMap_cons, addAll_append, List.length_append, List.length_map, ← Nat.add_assoc]
        exact d2
  obtain ⟨s3, s4, s5, s6, e2, d2⟩ := outer ps [] 0 none none none none (fun _ z => z) Dd.nil (by have := X.l; unfold mixL at this; omega)
  rw [Nat.zero_add] at d2
  have fold : (ps.flatMap fun p => p.2.map fun e => (e.1, e.2 * mkRat p.1 (wsum ps))) = mixL ps := rfl
  rw [fold] at e2 d2
  generalize hm : addAll [] (mixL ps) = m at *
  have lm : m.length ≤ 1000 := by have := d2.2; have := X.l; omega
  have kk : ∀ q ∈ keys m, fits q := by
    intro q hq
    have := (addAll_ok (f := fun v => v) (mixL ps) [] List.nodup_nil).2.2 q
    rw [hm] at this
    rcases this.mp hq with z | z
    · cases z
    · unfold mixL keys at z
      obtain ⟨e, he, rfl⟩ := List.mem_map.mp z
      obtain ⟨p, hp, he⟩ := List.mem_flatMap.mp he
      obtain ⟨f, hf, rfl⟩ := List.mem_map.mp he
      exact (X.v p hp f hf).1
  have nd : (keys m).Nodup := by
    have := (addAll_ok (f := fun v => v) (mixL ps) [] List.nodup_nil).1
    rw [hm] at this
    exact this
  have O := c_ordered (W := W) (k := k) (h := [.dt (enD m)]) (qs := keys m) kk (by unfold keys; simp; omega) hW (by omega)
  have len2 : (sortQ (keys m)).length ≤ 1000 := by
    have p : (sortQ (keys m)).Perm (keys m) := (List.perm_ext_iff_of_nodup (nodup_of_lt (sortQ_sorted nd)) nd).mpr fun a => mem_sortQ nd
    rw [p.length_eq]
    unfold keys
    simpa using lm
  have L2 := loopC_map (α := Rat) (t := .nm 5) (tt := fun _ h => .ok (.bl true) h) (e := fun σ h => evE GG (runF GG W k) ce_mixed_1 σ h) (enc := fr) (σ := [some (.lst (ps.map enQ)), some (.int (wsum ps : Nat)), some (.loc 0), s3, s4, none, s6]) (h := [.dt (enD m)])
    (fun v => enP (v, (getR m v).getD 0)) (sortQ (keys m)) [] (fun v hv => by
      obtain ⟨x, hx⟩ := getR_some ((mem_sortQ nd).mp hv)
      refine ⟨_, st_nm, rfl, ?_⟩
      simp only [ce_mixed_1, evSs, evS, evE, evL, evO, evTs, List.getElem?_cons_zero, List.getElem?_cons_succ, List.set_cons_zero, List.set_cons_succ, truth, cltI, cleI, cgtI, cgeI, ceqI, cneI, gt0, gt1, gt2, gt3, gl0, gl1, addI, subI, fin_rt, fin_nx, idxD (h := [.dt (enD m)]) (i := 0) (m := m) rfl hx, hx]
      rfl) (by simp; omega)
  rw [List.nil_append] at L2
  have e3 : (sortQ (keys m)).map (fun v => enP (v, (getR m v).getD 0)) = (mixR ps).map enP := by
    unfold mixR tabOf
    rw [hm, List.map_map]
    rfl
  rw [e3] at L2
  rw [r_mixed, b_mixed]
  have e2' : loopF (.tup [.nm 3, .nm 4]) (fun σ h => evSs GG (runF GG W k) W fb_mixed_1 σ h) (ps.map enQ) [some (.lst (ps.map enQ)), some (.int (wsum ps : Nat)), some (.loc 0), none, none, none, none] [.dt []] = _ := e2
  simp only [evSs, evS, evE, evL, evO, evTs, List.getElem?_cons_zero, List.getElem?_cons_succ, List.set_cons_zero, List.set_cons_succ, truth, cltI, cleI, cgtI, cgeI, ceqI, cneI, gt0, gt1, gt2, gt3, gl0, gl1, addI, subI, fin_rt, fin_nx, evI, specB, seqOf, wipeM, L1, blt, S1, List.length_nil, List.nil_append, e2', listD (h := [.dt (enD m)]) (i := 0) (m := m) rfl (show m.length ≤ 100000 by omega), O, L2, bTuple, asSeq]
  rfl
end Lw

namespace Lw
open PySem L2 Mi
/-! Q4: caps and strikes of tables, places. -/
/-- a table within bounds -/
structure TB (t : Tab) (V M v u : Nat) : Prop where
  V0 : 0 < V
  M0 : 0 < M
  Vv : V ≤ 2 ^ v
  Mu : M ≤ 2 ^ u
  uv : v + 3 * u ≤ 4000
  el : ∀ e ∈ t, Bd V (2 ^ 24) e.1 ∧ Bd M 1 e.2 ∧ 0 < e.2
  ln : t.length ≤ 1000
theorem TB.f1 {t : Tab} {V M v u : Nat} (T : TB t V M v u) {e : Rat × Rat} (h : e ∈ t) : fits e.1 := by
  have := T.uv
  exact (T.el e h).1.fits T.V0 T.Vv (Nat.le_refl _) (by omega)
theorem TB.f2 {t : Tab} {V M v u : Nat} (T : TB t V M v u) {e : Rat × Rat} (h : e ∈ t) : fits e.2 := by
  have := T.uv
  exact (T.el e h).2.1.fits T.M0 T.Mu (Nat.le_refl (2 ^ 0)) (by omega)
theorem fits_mn {x z : Rat} (h : fits x) (hz : fits z) : fits (mn x z) := by
  unfold mn
  split
  · exact hz
  · exact h
theorem c_capped {W k : Nat} {h : MH} {t : Tab} {z : Rat} {V M v u : Nat} (T : TB t V M v u) (hz : fits z) (hW : 20000 ≤ W) (hk : 6 ≤ k) : callD GG (runF GG W k) j_capped [enT t, fr z] h = .ok (enT (cappedR t z)) h := by
  obtain ⟨k, rfl⟩ : ∃ m, k = m + 1 := ⟨k - 1, by omega⟩
  refine Pc.call (Pc.mk (h := [.dt (enD (addAll [] (capL t z)))]) ?_ (fix_enT _)) g_capped rfl (fixL1 (fix_enT _) (fixL1 fix_fr fixL0)) h
  have uv := T.uv
  have L := loopF_fold (α := Rat × Rat) (S := Tab × Option MV × Option MV) (t := .tup [.nm 3, .nm 4]) (b := fun σ h => evSs GG (runF GG W k) W fb_capped σ h) (enc := enP)
    (fun s e => (addR s.1 (mn e.1 z) e.2, some (fr e.1), some (fr e.2)))
    (fun s => [some (enT t), some (fr z), some (.loc 0), s.2.1, s.2.2]) (fun s => [.dt (enD s.1)])
    (fun xs s => (∀ e ∈ xs, e ∈ t) ∧ ∃ c', Dd M c' s.1 ∧ c' + xs.length ≤ 1000)
    (fun e xs s i => by
      obtain ⟨i1, c', i2, i3⟩ := i
      have he := i1 e (List.mem_cons_self ..)
      have b2 := (T.el e he).2.1
      have i4 := i2.add (q := mn e.1 z) b2
      simp only [List.length_cons] at i3
      refine ⟨⟨fun z hz => i1 z (List.mem_cons_of_mem _ hz), c' + 1, i4, by omega⟩, _, st_enP, ?_⟩
      have g1 := T.f1 he
      have g2 := T.f2 he
      have g4 : fits ((getR s.1 (mn e.1 z)).getD 0) := (i2.get (mn e.1 z)).fits T.M0 (a := u) (b := 10) T.Mu (by omega) (by omega)
      have lm : s.1.length < 100000 := by have := i2.2; omega
      have cl : callD GG (runF GG W k) j_lesser [fr e.1, fr z] [.dt (enD s.1)] = .ok (fr (mn e.1 z)) [.dt (enD s.1)] := c_lesser g1 hz (by omega)
      simp only [fb_capped, evSs, evS, evE, evL, evO, evTs, List.getElem?_cons_zero, List.getElem?_cons_succ, List.set_cons_zero, List.set_cons_succ, truth, cltI, cleI, cgtI, cgeI, ceqI, cneI, gt0, gt1, gt2, gt3, gl0, gl1, addI, subI, fin_rt, fin_nx, zZ, cl, rcvD (h := [.dt (enD s.1)]) (i := 0) (kvs := enD s.1) rfl, mth, getD (h := [.dt (enD s.1)]) (i := 0) (m := s.1) rfl, c_add g4 g2 hW (show 3 ≤ k by omega),
        setD (h := [.dt (enD s.1)]) (i := 0) (m := s.1) rfl lm]
      rfl)
    t ([], none, none) ⟨fun _ z => z, 0, Dd.nil, by have := T.ln; omega⟩
  have e2 := L.1
  dsimp only at e2
  rw [foldl_fst (g := fun m (e : Rat × Rat) => addR m (mn e.1 z) e.2) (fun _ _ => rfl)] at e2
  have fe : t.foldl (fun m (e : Rat × Rat) => addR m (mn e.1 z) e.2) [] = addAll [] (capL t z) := by
    unfold addAll capL
    rw [List.foldl_map]
  rw [fe] at e2
  have d2 := Dd.all (M := M) (capL t z) Dd.nil (fun e he => by
    obtain ⟨f, hf, rfl⟩ := List.mem_map.mp he
    exact (T.el f hf).2.1)
  rw [Nat.zero_add] at d2
  generalize hm : addAll [] (capL t z) = m at *
  have lm : m.length ≤ 1000 := by have := d2.2; unfold capL at this; rw [List.length_map] at this; have := T.ln; omega
  have kk : ∀ q ∈ keys m, fits q := by
    intro q hq
    have := (addAll_ok (f := fun v => v) (capL t z) [] List.nodup_nil).2.2 q
    rw [hm] at this
    rcases this.mp hq with y | y
    · cases y
    · obtain ⟨e, he, rfl⟩ := List.mem_map.mp y
      obtain ⟨f, hf, rfl⟩ := List.mem_map.mp he
      exact fits_mn (T.f1 hf) hz
  have nd : (keys m).Nodup := by
    have := (addAll_ok (f := fun v => v) (capL t z) [] List.nodup_nil).1
    rw [hm] at this
    exact this
  have O := c_ordered (W := W) (k := k) (h := [.dt (enD m)]) (qs := keys m) kk (by unfold keys; simp; omega) hW (by omega)
  have len2 : (sortQ (keys m)).length ≤ 1000 := by
    have p : (sortQ (keys m)).Perm (keys m) := (List.perm_ext_iff_of_nodup (nodup_of_lt (sortQ_sorted nd)) nd).mpr fun a => mem_sortQ nd
    rw [p.length_eq]
    unfold keys
    simpa using lm
  have L2 := loopC_map (α := Rat) (t := .nm 3) (tt := fun _ h => .ok (.bl true) h) (e := fun σ h => evE GG (runF GG W k) ce_capped σ h) (enc := fr) (σ := [some (enT t), some (fr z), some (.loc 0), none, (t.foldl (fun (s : Tab × Option MV × Option MV) e => (addR s.1 (mn e.1 z) e.2, some (fr e.1), some (fr e.2))) ([], none, none)).2.2]) (h := [.dt (enD m)])
    (fun v => enP (v, (getR m v).getD 0)) (sortQ (keys m)) [] (fun v hv => by
      obtain ⟨x, hx⟩ := getR_some ((mem_sortQ nd).mp hv)
      refine ⟨_, st_nm, rfl, ?_⟩
      simp only [ce_capped, evSs, evS, evE, evL, evO, evTs, List.getElem?_cons_zero, List.getElem?_cons_succ, List.set_cons_zero, List.set_cons_succ, truth, cltI, cleI, cgtI, cgeI, ceqI, cneI, gt0, gt1, gt2, gt3, gl0, gl1, addI, subI, fin_rt, fin_nx, idxD (h := [.dt (enD m)]) (i := 0) (m := m) rfl hx, hx]
      rfl) (by simp; omega)
  rw [List.nil_append] at L2
  have e3 : (sortQ (keys m)).map (fun v => enP (v, (getR m v).getD 0)) = (cappedR t z).map enP := by
    unfold cappedR tabOf
    rw [hm, List.map_map]
    rfl
  rw [e3] at L2
  rw [r_capped, b_capped]
  have e2' : loopF (.tup [.nm 3, .nm 4]) (fun σ h => evSs GG (runF GG W k) W fb_capped σ h) (t.map enP) [some (.tup (t.map enP)), some (fr z), some (.loc 0), none, none] [.dt []] = _ := e2
  simp only [enT] at L2
  simp only [evSs, evS, evE, evL, evO, evTs, List.getElem?_cons_zero, List.getElem?_cons_succ, List.set_cons_zero, List.set_cons_succ, truth, cltI, cleI, cgtI, cgeI, ceqI, cneI, gt0, gt1, gt2, gt3, gl0, gl1, addI, subI, fin_rt, fin_nx, evI, specB, seqOf, wipeM, enT, blt, List.length_nil, List.nil_append, e2', listD (h := [.dt (enD m)]) (i := 0) (m := m) rfl (show m.length ≤ 100000 by omega), O, L2, bTuple, asSeq]
/-! ### the strike of a table -/
theorem getLast_idx {α : Type} (f : α → MV) {l : List α} {a : α} (h : l.getLast? = some a) {G : Gm} {hh : MH} : getIx G (.tup (l.map f)) (.int (-1)) hh = .ok (f a) hh := by
  have hl : 0 < l.length := by
    cases l with
    | nil => cases h
    | cons _ _ => simp
  have e : atI (l.map f) (-1) = some (f a) := by
    unfold atI ixN
    rw [if_neg (by omega)]
    simp only [List.length_map]
    rw [if_pos (by omega)]
    rw [List.getLast?_eq_getElem?] at h
    have : (-1 + (l.length : Int)).toNat = l.length - 1 := by omega
    simp [this, h]
  show (match atI (l.map f) (-1) with | some v => Out.ok v hh | none => .bad) = _
  rw [e]
theorem c_strike_in {W k : Nat} {h : MH} {t : Tab} {c : Int} {V M v u : Nat} (T : TB t V M v u) (ne : t ≠ []) (hc : c.natAbs ≤ 2 ^ 24) (hW : 20000 ≤ W) (hk : 5 ≤ k) : callD GG (runF GG W k) j_strike_in [enT t, .tup [.int c, .int 1]] h = .ok (fr (strikeR t c)) h := by
  obtain ⟨k, rfl⟩ : ∃ m, k = m + 1 := ⟨k - 1, by omega⟩
  refine Pc.call (Pc.mk (h := []) ?_ fix_fr) g_strike_in rfl (fixL1 (fix_enT _) (fixL1 (fixT (fixL1 fixI (fixL1 fixI fixL0))) fixL0)) h
  have uv := T.uv
  have bc : Bd (V * M) (2 ^ 24) (c : Rat) := Bd.int hc
  have fc : fits (c : Rat) := (Bd.int (D := 1) hc).fits (by decide) (a := 0) (by decide) (Nat.le_refl _) (by omega)
  have VM : V * M ≤ 2 ^ (v + u) := by rw [Nat.pow_add]; exact Nat.mul_le_mul T.Vv T.Mu
  have VM0 : 0 < V * M := Nat.mul_pos T.V0 T.M0
  rw [frI, r_strike_in, b_strike_in]
  by_cases c0 : (c : Rat) = 0
  · obtain ⟨e, he⟩ : ∃ e, t.getLast? = some e := by
      cases h : t.getLast? with
      | none => exact absurd (List.getLast?_eq_none_iff.mp h) ne
      | some e => exact ⟨e, rfl⟩
    have ek : (keys t).getLastD 0 = e.1 := by
      have : (keys t).getLast? = some e.1 := by unfold keys; rw [List.getLast?_map, he]; rfl
      rw [List.getLastD_eq_getLast?, this]
      rfl
    simp only [evSs, evS, evE, evL, evO, evTs, List.getElem?_cons_zero, List.getElem?_cons_succ, List.set_cons_zero, List.set_cons_succ, truth, cltI, cleI, cgtI, cgeI, ceqI, cneI, gt0, gt1, gt2, gt3, gl0, gl1, addI, subI, fin_rt, fin_nx, zZ, c0, ceqF, decide_true, enT, getLast_idx enP he]
    have g : getIx GG (enP e) (.int 0) [] = .ok (fr e.1) [] := gt0
    have ei : ((-1 : Int)) = -1 := rfl
    simp only [g, evSs, evS, evE, evL, evO, evTs, List.getElem?_cons_zero, List.getElem?_cons_succ, List.set_cons_zero, List.set_cons_succ, truth, cltI, cleI, cgtI, cgeI, ceqI, cneI, gt0, gt1, gt2, gt3, gl0, gl1, addI, subI, fin_rt, fin_nx]
    unfold strikeR
    rw [if_pos rfl, ek]
  · have el : ∀ e ∈ t, fits e.1 ∧ fits e.2 := fun e he => ⟨T.f1 he, T.f2 he⟩
    have V1 := loopW_inv (S := Tab × Rat × Rat × Option MV) (c := fun σ h => evE GG (runF GG W k) wc_strike_in σ h) (b := fun σ h => evSs GG (runF GG W k) W wb_strike_in σ h) (R := fun r hh => r = fr (strikeR t c) ∧ hh = [])
      (fun s => [some (enT t), some (fr c), some (fr s.2.1), some (fr s.2.2.1), some (.int s.1.length), s.2.2.2]) (fun _ => []) (fun s => s.1.length)
      (fun s => s.1 ≠ [] ∧ (∃ q, t = s.1.reverse ++ q ∧ Bd M q.length s.2.1 ∧ 0 ≤ s.2.1 ∧ Bd (V * M) (q.length * 2 ^ 24) s.2.2.1) ∧ scan c s.1 s.2.1 s.2.2.1 = strikeR t c) (fun _ => False)
      (fun s i => by
        obtain ⟨r, ch, me, nu⟩ := s
        obtain ⟨i1, ⟨q, i2, i3, i5, i4⟩, i6⟩ := i
        dsimp only at i1 i2 i3 i4 i5 i6
        cases r with
        | nil => exact absurd rfl i1
        | cons e r =>
          refine .inr ⟨?_, ?_⟩
          · have : decide ((0 : Int) < ((e :: r).length : Int)) = true := decide_eq_true (by simp only [List.length_cons]; omega)
            simp only [wc_strike_in, evSs, evS, evE, evL, evO, evTs, List.getElem?_cons_zero, List.getElem?_cons_succ, List.set_cons_zero, List.set_cons_succ, truth, cltI, cleI, cgtI, cgeI, ceqI, cneI, gt0, gt1, gt2, gt3, gl0, gl1, addI, subI, fin_rt, fin_nx, this]
          · have ln : r.length + 1 + q.length = t.length := by rw [i2]; simp; omega
            have tl := T.ln
            have he : e ∈ t := by rw [i2]; simp
            have hx : t[r.length]? = some e := by rw [i2]; simp
            have hx' : (t.map enP)[r.length]? = some (enP e) := by rw [List.getElem?_map, hx]; rfl
            obtain ⟨b1, b2, b3⟩ := T.el e he
            obtain ⟨f1, f2⟩ := el e he
            have ql : q.length + 1 ≤ 2 ^ 10 := by omega
            have bch : Bd M (q.length + 1) (ch + e.2) := i3.add b2
            have fch : fits ch := i3.fits T.M0 (a := u) (b := 10) T.Mu (by omega) (by omega)
            have bxe : Bd (V * M) (2 ^ 24) (e.1 * e.2) := by have := b1.mul b2; rw [Nat.mul_one] at this; exact this
            have fxe : fits (e.1 * e.2) := bxe.fits VM0 VM (Nat.le_refl _) (by omega)
            have fme : fits me := i4.fits VM0 (b := 34) VM (by rw [show 34 = 10 + 24 from rfl, Nat.pow_add]; exact Nat.mul_le_mul_right _ (by omega)) (by omega)
            have bme : Bd (V * M) ((q.length + 1) * 2 ^ 24) (me + e.1 * e.2) := by have := i4.add bxe; rw [Nat.add_mul, Nat.one_mul]; exact this
            have fme' : fits (me + e.1 * e.2) := bme.fits VM0 (b := 34) VM (by rw [show 34 = 10 + 24 from rfl, Nat.pow_add]; exact Nat.mul_le_mul_right _ ql) (by omega)
            have bmc : Bd (V * M) ((q.length + 1) * 2 ^ 24 + 2 ^ 24) (me + e.1 * e.2 - c) := bme.sub bc
            have b35 : (q.length + 1) * 2 ^ 24 + 2 ^ 24 ≤ 2 ^ 35 := by
              exact Nat.le_trans (Nat.add_le_add (Nat.mul_le_mul_right (2 ^ 24) ql) (show (2 : Nat) ^ 24 ≤ 2 ^ 34 by decide +kernel)) (by decide +kernel)
            have fmc : fits (me + e.1 * e.2 - c) := bmc.fits VM0 VM b35 (by omega)
            have ch0 : 0 < ch + e.2 := by grind
            have fch' : fits (ch + e.2) := bch.fits T.M0 (a := u) (b := 10) T.Mu ql (by omega)
            obtain ⟨m, m0, m1, bq⟩ := bmc.div bch ch0 T.M0
            have fq : fits ((me + e.1 * e.2 - c) / (ch + e.2)) := by
              refine bq.fits (Nat.mul_pos VM0 m0) (a := v + u + (10 + u)) (b := 35 + u) ?_ ?_ (by omega)
              · rw [Nat.pow_add 2 (v + u)]
                exact Nat.mul_le_mul VM (Nat.le_trans m1 (by rw [Nat.pow_add]; exact Nat.mul_le_mul ql T.Mu))
              · rw [Nat.pow_add]; exact Nat.mul_le_mul b35 T.Mu
            have len1 : ((e :: r).length : Int) - 1 = ((r.length : Nat) : Int) := by simp only [List.length_cons]; omega
            have g0 : getIx GG (enP e) (.int 0) [] = .ok (fr e.1) [] := gt0
            have g1 : getIx GG (enP e) (.int 1) [] = .ok (fr e.2) [] := gt1
            simp only [enT]
            cases r with
            | nil =>
              refine .inr ⟨fr (strikeR t c), [], ?_, rfl, rfl⟩
              have z0 : decide (((([] : Tab).length : Nat) : Int) = 0) = true := rfl
              have i6' : (me + e.1 * e.2 - c) / (ch + e.2) = strikeR t c := i6
              simp only [wb_strike_in, evSs, evS, evE, evL, evO, evTs, List.getElem?_cons_zero, List.getElem?_cons_succ, List.set_cons_zero, List.set_cons_succ, truth, cltI, cleI, cgtI, cgeI, ceqI, cneI, gt0, gt1, gt2, gt3, gl0, gl1, addI, subI, fin_rt, fin_nx, len1, gtN hx', g0, g1, c_add fch f2 hW (show 3 ≤ k by omega), c_times f1 f2 hW (show 3 ≤ k by omega), c_add fme fxe hW (show 3 ≤ k by omega), c_less fme' fc hW (show 3 ≤ k by omega), c_over fmc fch' ch0 hW (show 3 ≤ k by omega), z0, i6']
            | cons e' r =>
              have he' : e' ∈ t := by rw [i2]; simp
              have hy : t[r.length]? = some e' := by
                rw [i2]
                simp
              have hy' : (t.map enP)[r.length]? = some (enP e') := by rw [List.getElem?_map, hy]; rfl
              have g0' : getIx GG (enP e') (.int 0) [] = .ok (fr e'.1) [] := gt0
              have z0 : decide ((((e' :: r).length : Nat) : Int) = 0) = false := decide_eq_false (by simp only [List.length_cons]; omega)
              have len2 : ((((e' :: r).length : Nat) : Int)) - 1 = ((r.length : Nat) : Int) := by simp only [List.length_cons]; omega
              have f1' := (el e' he').1
              by_cases lt : (me + e.1 * e.2 - c) / (ch + e.2) < e'.1
              · refine .inl ⟨(e' :: r, ch + e.2, me + e.1 * e.2, some (fr ((me + e.1 * e.2 - c) / (ch + e.2)))), ?_, ⟨List.cons_ne_nil _ _, ⟨e :: q, by rw [i2]; simp, bch, by grind, bme⟩, ?_⟩, by simp⟩
                · simp only [wb_strike_in, evSs, evS, evE, evL, evO, evTs, List.getElem?_cons_zero, List.getElem?_cons_succ, List.set_cons_zero, List.set_cons_succ, truth, cltI, cleI, cgtI, cgeI, ceqI, cneI, gt0, gt1, gt2, gt3, gl0, gl1, addI, subI, fin_rt, fin_nx, len1, gtN hx', g0, g1, c_add fch f2 hW (show 3 ≤ k by omega), c_times f1 f2 hW (show 3 ≤ k by omega), c_add fme fxe hW (show 3 ≤ k by omega), c_less fme' fc hW (show 3 ≤ k by omega), c_over fmc fch' ch0 hW (show 3 ≤ k by omega), z0,
                    len2, gtN hy', g0', c_is_below fq f1' (show 1 ≤ k by omega), lt, decide_true, Bool.not_true]
                · rw [← i6]
                  conv => rhs; rw [scan]
                  rw [if_pos lt]
              · refine .inr ⟨fr (strikeR t c), [], ?_, rfl, rfl⟩
                have i6' : (me + e.1 * e.2 - c) / (ch + e.2) = strikeR t c := by
                  rw [← i6]
                  conv => rhs; rw [scan]
                  rw [if_neg lt]
                simp only [wb_strike_in, evSs, evS, evE, evL, evO, evTs, List.getElem?_cons_zero, List.getElem?_cons_succ, List.set_cons_zero, List.set_cons_succ, truth, cltI, cleI, cgtI, cgeI, ceqI, cneI, gt0, gt1, gt2, gt3, gl0, gl1, addI, subI, fin_rt, fin_nx, len1, gtN hx', g0, g1, c_add fch f2 hW (show 3 ≤ k by omega), c_times f1 f2 hW (show 3 ≤ k by omega), c_add fme fxe hW (show 3 ≤ k by omega), c_less fme' fc hW (show 3 ≤ k by omega), c_over fmc fch' ch0 hW (show 3 ≤ k by omega), z0,
                    len2, gtN hy', g0', c_is_below fq f1' (show 1 ≤ k by omega), lt, decide_false, Bool.not_false]
                rw [i6'])
      W (t.reverse, 0, 0, none) ⟨by simpa using ne, ⟨[], by simp, Bd.zero, Rat.le_refl, Bd.zero⟩, by unfold strikeR; rw [if_neg c0]⟩ (by simp; have := T.ln; omega)
    rcases V1 with ⟨_, _, z⟩ | ⟨r, hh, V1, rfl, rfl⟩
    · exact z.elim
    · have V1' : loopW (fun σ h => evE GG (runF GG W k) wc_strike_in σ h) (fun σ h => evSs GG (runF GG W k) W wb_strike_in σ h) W [some (enT t), some (fr c), some (fr 0), some (fr 0), some (.int (t.reverse.length : Nat)), none] [] = _ := V1
      rw [List.length_reverse] at V1'
      simp only [enT] at V1'
      simp only [evSs, evS, evE, evL, evO, evTs, List.getElem?_cons_zero, List.getElem?_cons_succ, List.set_cons_zero, List.set_cons_succ, truth, cltI, cleI, cgtI, cgeI, ceqI, cneI, gt0, gt1, gt2, gt3, gl0, gl1, addI, subI, fin_rt, fin_nx, zZ, ceqF, c0, decide_false, blt, bLen, asSeq, enT, List.length_map, V1']
end Lw

namespace Lw
open PySem L2 Mi
/-! Q5: the tables of trees. -/
abbrev sEnd : Str := ⟨#[101, 110, 100]⟩
abbrev sStep : Str := ⟨#[115, 116, 101, 112]⟩
mutual
def enc : Tr → MV
  | .en w => .tup [.str sEnd, .int w]
  | .st c bs => .tup [.str sStep, .int c, .tup (encB bs)]
def encB : Bs → List MV
  | .nil => []
  | .cons w t bs => .tup [.int w, enc t] :: encB bs
end
def encW (w : List Int) : MV := .tup (w.map .int)
theorem fix_encW (w : List Int) : (encW w).fix = true := fixT (fixL_map fun _ _ => rfl)
def encP (p : Nat × Tr) : MV := .tup [.int p.1, enc p.2]
theorem encB_map : ∀ bs : Bs, encB bs = bs.list.map encP
  | .nil => by rw [encB, Bs.list]; rfl
  | .cons w t bs => by rw [encB, Bs.list, List.map_cons, encB_map bs]; rfl
mutual
theorem fix_enc : ∀ t : Tr, (enc t).fix = true
  | .en w => by rw [enc]; rfl
  | .st c bs => by rw [enc]; exact fixT (fixL1 fixS (fixL1 fixI (fixL1 (fixT (fix_encB bs)) fixL0)))
theorem fix_encB : ∀ bs : Bs, fixL (encB bs) = true
  | .nil => by rw [encB]; rfl
  | .cons w t bs => by rw [encB]; exact fixL1 (fixT (fixL1 fixI (fixL1 (fix_enc t) fixL0))) (fix_encB bs)
end
theorem pyEqS {x y : Str} (hx : PyData.strOk x = true) (hy : PyData.strOk y = true) : pyEq (.str x) (.str y) = some (x == y) := by
  unfold pyEq
  simp only [MV.pd]
  rw [sh0 (d := .str x) hx (Nat.zero_le _), sh0 (d := .str y) hy (Nat.zero_le _)]
  rfl
theorem ceqS {G : Gm} {x y : Str} {h : MH} (b : Bool) (hx : PyData.strOk x = true) (hy : PyData.strOk y = true) (e : (x == y) = b) : copG G .eq (.str x) (.str y) h = .ok (.bl b) h := by
  show cop .eq (.str x) (.str y) h = _
  have : cop .eq (.str x) (.str y) h = (match pyEq (.str x) (.str y) with | some k => .ok (.bl k) h | none => .bad) := rfl
  rw [this, pyEqS hx hy, e]
theorem cneS {G : Gm} {x y : Str} {h : MH} (b : Bool) (hx : PyData.strOk x = true) (hy : PyData.strOk y = true) (e : (!(x == y)) = b) : copG G .ne (.str x) (.str y) h = .ok (.bl b) h := by
  show cop .ne (.str x) (.str y) h = _
  have : cop .ne (.str x) (.str y) h = (match pyEq (.str x) (.str y) with | some k => .ok (.bl (!k)) h | none => .bad) := rfl
  rw [this, pyEqS hx hy, ← e]
section
variable {G : Gm} {h : MH}
theorem eEE : copG G .eq (.str sEnd) (.str sEnd) h = .ok (.bl true) h := ceqS true (by decide +kernel) (by decide +kernel) (by decide +kernel)
theorem eSE : copG G .eq (.str sStep) (.str sEnd) h = .ok (.bl false) h := ceqS false (by decide +kernel) (by decide +kernel) (by decide +kernel)
theorem eSS : copG G .eq (.str sStep) (.str sStep) h = .ok (.bl true) h := ceqS true (by decide +kernel) (by decide +kernel) (by decide +kernel)
theorem eES : copG G .eq (.str sEnd) (.str sStep) h = .ok (.bl false) h := ceqS false (by decide +kernel) (by decide +kernel) (by decide +kernel)
end
def Tr.isEnd : Tr → Bool
  | .en _ => true
  | .st _ _ => false
theorem c_is_end {W k : Nat} {h : MH} (t : Tr) (hk : 1 ≤ k) : callD GG (runF GG W k) j_is_end [enc t] h = .ok (.bl t.isEnd) h := by
  obtain ⟨k, rfl⟩ : ∃ m, k = m + 1 := ⟨k - 1, by omega⟩
  refine Pc.call (Pc.mk (h := []) ?_ rfl) g_is_end rfl (fixL1 (fix_enc t) fixL0) h
  rw [r_is_end, b_is_end]
  cases t with
  | en w => simp only [enc, evSs, evS, evE, evL, evO, evTs, List.getElem?_cons_zero, List.getElem?_cons_succ, List.set_cons_zero, List.set_cons_succ, truth, cltI, cleI, cgtI, cgeI, ceqI, cneI, gt0, gt1, gt2, gt3, gl0, gl1, addI, subI, fin_rt, fin_nx, eEE, Tr.isEnd]
  | st c bs => simp only [enc, evSs, evS, evE, evL, evO, evTs, List.getElem?_cons_zero, List.getElem?_cons_succ, List.set_cons_zero, List.set_cons_succ, truth, cltI, cleI, cgtI, cgeI, ceqI, cneI, gt0, gt1, gt2, gt3, gl0, gl1, addI, subI, fin_rt, fin_nx, eSE, Tr.isEnd]
theorem chance_le {t : Tab} (g : Good t) {e : Rat × Rat} (he : e ∈ t) : e.2 ≤ 1 := by
  have o := g.one
  have : ∀ l : Tab, Pos l → e ∈ l → e.2 ≤ mass l := by
    intro l
    induction l with
    | nil => intro _ h; cases h
    | cons a l ih =>
      intro hp h
      have h1 := hp a (List.mem_cons_self ..)
      have hl : Pos l := fun p hp' => hp p (List.mem_cons_of_mem _ hp')
      have h2 := mass_nn hl
      unfold mass at h2 ih ⊢
      rw [E_cons]
      rcases List.mem_cons.mp h with rfl | h
      · grind
      · have := ih hl h; grind
  have := this t g.pos he
  grind
theorem Szt.bd {V M s n : Nat} {t : Tab} (h : Szt V M s n t) (g : Good t) (hs : s ≤ 14) {e : Rat × Rat} (he : e ∈ t) : Bd V (2 ^ 24) e.1 ∧ Bd M 1 e.2 ∧ 0 < e.2 := by
  obtain ⟨a, b, c, d⟩ := h.el e he
  have ss : (s : Rat) ≤ ((14 : Nat) : Rat) := Rat.natCast_le_natCast.mpr hs
  have e14 : ((14 : Nat) : Rat) = 14 := rfl
  have e24 : ((2 ^ 24 : Nat) : Rat) = 16777216 := rfl
  have e1 : ((1 : Nat) : Rat) = 1 := rfl
  have h1 := chance_le g he
  have h2 := g.pos e he
  rw [e14] at ss
  refine ⟨⟨a, ?_, ?_⟩, ⟨b, ?_, ?_⟩, h2⟩
  · rw [e24]; grind
  · rw [e24]; grind
  · rw [e1]; grind
  · rw [e1]; exact h1
theorem Szt.tb {V M s n : Nat} {t : Tab} (h : Szt V M s n t) (g : Good t) (hs : s ≤ 14) (hn : n ≤ 1000) (V0 : 0 < V) (M0 : 0 < M) (Vl : V ≤ 2 ^ 1365) (Ml : M ≤ 2 ^ 195) : TB t V M 1365 195 :=
  ⟨V0, M0, Vl, Ml, by decide, fun e he => h.bd g hs he, Nat.le_trans h.ln hn⟩
theorem tri14 {s : Nat} (h : s ≤ 14) : 13 * tri s ≤ 1365 := by
  have := tri_mono h
  have e : tri 14 = 105 := rfl
  omega
theorem Tabd.tb {t : Tr} {V M : Nat} (X : Tabd t V M) (ok : t.ok) (hs : t.size ≤ 15) : TB (tableR t) V M 1365 195 ∧ TB (capsR t) V M 1365 195 := by
  have st := Tr.steps_lt ok
  have s14 : t.steps ≤ 14 := by omega
  have v := Nat.le_trans X.Vl (Nat.pow_le_pow_right (by decide) (tri14 s14))
  have m := Nat.le_trans X.Ml (Nat.pow_le_pow_right (n := 2) (j := 195) (by decide) (by omega))
  obtain ⟨g1, g2, _⟩ := same ok
  exact ⟨X.b.tb g1 s14 (by omega) X.V0 X.M0 v m, X.c.tb g2 s14 (by omega) X.V0 X.M0 v m⟩
theorem good_below {bs : Bs} (hb : bs.ok) (h0 : 0 < bs.list.length) : Good (belowR bs) ∧ Good (mixL (capsP bs)) := by
  obtain ⟨g1, g2, g3⟩ := sames hb
  exact ⟨(Good.mix g1 (fun p hp => by
      rw [belowP_map] at hp
      obtain ⟨q, hq, rfl⟩ := List.mem_map.mp hp
      exact (Bs.ok_mem hb q hq).1.1) (belowP_ne h0)).dict, Good.mix g2 (fun p hp => by
      rw [capsP_map] at hp
      obtain ⟨q, hq, rfl⟩ := List.mem_map.mp hp
      exact (Bs.ok_mem hb q hq).1.1) (capsP_ne h0)⟩
theorem Mixd.tb {bs : Bs} {V M : Nat} (X : Mixd bs V M) (hb : bs.ok) (h0 : 0 < bs.list.length) (hs : bs.size ≤ 14) : TB (belowR bs) V M 1365 195 ∧ TB (mixL (capsP bs)) V M 1365 195 := by
  have st := Bs.steps_lt hb
  have s14 : bs.steps ≤ 13 := by omega
  have v := Nat.le_trans X.Vl (Nat.pow_le_pow_right (by decide) (tri14 (by omega)))
  have m := Nat.le_trans X.Ml (Nat.pow_le_pow_right (n := 2) (j := 195) (by decide) (by omega))
  obtain ⟨g1, g2⟩ := good_below hb h0
  exact ⟨X.b.tb g1 (by omega) (by omega) X.V0 X.M0 v m, X.c.tb g2 (by omega) (by omega) X.V0 X.M0 v m⟩
section
variable {W : Nat}
theorem c_below {k n c : Nat} {h : MH} {bs : Bs} (hb : bs.ok) (h0 : 0 < bs.list.length) (h5 : bs.list.length ≤ 5) (hs : bs.size ≤ 14) (hn : 6 ≤ n) (hrec : ∀ p ∈ bs.list, ∀ (k : Nat) (h : MH), n ≤ k → callD GG (runF GG W k) j_table_of [enc p.2] h = .ok (enT (tableR p.2)) h) (hW : 20000 ≤ W) (hk : n + 1 ≤ k) :
    callD GG (runF GG W k) j_below [enc (.st c bs)] h = .ok (enT (belowR bs)) h := by
  obtain ⟨k, rfl⟩ : ∃ m, k = m + 1 := ⟨k - 1, by omega⟩
  refine Pc.call (Pc.mk (h := []) ?_ (fix_enT _)) g_below rfl (fixL1 (fix_enc _) fixL0) h
  obtain ⟨V, M, F⟩ := ford hb
  have st := Bs.steps_lt hb
  obtain ⟨g1, _, _⟩ := sames hb
  have Ml : M ≤ 2 ^ 182 := Nat.le_trans F.Ml (Nat.pow_le_pow_right (by decide) (by omega))
  have Vl : V ≤ 2 ^ 1365 := Nat.le_trans F.Vl (Nat.pow_le_pow_right (by decide) (tri14 (by omega)))
  have wl : wsum (belowP bs) ≤ 2 ^ 13 := by
    have := wsum_le hb tableR
    rw [← belowP_map] at this
    omega
  have X : MX (belowP bs) M bs.size 195 := by
    refine ⟨fun p hp => ?_, fun p hp e he => ?_, F.M0, ?_, by decide, by rw [len_mixL]; exact F.b.ln, by omega, by rw [belowP_map, List.length_map]; omega⟩
    · rw [belowP_map] at hp
      obtain ⟨q, hq, rfl⟩ := List.mem_map.mp hp
      have := (Bs.ok_mem hb q hq).1
      dsimp only
      omega
    · have T : Szt V M bs.steps p.2.length p.2 := ⟨F.b.el p hp, Nat.le_refl _⟩
      obtain ⟨a, b, _⟩ := T.bd (g1 p hp) (by omega) he
      exact ⟨a.fits F.V0 Vl (Nat.le_refl _) (by decide), b⟩
    · rw [show 195 = 182 + 13 from rfl, Nat.pow_add]
      exact Nat.mul_le_mul Ml wl
  have C := c_mixed (W := W) (k := k) (h := []) X hW (by omega)
  have L := loopC_map (α := Nat × Tr) (t := .tup [.nm 1, .nm 2]) (tt := fun _ h => .ok (.bl true) h) (e := fun σ h => evE GG (runF GG W k) ce_below σ h) (enc := encP) (σ := [some (enc (.st c bs)), none, none]) (h := [])
    (fun p => enQ (p.1, tableR p.2)) bs.list [] (fun p hp => ⟨_, st_pair, rfl, by
      simp only [ce_below, evSs, evS, evE, evL, evO, evTs, List.getElem?_cons_zero, List.getElem?_cons_succ, List.set_cons_zero, List.set_cons_succ, truth, cltI, cleI, cgtI, cgeI, ceqI, cneI, gt0, gt1, gt2, gt3, gl0, gl1, addI, subI, fin_rt, fin_nx, hrec p hp k [] (by omega)]
      rfl⟩) (by simp; omega)
  rw [List.nil_append] at L
  have e1 : (belowP bs).map enQ = bs.list.map fun p => enQ (p.1, tableR p.2) := by rw [belowP_map, List.map_map]; rfl
  rw [← e1] at L
  rw [r_below, b_below]
  simp only [enc, encB_map] at L ⊢
  simp only [evSs, evS, evE, evL, evO, evTs, List.getElem?_cons_zero, List.getElem?_cons_succ, List.set_cons_zero, List.set_cons_succ, truth, cltI, cleI, cgtI, cgeI, ceqI, cneI, gt0, gt1, gt2, gt3, gl0, gl1, addI, subI, fin_rt, fin_nx, specB, seqOf, wipeM, L, C]
  rfl
theorem c_strike_in' {k c : Nat} {h : MH} {bs : Bs} (hb : bs.ok) (h0 : 0 < bs.list.length) (h5 : bs.list.length ≤ 5) (hs : bs.size ≤ 14) (hc : c ≤ 1000000) (hW : 20000 ≤ W) (hk : 5 ≤ k) :
    callD GG (runF GG W k) j_strike_in [enT (belowR bs), .tup [.int c, .int 1]] h = .ok (fr (strikeR (belowR bs) c)) h := by
  obtain ⟨V, M0, F⟩ := ford hb
  obtain ⟨M, X⟩ := F.mix hb h0 h5
  have := c_strike_in (W := W) (k := k) (h := h) (c := (c : Int)) (X.tb hb h0 hs).1 (good_below hb h0).1.ne (by omega) hW hk
  rw [Rat.intCast_natCast] at this
  exact this
theorem c_strike_of {k n c : Nat} {h : MH} {bs : Bs} (hb : bs.ok) (h0 : 0 < bs.list.length) (h5 : bs.list.length ≤ 5) (hs : bs.size ≤ 14) (hc : c ≤ 1000000) (hn : 6 ≤ n) (hrec : ∀ p ∈ bs.list, ∀ (k : Nat) (h : MH), n ≤ k → callD GG (runF GG W k) j_table_of [enc p.2] h = .ok (enT (tableR p.2)) h) (hW : 20000 ≤ W) (hk : n + 2 ≤ k) :
    callD GG (runF GG W k) j_strike_of [enc (.st c bs)] h = .ok (fr (strikeT (.st c bs))) h := by
  obtain ⟨k, rfl⟩ : ∃ m, k = m + 1 := ⟨k - 1, by omega⟩
  refine Pc.call (Pc.mk (h := []) ?_ fix_fr) g_strike_of rfl (fixL1 (fix_enc _) fixL0) h
  have C1 := c_is_end (W := W) (k := k) (h := []) (.st c bs) (by omega)
  have C2 := c_below (W := W) (k := k) (h := []) (c := c) hb h0 h5 hs hn hrec hW (by omega)
  have C3 := c_strike_in' (W := W) (k := k) (h := []) hb h0 h5 hs hc hW (by omega)
  rw [r_strike_of, b_strike_of]
  simp only [enc] at C1 C2 ⊢
  simp only [evSs, evS, evE, evL, evO, evTs, List.getElem?_cons_zero, List.getElem?_cons_succ, List.set_cons_zero, List.set_cons_succ, truth, cltI, cleI, cgtI, cgeI, ceqI, cneI, gt0, gt1, gt2, gt3, gl0, gl1, addI, subI, fin_rt, fin_nx, C1, C2, C3, Tr.isEnd]
  rfl
theorem fits_strike {t : Tr} (ok : t.ok) (hs : t.size ≤ 15) : fits (strikeT t) := by
  cases t with
  | en w =>
    rw [Tr.ok] at ok
    exact (Bd.int (D := 1) ok).fits (by decide) (a := 0) (b := 20) (by decide) (by decide) (by decide)
  | st c bs =>
    rw [Tr.ok] at ok
    obtain ⟨hc, h0, h5, hb⟩ := ok
    simp only [Tr.size] at hs
    obtain ⟨V, M0, F⟩ := ford hb
    obtain ⟨M, X⟩ := F.mix hb h0 h5
    have g := (good_below hb h0).1
    have c0 : (0 : Rat) ≤ (c : Rat) := Rat.natCast_nonneg
    obtain ⟨m, m0, m1, dz⟩ := strike_dv (c := c) g (Asc.dict _) X.b X.M0
    have sk := strikeR_ok g (Asc.dict _) c0
    have z2 := strike_le g c0 sk (B := 1000000) fun p hp => (X.b.el p hp).2.2.2
    have z1 := strike_ge g c0 sk (B := -(1000000 * (1 + (bs.steps : Rat)))) fun p hp => (X.b.el p hp).2.2.1
    have c1 : (c : Rat) ≤ 1000000 := by
      have : (c : Rat) ≤ ((1000000 : Nat) : Rat) := Rat.natCast_le_natCast.mpr hc
      exact this
    have st := Bs.steps_lt hb
    have ss : (bs.steps : Rat) ≤ ((13 : Nat) : Rat) := Rat.natCast_le_natCast.mpr (by omega)
    have e14 : ((13 : Nat) : Rat) = 13 := rfl
    have e24 : ((2 ^ 24 : Nat) : Rat) = 16777216 := rfl
    rw [e14] at ss
    have b : Bd (V * m) (2 ^ 24) (strikeR (belowR bs) c) := ⟨dz, by rw [e24]; grind, by rw [e24]; grind⟩
    refine b.fits (Nat.mul_pos X.V0 m0) (a := 1365 + 195) ?_ (Nat.le_refl _) (by decide)
    rw [Nat.pow_add]
    exact Nat.mul_le_mul (X.tb hb h0 (by omega)).1.Vv (Nat.le_trans m1 (X.tb hb h0 (by omega)).1.Mu)
mutual
theorem c_table_of : ∀ (t : Tr) (k : Nat) (h : MH), t.ok → t.size ≤ 15 → 20000 ≤ W → 3 * t.deep + 8 ≤ k → callD GG (runF GG W k) j_table_of [enc t] h = .ok (enT (tableR t)) h
  | .en w, k, h, ok, hs, hW, hk => by
    obtain ⟨k, rfl⟩ : ∃ m, k = m + 1 := ⟨k - 1, by omega⟩
    refine Pc.call (Pc.mk (h := []) ?_ (fix_enT _)) g_table_of rfl (fixL1 (fix_enc _) fixL0) h
    have C1 := c_is_end (W := W) (k := k) (h := []) (.en w) (by omega)
    rw [r_table_of, b_table_of]
    simp only [enc] at C1 ⊢
    simp only [evSs, evS, evE, evL, evO, evTs, List.getElem?_cons_zero, List.getElem?_cons_succ, List.set_cons_zero, List.set_cons_succ, truth, cltI, cleI, cgtI, cgeI, ceqI, cneI, gt0, gt1, gt2, gt3, gl0, gl1, addI, subI, fin_rt, fin_nx, C1, Tr.isEnd, zO]
    rw [tableR]
    rfl
  | .st c bs, k, h, ok, hs, hW, hk => by
    obtain ⟨k, rfl⟩ : ∃ m, k = m + 1 := ⟨k - 1, by omega⟩
    refine Pc.call (Pc.mk (h := []) ?_ (fix_enT _)) g_table_of rfl (fixL1 (fix_enc _) fixL0) h
    have ok' := ok
    rw [Tr.ok] at ok
    obtain ⟨hc, h0, h5, hb⟩ := ok
    have hs' : bs.size ≤ 14 := by simp only [Tr.size] at hs; omega
    simp only [Tr.deep] at hk
    have C1 := c_is_end (W := W) (k := k) (h := []) (.st c bs) (by omega)
    have hrec : ∀ p ∈ bs.list, ∀ (k : Nat) (h : MH), 3 * bs.deep + 8 ≤ k → callD GG (runF GG W k) j_table_of [enc p.2] h = .ok (enT (tableR p.2)) h := fun p hp k h hk => c_tables_of bs k h hb (by omega) hW hk p hp
    have C2 := c_below (W := W) (k := k) (h := []) (c := c) hb h0 h5 hs' (by omega) hrec hW (by omega)
    have C3 := c_strike_of (W := W) (k := k) (h := []) hb h0 h5 hs' hc (by omega) hrec hW (by omega)
    obtain ⟨V, M0, F⟩ := ford hb
    obtain ⟨M, X⟩ := F.mix hb h0 h5
    have C4 := c_capped (W := W) (k := k) (h := []) (X.tb hb h0 hs').1 (fits_strike ok' hs) hW (by omega)
    rw [r_table_of, b_table_of]
    simp only [enc] at C1 C2 C3 ⊢
    simp only [evSs, evS, evE, evL, evO, evTs, List.getElem?_cons_zero, List.getElem?_cons_succ, List.set_cons_zero, List.set_cons_succ, truth, cltI, cleI, cgtI, cgeI, ceqI, cneI, gt0, gt1, gt2, gt3, gl0, gl1, addI, subI, fin_rt, fin_nx, C1, C2, C3, C4, Tr.isEnd]
    rw [tableR]
    rfl
theorem c_tables_of : ∀ (bs : Bs) (k : Nat) (h : MH), bs.ok → bs.size ≤ 15 → 20000 ≤ W → 3 * bs.deep + 8 ≤ k → ∀ p ∈ bs.list, callD GG (runF GG W k) j_table_of [enc p.2] h = .ok (enT (tableR p.2)) h
  | .nil, _, _, _, _, _, _ => fun p hp => by cases hp
  | .cons w t bs, k, h, ok, hs, hW, hk => fun p hp => by
    rw [Bs.ok] at ok
    simp only [Bs.size] at hs
    simp only [Bs.deep] at hk
    rw [Bs.list] at hp
    rcases List.mem_cons.mp hp with rfl | hp
    · exact c_table_of t k h ok.2.1 (by omega) hW (by omega)
    · exact c_tables_of bs k h ok.2.2 (by omega) hW (by omega) p hp
end
end
end Lw

namespace Lw
open PySem L2 Mi
/-! Q6: what the checker looks at: trees, claims about two. -/
theorem tII {h : MH} {i : Int} : isTy .int h (.int i) = some true := rfl
theorem tBI {h : MH} {i : Int} : isTy .bool h (.int i) = some false := rfl
theorem tTT {h : MH} {l : List MV} : isTy .tuple h (.tup l) = some true := rfl
theorem tSS {h : MH} {s : Str} : isTy .str h (.str s) = some true := rfl
theorem geI {G : Gm} {i j : Int} {h : MH} : copG G .ge (.int i) (.int j) h = .ok (.bl (decide (j ≤ i))) h := rfl
section
variable {W : Nat}
theorem c_between {k : Nat} {h : MH} {i a b : Int} (hk : 1 ≤ k) : callD GG (runF GG W k) j_is_between [.int i, .int a, .int b] h = .ok (.bl (decide (a ≤ i) && decide (i ≤ b))) h := by
  obtain ⟨k, rfl⟩ : ∃ m, k = m + 1 := ⟨k - 1, by omega⟩
  refine Pc.call (Pc.mk (h := []) ?_ rfl) g_is_between rfl (fixL1 fixI (fixL1 fixI (fixL1 fixI fixL0))) h
  rw [r_is_between, b_is_between]
  by_cases c : a ≤ i
  · simp only [evSs, evS, evE, evL, evO, evTs, List.getElem?_cons_zero, List.getElem?_cons_succ, List.set_cons_zero, List.set_cons_succ, truth, cltI, cleI, cgtI, cgeI, ceqI, cneI, gt0, gt1, gt2, gt3, gl0, gl1, addI, subI, fin_rt, fin_nx, tII, tBI, tTT, tSS, c, decide_true, decide_false, Bool.not_true, Bool.not_false, Bool.true_and]
  · simp only [evSs, evS, evE, evL, evO, evTs, List.getElem?_cons_zero, List.getElem?_cons_succ, List.set_cons_zero, List.set_cons_succ, truth, cltI, cleI, cgtI, cgeI, ceqI, cneI, gt0, gt1, gt2, gt3, gl0, gl1, addI, subI, fin_rt, fin_nx, tII, tBI, tTT, tSS, c, decide_true, decide_false, Bool.not_true, Bool.not_false, Bool.false_and]
theorem c_between_n {k : Nat} {h : MH} {i : Int} (hk : 1 ≤ k) : callD GG (runF GG W k) j_is_between [.int i, .non, .non] h = .ok (.bl true) h := by
  obtain ⟨k, rfl⟩ : ∃ m, k = m + 1 := ⟨k - 1, by omega⟩
  refine Pc.call (Pc.mk (h := []) ?_ rfl) g_is_between rfl (fixL1 fixI (fixL1 fixN (fixL1 fixN fixL0))) h
  rw [r_is_between, b_is_between]
  simp only [evSs, evS, evE, evL, evO, evTs, List.getElem?_cons_zero, List.getElem?_cons_succ, List.set_cons_zero, List.set_cons_succ, truth, cltI, cleI, cgtI, cgeI, ceqI, cneI, gt0, gt1, gt2, gt3, gl0, gl1, addI, subI, fin_rt, fin_nx, tII, tBI, tTT, tSS, decide_true, decide_false, Bool.not_true, Bool.not_false, Bool.true_and]
theorem c_between_1 {k : Nat} {h : MH} {i a : Int} (hk : 1 ≤ k) : callD GG (runF GG W k) j_is_between [.int i, .int a, .non] h = .ok (.bl (decide (a ≤ i))) h := by
  obtain ⟨k, rfl⟩ : ∃ m, k = m + 1 := ⟨k - 1, by omega⟩
  refine Pc.call (Pc.mk (h := []) ?_ rfl) g_is_between rfl (fixL1 fixI (fixL1 fixI (fixL1 fixN fixL0))) h
  rw [r_is_between, b_is_between]
  by_cases c : a ≤ i
  · simp only [evSs, evS, evE, evL, evO, evTs, List.getElem?_cons_zero, List.getElem?_cons_succ, List.set_cons_zero, List.set_cons_succ, truth, cltI, cleI, cgtI, cgeI, ceqI, cneI, gt0, gt1, gt2, gt3, gl0, gl1, addI, subI, fin_rt, fin_nx, tII, tBI, tTT, tSS, c, decide_true, decide_false, Bool.not_true, Bool.not_false, Bool.true_and]
  · simp only [evSs, evS, evE, evL, evO, evTs, List.getElem?_cons_zero, List.getElem?_cons_succ, List.set_cons_zero, List.set_cons_succ, truth, cltI, cleI, cgtI, cgeI, ceqI, cneI, gt0, gt1, gt2, gt3, gl0, gl1, addI, subI, fin_rt, fin_nx, tII, tBI, tTT, tSS, c, decide_true, decide_false, Bool.not_true, Bool.not_false, Bool.false_and]
theorem c_is_cost {k : Nat} {h : MH} {c : Nat} (hc : c ≤ 1000000) (hk : 2 ≤ k) : callD GG (runF GG W k) j_is_cost [.int c] h = .ok (.bl true) h := by
  obtain ⟨k, rfl⟩ : ∃ m, k = m + 1 := ⟨k - 1, by omega⟩
  refine Pc.call (Pc.mk (h := []) ?_ rfl) g_is_cost rfl (fixL1 fixI fixL0) h
  have e : (decide ((0 : Int) ≤ (c : Int)) && decide ((c : Int) ≤ 1000000)) = true := by rw [Bool.and_eq_true, decide_eq_true_eq, decide_eq_true_eq]; omega
  rw [r_is_cost, b_is_cost]
  simp only [evSs, evS, evE, evL, evO, evTs, List.getElem?_cons_zero, List.getElem?_cons_succ, List.set_cons_zero, List.set_cons_succ, truth, cltI, cleI, cgtI, cgeI, ceqI, cneI, gt0, gt1, gt2, gt3, gl0, gl1, addI, subI, fin_rt, fin_nx, glo_MOST_COST, c_between (show 1 ≤ k by omega), e]
theorem c_is_pair {k : Nat} {h : MH} {p : Nat × Tr} (hw : 1 ≤ p.1 ∧ p.1 ≤ 1000) (hk : 2 ≤ k) : callD GG (runF GG W k) j_is_pair [encP p] h = .ok (.bl true) h := by
  obtain ⟨k, rfl⟩ : ∃ m, k = m + 1 := ⟨k - 1, by omega⟩
  refine Pc.call (Pc.mk (h := []) ?_ rfl) g_is_pair rfl (fixL1 (fixT (fixL1 fixI (fixL1 (fix_enc _) fixL0))) fixL0) h
  have e : (decide ((1 : Int) ≤ (p.1 : Int)) && decide ((p.1 : Int) ≤ 1000)) = true := by rw [Bool.and_eq_true, decide_eq_true_eq, decide_eq_true_eq]; omega
  rw [r_is_pair, b_is_pair]
  simp only [evSs, evS, evE, evL, evO, evTs, List.getElem?_cons_zero, List.getElem?_cons_succ, List.set_cons_zero, List.set_cons_succ, truth, cltI, cleI, cgtI, cgeI, ceqI, cneI, gt0, gt1, gt2, gt3, gl0, gl1, addI, subI, fin_rt, fin_nx, tII, tBI, tTT, tSS, encP, blt, bLen, asSeq, glo_MOST_WEIGHT, c_between (show 1 ≤ k by omega), e, List.length_cons, List.length_nil, show decide ((((0 : Nat) + 1 + 1 : Nat) : Int) = 2) = true from rfl]
theorem bools_true {α : Type} : ∀ l : List α, boolsM (l.map fun _ => .bl true) = some (l.map fun _ => true)
  | [] => rfl
  | a :: l => by
    show (boolsM (l.map fun _ => .bl true)).map (true :: ·) = _
    rw [bools_true l]
    rfl
theorem all_true {α : Type} (l : List α) (h : MH) : bAll [.lst (l.map fun _ => .bl true)] h = .ok (.bl true) h := by
  unfold bAll
  dsimp only
  rw [bools_true]
  simp
theorem c_are_branches {k : Nat} {h : MH} {bs : Bs} (hb : bs.ok) (h0 : 0 < bs.list.length) (h5 : bs.list.length ≤ 5) (hk : 3 ≤ k) : callD GG (runF GG W k) j_are_branches [.tup (encB bs)] h = .ok (.bl true) h := by
  obtain ⟨k, rfl⟩ : ∃ m, k = m + 1 := ⟨k - 1, by omega⟩
  refine Pc.call (Pc.mk (h := []) ?_ rfl) g_are_branches rfl (fixL1 (fixT (fix_encB _)) fixL0) h
  have L := loopC_map (α := Nat × Tr) (t := .nm 1) (tt := fun _ h => .ok (.bl true) h) (e := fun σ h => evE GG (runF GG W k) ce_are_branches σ h) (enc := encP) (σ := [some (.tup (encB bs)), none]) (h := [])
    (fun _ => .bl true) bs.list [] (fun p hp => ⟨_, st_nm, rfl, by simp only [ce_are_branches, evSs, evS, evE, evL, evO, evTs, List.getElem?_cons_zero, List.getElem?_cons_succ, List.set_cons_zero, List.set_cons_succ, truth, cltI, cleI, cgtI, cgeI, ceqI, cneI, gt0, gt1, gt2, gt3, gl0, gl1, addI, subI, fin_rt, fin_nx, c_is_pair (Bs.ok_mem hb p hp).1 (show 2 ≤ k by omega)]⟩) (by simp; omega)
  rw [List.nil_append] at L
  have e1 : decide ((1 : Int) ≤ (bs.list.length : Int)) = true := decide_eq_true (by omega)
  have e2 : decide ((bs.list.length : Int) ≤ 5) = true := decide_eq_true (by omega)
  have c1 : ∀ i j : Int, cop .le (.int i) (.int j) [] = .ok (.bl (decide (i ≤ j))) [] := fun _ _ => rfl
  rw [r_are_branches, b_are_branches]
  simp only [encB_map] at L ⊢
  simp only [evSs, evS, evE, evL, evO, evTs, List.getElem?_cons_zero, List.getElem?_cons_succ, List.set_cons_zero, List.set_cons_succ, truth, cltI, cleI, cgtI, cgeI, ceqI, cneI, gt0, gt1, gt2, gt3, gl0, gl1, addI, subI, fin_rt, fin_nx, tII, tBI, tTT, tSS, blt, bLen, asSeq, c1, glo_MOST_BRANCHES, List.length_map, e1, e2, specB, seqOf, wipeM, L, all_true]
theorem neg_worth {h : MH} : ((-1000000 : Int)) = -1000000 := rfl
theorem c_is_node {k : Nat} {h : MH} {t : Tr} (ok : t.ok) (hk : 4 ≤ k) : callD GG (runF GG W k) j_is_node [enc t, .fn j_is_cost] h = .ok (.bl true) h := by
  obtain ⟨k, rfl⟩ : ∃ m, k = m + 1 := ⟨k - 1, by omega⟩
  refine Pc.call (Pc.mk (h := []) ?_ rfl) g_is_node rfl (fixL1 (fix_enc _) (fixL1 rfl fixL0)) h
  rw [r_is_node, b_is_node]
  cases t with
  | en w =>
    rw [Tr.ok] at ok
    have e : (decide (-(1000000 : Int) ≤ w) && decide (w ≤ 1000000)) = true := by rw [Bool.and_eq_true, decide_eq_true_eq, decide_eq_true_eq]; omega
    simp only [enc, evSs, evS, evE, evL, evO, evTs, List.getElem?_cons_zero, List.getElem?_cons_succ, List.set_cons_zero, List.set_cons_succ, truth, cltI, cleI, cgtI, cgeI, ceqI, cneI, gt0, gt1, gt2, gt3, gl0, gl1, addI, subI, fin_rt, fin_nx, tII, tBI, tTT, tSS, blt, bLen, asSeq, glo_MOST_WORTH, c_between (show 1 ≤ k by omega), e, eEE, List.length_cons, List.length_nil, Bool.not_true, show decide ((((0 : Nat) + 1 + 1 : Nat) : Int) = 2) = true from rfl, show decide ((((0 : Nat) + 1 + 1 : Nat) : Int) < 2) = false from rfl]
  | st c bs =>
    rw [Tr.ok] at ok
    simp only [enc, evSs, evS, evE, evL, evO, evTs, List.getElem?_cons_zero, List.getElem?_cons_succ, List.set_cons_zero, List.set_cons_succ, truth, cltI, cleI, cgtI, cgeI, ceqI, cneI, gt0, gt1, gt2, gt3, gl0, gl1, addI, subI, fin_rt, fin_nx, tII, tBI, tTT, tSS, blt, bLen, asSeq, c_is_cost ok.1 (show 2 ≤ k by omega), c_are_branches ok.2.2.2 ok.2.1 ok.2.2.1 (show 3 ≤ k by omega), eSE, eSS, List.length_cons, List.length_nil, Bool.not_true, show decide ((((0 : Nat) + 1 + 1 + 1 : Nat) : Int) = 3) = true from rfl, show decide ((((0 : Nat) + 1 + 1 + 1 : Nat) : Int) < 2) = false from rfl]
def sizes (l : List Tr) : Nat := (l.map Tr.size).sum
theorem sizes_bs : ∀ bs : Bs, sizes (bs.list.map (·.2)) = bs.size
  | .nil => rfl
  | .cons w t bs => by
    have := sizes_bs bs
    unfold sizes at this ⊢
    simp only [Bs.list, List.map_cons, List.sum_cons, this, Bs.size]
theorem size_pos : ∀ t : Tr, 1 ≤ t.size
  | .en _ => Nat.le_refl _
  | .st _ _ => by simp only [Tr.size]; omega
theorem c_is_tree {k : Nat} {h : MH} {t : Tr} (ok : t.ok) (hs : t.size ≤ 15) (hW : 20000 ≤ W) (hk : 5 ≤ k) : callD GG (runF GG W k) j_is_tree [enc t, .fn j_is_cost] h = .ok (.bl true) h := by
  obtain ⟨k, rfl⟩ : ∃ m, k = m + 1 := ⟨k - 1, by omega⟩
  have V := loopW_inv (S := List Tr × Nat) (c := fun σ h => evE GG (runF GG W k) wc_is_tree σ h) (b := fun σ h => evSs GG (runF GG W k) W wb_is_tree σ h) (R := fun _ _ => False)
    (fun s => [some (enc t), some (.fn j_is_cost), some (.loc 0), some (.int s.2), none, none]) (fun s => [.lst (s.1.map enc)]) (fun s => 15 - s.2)
    (fun s => (∀ x ∈ s.1, x.ok) ∧ s.2 + sizes (s.1.drop s.2) ≤ 15 ∧ s.2 ≤ s.1.length) (fun _ => True)
    (fun s i => by
      obtain ⟨l, p⟩ := s
      obtain ⟨i1, i2, i3⟩ := i
      dsimp only at i1 i2 i3 ⊢
      by_cases c : p < l.length
      · have hx : l[p]? = some l[p] := by simp [c]
        have hx' : (l.map enc)[p]? = some (enc l[p]) := by rw [List.getElem?_map, hx]; rfl
        have okx := i1 _ (List.getElem_mem c)
        have ds : sizes (l.drop p) = l[p].size + sizes (l.drop (p + 1)) := by rw [List.drop_eq_getElem_cons c]; rfl
        have sp := size_pos l[p]
        have p14 : p ≤ 14 := by omega
        have d1 : decide ((p : Int) < ((l.map enc).length : Int)) = true := decide_eq_true (by simp; omega)
        have d2 : decide ((15 : Int) ≤ (p : Int)) = false := decide_eq_false (by omega)
        have gi : getIx GG (.loc 0) (.int p) [.lst (l.map enc)] = .ok (enc l[p]) [.lst (l.map enc)] := gcN (h := [.lst (l.map enc)]) rfl hx'
        have C1 := c_is_node (W := W) (k := k) (h := [.lst (l.map enc)]) okx (by omega)
        have C2 := c_is_end (W := W) (k := k) (h := [.lst (l.map enc)]) l[p] (by omega)
        refine .inr ⟨?_, .inl ?_⟩
        · simp only [wc_is_tree, evSs, evS, evE, evL, evO, evTs, List.getElem?_cons_zero, List.getElem?_cons_succ, List.set_cons_zero, List.set_cons_succ, truth, cltI, cleI, cgtI, cgeI, ceqI, cneI, gt0, gt1, gt2, gt3, gl0, gl1, addI, subI, fin_rt, fin_nx, blt, bLen, asSeq, d1]
        · cases e : l[p] with
          | en w =>
            refine ⟨(l, p + 1), ?_, ⟨i1, ?_, by dsimp only; omega⟩, by dsimp only; omega⟩
            · rw [e] at C1 C2 gi
              simp only [wb_is_tree, evSs, evS, evE, evL, evO, evTs, List.getElem?_cons_zero, List.getElem?_cons_succ, List.set_cons_zero, List.set_cons_succ, truth, cltI, cleI, cgtI, cgeI, ceqI, cneI, gt0, gt1, gt2, gt3, gl0, gl1, addI, subI, fin_rt, fin_nx, glo_MOST_NODES, d2, gi, C1, C2, Tr.isEnd, Bool.not_true]
              rfl
            · dsimp only; omega
          | st cc bs =>
            rw [e] at C1 C2 gi okx ds
            rw [Tr.ok] at okx
            have L := loopC_map (α := Nat × Tr) (t := .tup [.nm 4, .nm 5]) (tt := fun _ h => .ok (.bl true) h) (e := fun σ h => evE GG (runF GG W k) ce_is_tree σ h) (enc := encP) (σ := [some (enc t), some (.fn j_is_cost), some (.loc 0), some (.int p), none, none]) (h := [.lst (l.map enc)])
              (fun q => enc q.2) bs.list [] (fun q hq => ⟨_, st_pair, rfl, by simp only [ce_is_tree, evSs, evS, evE, evL, evO, evTs, List.getElem?_cons_zero, List.getElem?_cons_succ, List.set_cons_zero, List.set_cons_succ, truth, cltI, cleI, cgtI, cgeI, ceqI, cneI, gt0, gt1, gt2, gt3, gl0, gl1, addI, subI, fin_rt, fin_nx]⟩) (by simp; omega)
            rw [List.nil_append] at L
            have ll : ∀ x : List Tr, x.length ≤ sizes x := fun x => by
              unfold sizes
              induction x with
              | nil => exact Nat.le_refl _
              | cons a x ih => have := size_pos a; simp only [List.map_cons, List.sum_cons, List.length_cons]; omega
            have l15 : l.length ≤ 15 := by have := ll (l.drop p); rw [List.length_drop] at this; rw [List.drop_eq_getElem_cons c, e] at this; unfold sizes at *; simp only [List.map_cons, List.sum_cons] at *; omega
            have le : decide ((l.map enc).length + (bs.list.map fun q => enc q.2).length < 100000) = true := decide_eq_true (by simp; omega)
            have rv : rcv .extend (.loc 0) [.lst (l.map enc)] = true := rfl
            have mx : mExt (.loc 0) [.lst (bs.list.map fun q => enc q.2)] [.lst (l.map enc)] = .ok .non [.lst (l.map enc ++ bs.list.map fun q => enc q.2)] := by
              unfold mExt
              dsimp only [List.getElem?_cons_zero]
              rw [le]
              rfl
            refine ⟨(l ++ bs.list.map (·.2), p + 1), ?_, ⟨?_, ?_, ?_⟩, ?_⟩
            · have g2 : getIx GG (enc (.st cc bs)) (.int 2) [.lst (l.map enc)] = .ok (.tup (bs.list.map encP)) [.lst (l.map enc)] := by rw [enc, encB_map]; exact gt2
              have em : (l ++ bs.list.map (·.2)).map enc = l.map enc ++ bs.list.map fun q => enc q.2 := by rw [List.map_append, List.map_map]; rfl
              rw [em]
              simp only [wb_is_tree, evSs, evS, evE, evL, evO, evTs, List.getElem?_cons_zero, List.getElem?_cons_succ, List.set_cons_zero, List.set_cons_succ, truth, cltI, cleI, cgtI, cgeI, ceqI, cneI, gt0, gt1, gt2, gt3, gl0, gl1, addI, subI, fin_rt, fin_nx, glo_MOST_NODES, d2, gi, C1, C2, Tr.isEnd, Bool.not_false, Bool.not_true, specB, seqOf, g2, wipeM, L, rv, mth, mx]
              rfl
            · intro x hx
              rcases List.mem_append.mp hx with hx | hx
              · exact i1 x hx
              · obtain ⟨q, hq, rfl⟩ := List.mem_map.mp hx
                exact (Bs.ok_mem okx.2.2.2 q hq).2
            · dsimp only
              rw [List.drop_append_of_le_length (by omega)]
              have : sizes (l.drop (p + 1) ++ bs.list.map (·.2)) = sizes (l.drop (p + 1)) + bs.size := by
                rw [← sizes_bs]
                unfold sizes
                rw [List.map_append, List.sum_append]
              rw [this]
              simp only [Tr.size] at ds
              omega
            · dsimp only; rw [List.length_append]; omega
            · dsimp only; omega
      · refine .inl ⟨?_, trivial⟩
        have d1 : decide ((p : Int) < ((l.map enc).length : Int)) = false := decide_eq_false (by simp; omega)
        simp only [wc_is_tree, evSs, evS, evE, evL, evO, evTs, List.getElem?_cons_zero, List.getElem?_cons_succ, List.set_cons_zero, List.set_cons_succ, truth, cltI, cleI, cgtI, cgeI, ceqI, cneI, gt0, gt1, gt2, gt3, gl0, gl1, addI, subI, fin_rt, fin_nx, blt, bLen, asSeq, d1])
    W ([t], 0) ⟨fun x hx => by rw [List.mem_singleton.mp hx]; exact ok, by simp [sizes]; omega, by simp⟩ (by simp; omega)
  rcases V with ⟨s, V, _⟩ | ⟨_, _, _, z⟩
  · refine Pc.call (Pc.mk (h := [.lst (s.1.map enc)]) ?_ rfl) g_is_tree rfl (fixL1 (fix_enc _) (fixL1 rfl fixL0)) h
    have V' : loopW (fun σ h => evE GG (runF GG W k) wc_is_tree σ h) (fun σ h => evSs GG (runF GG W k) W wb_is_tree σ h) W [some (enc t), some (.fn j_is_cost), some (.loc 0), some (.int 0), none, none] [.lst [enc t]] = _ := V
    rw [r_is_tree, b_is_tree]
    simp only [evSs, evS, evE, evL, evO, evTs, List.getElem?_cons_zero, List.getElem?_cons_succ, List.set_cons_zero, List.set_cons_succ, truth, cltI, cleI, cgtI, cgeI, ceqI, cneI, gt0, gt1, gt2, gt3, gl0, gl1, addI, subI, fin_rt, fin_nx, List.length_nil, List.nil_append, V']
  · exact z.elim
theorem c_is_fraction {k : Nat} {h : MH} {q : Rat} (hq : fits q) (hW : 20000 ≤ W) (hk : 2 ≤ k) : callD GG (runF GG W k) j_is_fraction [fr q] h = .ok (.bl true) h := by
  obtain ⟨k, rfl⟩ : ∃ m, k = m + 1 := ⟨k - 1, by omega⟩
  refine Pc.call (Pc.mk (h := []) ?_ rfl) g_is_fraction rfl (fixL1 fix_fr fixL0) h
  have d : q.den < 2 ^ 8800 := Nat.lt_trans hq.2 (Nat.pow_lt_pow_right (by decide) (by decide))
  have g : Int.gcd q.num q.den = 1 := q.reduced
  have e : decide ((1 : Int) ≤ (q.den : Int)) = true := decide_eq_true (by have := q.den_pos; omega)
  rw [r_is_fraction, b_is_fraction]
  unfold fr
  simp only [evSs, evS, evE, evL, evO, evTs, List.getElem?_cons_zero, List.getElem?_cons_succ, List.set_cons_zero, List.set_cons_succ, truth, cltI, cleI, cgtI, cgeI, ceqI, cneI, gt0, gt1, gt2, gt3, gl0, gl1, addI, subI, fin_rt, fin_nx, tII, tBI, tTT, tSS, blt, bLen, asSeq, c_between_n (show 1 ≤ k by omega), c_between_1 (show 1 ≤ k by omega), e, c_common d hW (show 1 ≤ k by omega), g, List.length_cons, List.length_nil, Bool.not_true,
    show (!decide ((((0 : Nat) + 1 + 1 : Nat) : Int) = 2)) = false from rfl, show decide ((((1 : Nat)) : Int) = 1) = true from rfl]
end
end Lw

namespace Lw
open PySem L2 Mi
/-! Q7: places, and claims about two. -/
def addK (l : List Rat) (vs : List Rat) : List Rat := vs.foldl (fun l v => if 0 < v then (if v ∈ l then l else l ++ [v]) else l) l
def placesR (s t : Tab) : List Rat := sortQ (addK (addK [0] (keys s)) (keys t))
theorem addK_ok : ∀ (vs l : List Rat), l.Nodup → (addK l vs).Nodup ∧ (∀ a, a ∈ addK l vs ↔ a ∈ l ∨ (0 < a ∧ a ∈ vs)) ∧ (addK l vs).length ≤ l.length + vs.length
  | [], l, nd => ⟨nd, fun a => by simp [addK], Nat.le_refl _⟩
  | v :: vs, l, nd => by
    have step : addK l (v :: vs) = addK (if 0 < v then (if v ∈ l then l else l ++ [v]) else l) vs := rfl
    rw [step]
    by_cases p : 0 < v
    · rw [if_pos p]
      by_cases m : v ∈ l
      · rw [if_pos m]
        obtain ⟨h1, h2, h3⟩ := addK_ok vs l nd
        refine ⟨h1, fun a => ?_, by simp only [List.length_cons]; omega⟩
        rw [h2, List.mem_cons]
        constructor
        · rintro (h | ⟨h, q⟩)
          · exact .inl h
          · exact .inr ⟨h, .inr q⟩
        · rintro (h | ⟨h, rfl | q⟩)
          · exact .inl h
          · exact .inl m
          · exact .inr ⟨h, q⟩
      · rw [if_neg m]
        have nd' : (l ++ [v]).Nodup := by
          rw [List.nodup_append]
          refine ⟨nd, by simp, fun a ha b hb e => ?_⟩
          rw [List.mem_singleton] at hb
          subst hb e
          exact m ha
        obtain ⟨h1, h2, h3⟩ := addK_ok vs (l ++ [v]) nd'
        refine ⟨h1, fun a => ?_, by simp only [List.length_cons, List.length_append, List.length_nil] at h3 ⊢; omega⟩
        rw [h2, List.mem_cons, List.mem_append, List.mem_singleton]
        constructor
        · rintro ((h | rfl) | ⟨h, q⟩)
          · exact .inl h
          · exact .inr ⟨p, .inl rfl⟩
          · exact .inr ⟨h, .inr q⟩
        · rintro (h | ⟨h, rfl | q⟩)
          · exact .inl (.inl h)
          · exact .inl (.inr rfl)
          · exact .inr ⟨h, q⟩
    · rw [if_neg p]
      obtain ⟨h1, h2, h3⟩ := addK_ok vs l nd
      refine ⟨h1, fun a => ?_, by simp only [List.length_cons]; omega⟩
      rw [h2, List.mem_cons]
      constructor
      · rintro (h | ⟨h, q⟩)
        · exact .inl h
        · exact .inr ⟨h, .inr q⟩
      · rintro (h | ⟨h, rfl | q⟩)
        · exact .inl h
        · exact absurd h p
        · exact .inr ⟨h, q⟩
theorem places_nd (s t : Tab) : (addK (addK [0] (keys s)) (keys t)).Nodup := (addK_ok _ _ (addK_ok _ _ (by simp)).1).1
theorem mem_places {s t : Tab} {a : Rat} : a ∈ placesR s t ↔ a = 0 ∨ (0 < a ∧ (a ∈ keys s ∨ a ∈ keys t)) := by
  unfold placesR
  rw [mem_sortQ (places_nd s t), (addK_ok _ _ (addK_ok _ _ (by simp)).1).2.1, (addK_ok _ _ (by simp)).2.1]
  simp
  grind
def enK (l : List Rat) : List (MV × MV) := l.map fun q => (fr q, .bl true)
theorem put_enK (l : List Rat) (q : Rat) : putT (enK l) (kq q) (fr q) (.bl true) = enK (if q ∈ l then l else l ++ [q]) := by
  unfold putT enK
  have e : ((l.map fun q => (fr q, MV.bl true)).any fun p => decide (p.1.nk = some (kq q))) = decide (q ∈ l) := by
    rw [List.any_map]
    have : ((fun p : MV × MV => decide (p.1.nk = some (kq q))) ∘ fun q => (fr q, MV.bl true)) = fun p => decide (p = q) := by
      funext p
      exact dec_nk p q
    rw [this]
    rw [Bool.eq_iff_iff]
    simp
  rw [e]
  by_cases c : q ∈ l
  · simp only [c, decide_true, if_true]
    rw [List.map_map]
    apply List.map_congr_left
    intro p _
    by_cases d : (fr p).nk = some (kq q)
    · simp [d]
    · simp [d]
  · simp only [c, decide_false, Bool.false_eq_true, if_false]
    simp
section
variable {h : MH} {i : Nat} {l : List Rat}
theorem setK {q : Rat} (hi : h[i]? = some (.dt (enK l))) (hl : l.length < 100000) : setIx (.loc i) (fr q) (.bl true) h = some (h.set i (.dt (enK (if q ∈ l then l else l ++ [q])))) := by
  have e : (enK l).length < 100000 := by unfold enK; simpa using hl
  unfold setIx
  dsimp only
  rw [hi]
  dsimp only
  rw [key_fr]
  dsimp only
  simp only [e, decide_true, if_true, put_enK]
theorem listK (hi : h[i]? = some (.dt (enK l))) (hl : l.length ≤ 100000) : bList [.loc i] h = .ok (.lst (l.map fr)) h := by
  have e : (enK l).length ≤ 100000 := by unfold enK; simpa using hl
  unfold bList
  dsimp only
  rw [hi]
  dsimp only
  simp only [e, decide_true, if_true]
  congr 2
  simp [enK, List.map_map, Function.comp_def]
end
section
variable {W : Nat}
theorem c_places_of {k : Nat} {h : MH} {s t : Tab} {V M v u V' M' v' u' : Nat} (S : TB s V M v u) (T : TB t V' M' v' u') (hW : 20000 ≤ W) (hk : 5 ≤ k) : callD GG (runF GG W k) j_places_of [enT s, enT t] h = .ok (.lst ((placesR s t).map fr)) h := by
  obtain ⟨k, rfl⟩ : ∃ m, k = m + 1 := ⟨k - 1, by omega⟩
  have fk : ∀ q ∈ addK (addK [0] (keys s)) (keys t), fits q := by
    intro q hq
    rw [(addK_ok _ _ (addK_ok _ _ (by simp)).1).2.1, (addK_ok _ _ (by simp)).2.1] at hq
    rcases hq with (hq | ⟨_, hq⟩) | ⟨_, hq⟩
    · rw [List.mem_singleton.mp hq]; exact fits0
    · obtain ⟨e, he, rfl⟩ := List.mem_map.mp hq
      exact S.f1 he
    · obtain ⟨e, he, rfl⟩ := List.mem_map.mp hq
      exact T.f1 he
  have lk := (addK_ok (keys t) _ (addK_ok (keys s) [0] (by simp)).1).2.2
  have lk0 := (addK_ok (keys s) [0] (by simp)).2.2
  have ls := S.ln
  have lt := T.ln
  have kl : ∀ r : Tab, (keys r).length = r.length := fun r => by unfold keys; rw [List.length_map]
  rw [kl] at lk lk0
  simp only [List.length_cons, List.length_nil] at lk0
  refine Pc.call (Pc.mk (h := [.dt (enK (addK (addK [0] (keys s)) (keys t)))]) ?_ (fixFrs _)) g_places_of rfl (fixL1 (fix_enT _) (fixL1 (fix_enT _) fixL0)) h
  -- one table
  have inner : ∀ (r : Tab), (∀ e ∈ r, fits e.1) → ∀ (l : List Rat) (s4 s5 : Option MV), l.length + r.length < 100000 → ∃ s4' s5', loopF (.tup [.nm 4, .nm 5]) (fun σ h => evSs GG (runF GG W k) W fb_places_of σ h) (r.map enP)
      [some (enT s), some (enT t), some (.loc 0), some (enT r), s4, s5] [.dt (enK l)] = .nx [some (enT s), some (enT t), some (.loc 0), some (enT r), s4', s5'] [.dt (enK (addK l (keys r)))] := by
    intro r hr l s4 s5 hl
    have L := loopF_fold (α := Rat × Rat) (S := List Rat × Option MV × Option MV) (t := .tup [.nm 4, .nm 5]) (b := fun σ h => evSs GG (runF GG W k) W fb_places_of σ h) (enc := enP)
      (fun s e => ((if 0 < e.1 then (if e.1 ∈ s.1 then s.1 else s.1 ++ [e.1]) else s.1), some (fr e.1), some (fr e.2)))
      (fun z => [some (enT s), some (enT t), some (.loc 0), some (enT r), z.2.1, z.2.2]) (fun s => [.dt (enK s.1)])
      (fun xs s => (∀ e ∈ xs, e ∈ r) ∧ s.1.length + xs.length < 100000)
      (fun e xs z i => by
        obtain ⟨i1, i2⟩ := i
        have fe := hr e (i1 e (List.mem_cons_self ..))
        simp only [List.length_cons] at i2
        refine ⟨⟨fun x hx => i1 x (List.mem_cons_of_mem _ hx), ?_⟩, _, st_enP, ?_⟩
        · dsimp only
          split
          · split
            · omega
            · simp; omega
          · omega
        · by_cases c : 0 < e.1
          · simp only [fb_places_of, evSs, evS, evE, evL, evO, evTs, List.getElem?_cons_zero, List.getElem?_cons_succ, List.set_cons_zero, List.set_cons_succ, truth, cltI, cleI, cgtI, cgeI, ceqI, cneI, gt0, gt1, gt2, gt3, gl0, gl1, addI, subI, fin_rt, fin_nx, zZ, c_is_below fits0 fe (show 1 ≤ k by omega), c, decide_true, if_true, setK (h := [.dt (enK z.1)]) (i := 0) (l := z.1) rfl (show z.1.length < 100000 by omega)]
          · simp only [fb_places_of, evSs, evS, evE, evL, evO, evTs, List.getElem?_cons_zero, List.getElem?_cons_succ, List.set_cons_zero, List.set_cons_succ, truth, cltI, cleI, cgtI, cgeI, ceqI, cneI, gt0, gt1, gt2, gt3, gl0, gl1, addI, subI, fin_rt, fin_nx, zZ, c_is_below fits0 fe (show 1 ≤ k by omega), c, decide_false, if_false])
      r (l, s4, s5) ⟨fun _ z => z, hl⟩
    have L1 := L.1
    dsimp only at L1
    rw [foldl_fst (g := fun l (e : Rat × Rat) => (if 0 < e.1 then (if e.1 ∈ l then l else l ++ [e.1]) else l)) (fun _ _ => rfl)] at L1
    have fe : addK l (keys r) = r.foldl (fun l (e : Rat × Rat) => (if 0 < e.1 then (if e.1 ∈ l then l else l ++ [e.1]) else l)) l := by
      unfold addK keys
      rw [List.foldl_map]
    rw [fe]
    exact ⟨_, _, L1⟩
  obtain ⟨a4, a5, e1⟩ := inner s (fun e he => S.f1 he) [0] none none (by simp only [List.length_cons, List.length_nil]; omega)
  obtain ⟨b4, b5, e2⟩ := inner t (fun e he => T.f1 he) (addK [0] (keys s)) a4 a5 (by omega)
  have O := c_ordered (W := W) (k := k) (h := [.dt (enK (addK (addK [0] (keys s)) (keys t)))]) (qs := addK (addK [0] (keys s)) (keys t)) fk (by omega) hW (by omega)
  have kt : keyT (fr 0) = some (kq 0) := key_fr 0
  have h1 : evSs GG (runF GG W k) W fb_places_of_1 [some (enT s), some (enT t), some (.loc 0), some (enT s), none, none] [.dt (enK [0])] = .nx [some (enT s), some (enT t), some (.loc 0), some (enT s), a4, a5] [.dt (enK (addK [0] (keys s)))] := by
    have e1' := e1
    simp only [enT] at e1'
    simp only [fb_places_of_1, evSs, evS, evE, evL, evO, evTs, List.getElem?_cons_zero, List.getElem?_cons_succ, List.set_cons_zero, List.set_cons_succ, truth, cltI, cleI, cgtI, cgeI, ceqI, cneI, gt0, gt1, gt2, gt3, gl0, gl1, addI, subI, fin_rt, fin_nx, evI, specB, seqOf, enT, e1']
  have h2 : evSs GG (runF GG W k) W fb_places_of_1 [some (enT s), some (enT t), some (.loc 0), some (enT t), a4, a5] [.dt (enK (addK [0] (keys s)))] = .nx [some (enT s), some (enT t), some (.loc 0), some (enT t), b4, b5] [.dt (enK (addK (addK [0] (keys s)) (keys t)))] := by
    have e2' := e2
    simp only [enT] at e2'
    simp only [fb_places_of_1, evSs, evS, evE, evL, evO, evTs, List.getElem?_cons_zero, List.getElem?_cons_succ, List.set_cons_zero, List.set_cons_succ, truth, cltI, cleI, cgtI, cgeI, ceqI, cneI, gt0, gt1, gt2, gt3, gl0, gl1, addI, subI, fin_rt, fin_nx, evI, specB, seqOf, enT, e2']
  have lo : loopF (.nm 3) (fun σ h => evSs GG (runF GG W k) W fb_places_of_1 σ h) [enT s, enT t] [some (enT s), some (enT t), some (.loc 0), none, none, none] [.dt (enK [0])] = .nx [some (enT s), some (enT t), some (.loc 0), some (enT t), b4, b5] [.dt (enK (addK (addK [0] (keys s)) (keys t)))] := by
    simp only [loopF, st_nm, evSs, evS, evE, evL, evO, evTs, List.getElem?_cons_zero, List.getElem?_cons_succ, List.set_cons_zero, List.set_cons_succ, truth, cltI, cleI, cgtI, cgeI, ceqI, cneI, gt0, gt1, gt2, gt3, gl0, gl1, addI, subI, fin_rt, fin_nx, h1, h2]
  rw [r_places_of, b_places_of]
  have lo' : loopF (.nm 3) (fun σ h => evSs GG (runF GG W k) W fb_places_of_1 σ h) [enT s, enT t] [some (enT s), some (enT t), some (.loc 0), none, none, none] [.dt [(fr 0, .bl true)]] = _ := lo
  simp only [evSs, evS, evE, evL, evO, evTs, List.getElem?_cons_zero, List.getElem?_cons_succ, List.set_cons_zero, List.set_cons_succ, truth, cltI, cleI, cgtI, cgeI, ceqI, cneI, gt0, gt1, gt2, gt3, gl0, gl1, addI, subI, fin_rt, fin_nx, zZ, kt, List.length_nil, List.nil_append, evI, specB, seqOf, lo', blt, listK (h := [.dt (enK (addK (addK [0] (keys s)) (keys t)))]) (i := 0) (l := addK (addK [0] (keys s)) (keys t)) rfl (by omega), O]
  rfl
/-- a rest over a table within bounds -/
theorem TB.ma {t : Tab} {V M : Nat} (T : TB t V M 1365 195) {m : Rat} {V' : Nat} (hm : Bd V' (2 ^ 24) m) (V0 : 0 < V') (Vl : V' ≤ 2 ^ 1400) : MA t m := by
  have VV : V * V' ≤ 2 ^ (1365 + 1400) := by rw [Nat.pow_add]; exact Nat.mul_le_mul T.Vv Vl
  have VV0 : 0 < V * V' := Nat.mul_pos T.V0 V0
  have MVV : M * (V * V') ≤ 2 ^ (195 + (1365 + 1400)) := by rw [Nat.pow_add 2 195]; exact Nat.mul_le_mul T.Mu VV
  have MVV0 : 0 < M * (V * V') := Nat.mul_pos T.M0 VV0
  have bx : ∀ e ∈ t, Bd (V * V') (2 ^ 24 + 2 ^ 24) (e.1 - m) := fun e he => ((T.el e he).1.mulR V').sub (hm.mulL V)
  have by_ : ∀ e ∈ t, Bd (M * (V * V')) (1 * (2 ^ 24 + 2 ^ 24)) (e.2 * pos (e.1 - m)) := fun e he => (T.el e he).2.1.mul (bx e he).pos
  refine ⟨hm.fits V0 Vl (Nat.le_refl _) (by decide), fun e he => ⟨T.f1 he, T.f2 he, (bx e he).fits VV0 VV (b := 25) (by decide) (by decide), (by_ e he).fits MVV0 MVV (b := 25) (by decide) (by decide)⟩, fun n => ?_, T.ln⟩
  have : Bd (M * (V * V')) (1000 * (1 * (2 ^ 24 + 2 ^ 24))) (rsum ((t.map fun p => p.2 * pos (p.1 - m)).take n)) := by
    refine Bd.sumN (fun q hq => ?_) ?_
    · have hq := List.mem_of_mem_take hq
      obtain ⟨e, he, rfl⟩ := List.mem_map.mp hq
      exact by_ e he
    · rw [List.length_take, List.length_map]
      have := T.ln
      omega
  exact this.fits MVV0 MVV (b := 35) (by decide) (by decide)
theorem TB.rs {t : Tab} {V M : Nat} (T : TB t V M 1365 195) {m : Rat} {V' : Nat} (hm : Bd V' (2 ^ 24) m) (V0 : 0 < V') (Vl : V' ≤ 2 ^ 1400) : Bd (M * (V * V')) (1000 * (1 * (2 ^ 24 + 2 ^ 24))) (rst t m) ∧ fits (rst t m) := by
  have MA := T.ma hm V0 Vl
  have VV : V * V' ≤ 2 ^ (1365 + 1400) := by rw [Nat.pow_add]; exact Nat.mul_le_mul T.Vv Vl
  have VV0 : 0 < V * V' := Nat.mul_pos T.V0 V0
  have MVV : M * (V * V') ≤ 2 ^ (195 + (1365 + 1400)) := by rw [Nat.pow_add 2 195]; exact Nat.mul_le_mul T.Mu VV
  have bx : ∀ e ∈ t, Bd (V * V') (2 ^ 24 + 2 ^ 24) (e.1 - m) := fun e he => ((T.el e he).1.mulR V').sub (hm.mulL V)
  have by_ : ∀ e ∈ t, Bd (M * (V * V')) (1 * (2 ^ 24 + 2 ^ 24)) (e.2 * pos (e.1 - m)) := fun e he => (T.el e he).2.1.mul (bx e he).pos
  have b : Bd (M * (V * V')) (1000 * (1 * (2 ^ 24 + 2 ^ 24))) (rst t m) := by
    unfold rst E
    refine Bd.sumN (fun q hq => ?_) (by rw [List.length_map]; exact T.ln)
    obtain ⟨e, he, rfl⟩ := List.mem_map.mp hq
    exact by_ e he
  exact ⟨b, b.fits (Nat.mul_pos T.M0 VV0) MVV (b := 35) (by decide) (by decide)⟩
theorem bd0 {V : Nat} : Bd V (2 ^ 24) 0 := Bd.zero
theorem places_bd {s t : Tab} {V M V' M' : Nat} (S : TB s V M 1365 195) (T : TB t V' M' 1365 195) {m : Rat} (h : m ∈ placesR s t) : ∃ D, Bd D (2 ^ 24) m ∧ 0 < D ∧ D ≤ 2 ^ 1400 := by
  have p : (2 : Nat) ^ 1365 ≤ 2 ^ 1400 := Nat.pow_le_pow_right (by decide) (by decide)
  rcases mem_places.mp h with rfl | ⟨_, h | h⟩
  · exact ⟨1, Bd.zero, by decide, Nat.pow_pos (by decide)⟩
  · obtain ⟨e, he, rfl⟩ := List.mem_map.mp h
    exact ⟨V, (S.el e he).1, S.V0, Nat.le_trans S.Vv p⟩
  · obtain ⟨e, he, rfl⟩ := List.mem_map.mp h
    exact ⟨V', (T.el e he).1, T.V0, Nat.le_trans T.Vv p⟩
def optM : Option Rat → MV
  | none => .non
  | some q => fr q
theorem loopF_find {t : Tg} {b : MS → MH → SR} {P : Rat → Bool} {A B : Option MV} {h : MH} : ∀ (xs : List Rat) (s2 : Option MV),
    (∀ x ∈ xs, ∀ s2, stT t (fr x) [A, B, s2] h = some [A, B, some (fr x)] ∧ (P x = true → b [A, B, some (fr x)] h = .rt (fr x) h) ∧ (P x = false → b [A, B, some (fr x)] h = .nx [A, B, some (fr x)] h)) →
    (∀ x, xs.find? P = some x → loopF t b (xs.map fr) [A, B, s2] h = .rt (fr x) h) ∧ (xs.find? P = none → ∃ s2', loopF t b (xs.map fr) [A, B, s2] h = .nx [A, B, s2'] h)
  | [], s2, _ => ⟨fun _ h => by simp at h, fun _ => ⟨s2, rfl⟩⟩
  | x :: xs, s2, st => by
    obtain ⟨e1, e2, e3⟩ := st x (List.mem_cons_self ..) s2
    have ih := loopF_find xs (some (fr x)) fun y hy => st y (List.mem_cons_of_mem _ hy)
    rw [List.find?_cons]
    cases c : P x with
    | true =>
      refine ⟨fun y hy => ?_, fun hy => by simp at hy⟩
      cases hy
      rw [List.map_cons, loopF, e1]
      dsimp only
      rw [e2 c]
    | false =>
      have : loopF t b ((x :: xs).map fr) [A, B, s2] h = loopF t b (xs.map fr) [A, B, some (fr x)] h := by
        rw [List.map_cons, loopF, e1]
        dsimp only
        rw [e3 c]
      rw [this]
      exact ih
theorem c_first_unlike {k : Nat} {h : MH} {s t : Tab} {V M V' M' : Nat} (S : TB s V M 1365 195) (T : TB t V' M' 1365 195) (hW : 20000 ≤ W) (hk : 6 ≤ k) :
    callD GG (runF GG W k) j_first_unlike [enT s, enT t] h = .ok (optM ((placesR s t).find? fun m => !decide (rst s m = rst t m))) h := by
  obtain ⟨k, rfl⟩ : ∃ m, k = m + 1 := ⟨k - 1, by omega⟩
  refine Pc.call (Pc.mk (h := []) ?_ ?_) g_first_unlike rfl (fixL1 (fix_enT _) (fixL1 (fix_enT _) fixL0)) h
  · have P := c_places_of (W := W) (k := k) (h := []) S T hW (by omega)
    have L := loopF_find (t := .nm 2) (b := fun σ h => evSs GG (runF GG W k) W fb_first_unlike σ h) (P := fun m => !decide (rst s m = rst t m)) (A := some (enT s)) (B := some (enT t)) (h := []) (placesR s t) none (fun m hm s2 => by
      obtain ⟨D, b, D0, D1⟩ := places_bd S T hm
      have c1 := c_mean_above (W := W) (k := k) (h := []) (S.ma b D0 D1) hW (by omega)
      have c2 := c_mean_above (W := W) (k := k) (h := []) (T.ma b D0 D1) hW (by omega)
      refine ⟨rfl, fun e => ?_, fun e => ?_⟩
      · simp only [fb_first_unlike, evSs, evS, evE, evL, evO, evTs, List.getElem?_cons_zero, List.getElem?_cons_succ, List.set_cons_zero, List.set_cons_succ, truth, cltI, cleI, cgtI, cgeI, ceqI, cneI, gt0, gt1, gt2, gt3, gl0, gl1, addI, subI, fin_rt, fin_nx, c1, c2, cneF, e]
      · simp only [fb_first_unlike, evSs, evS, evE, evL, evO, evTs, List.getElem?_cons_zero, List.getElem?_cons_succ, List.set_cons_zero, List.set_cons_succ, truth, cltI, cleI, cgtI, cgeI, ceqI, cneI, gt0, gt1, gt2, gt3, gl0, gl1, addI, subI, fin_rt, fin_nx, c1, c2, cneF, e])
    rw [r_first_unlike, b_first_unlike]
    cases c : (placesR s t).find? fun m => !decide (rst s m = rst t m) with
    | none =>
      obtain ⟨s2, e⟩ := L.2 c
      simp only [evSs, evS, evE, evL, evO, evTs, List.getElem?_cons_zero, List.getElem?_cons_succ, List.set_cons_zero, List.set_cons_succ, truth, cltI, cleI, cgtI, cgeI, ceqI, cneI, gt0, gt1, gt2, gt3, gl0, gl1, addI, subI, fin_rt, fin_nx, evI, specB, P, seqOf, e]
      rfl
    | some m =>
      have e := L.1 m c
      simp only [evSs, evS, evE, evL, evO, evTs, List.getElem?_cons_zero, List.getElem?_cons_succ, List.set_cons_zero, List.set_cons_succ, truth, cltI, cleI, cgtI, cgeI, ceqI, cneI, gt0, gt1, gt2, gt3, gl0, gl1, addI, subI, fin_rt, fin_nx, evI, specB, P, seqOf, e]
      rfl
  · cases (placesR s t).find? fun m => !decide (rst s m = rst t m) <;> rfl
theorem c_first_less {k : Nat} {h : MH} {s t : Tab} {V M V' M' : Nat} (S : TB s V M 1365 195) (T : TB t V' M' 1365 195) (hW : 20000 ≤ W) (hk : 6 ≤ k) :
    callD GG (runF GG W k) j_first_less [enT s, enT t] h = .ok (optM ((placesR s t).find? fun m => decide (rst s m < rst t m))) h := by
  obtain ⟨k, rfl⟩ : ∃ m, k = m + 1 := ⟨k - 1, by omega⟩
  refine Pc.call (Pc.mk (h := []) ?_ ?_) g_first_less rfl (fixL1 (fix_enT _) (fixL1 (fix_enT _) fixL0)) h
  · have P := c_places_of (W := W) (k := k) (h := []) S T hW (by omega)
    have L := loopF_find (t := .nm 2) (b := fun σ h => evSs GG (runF GG W k) W fb_first_less σ h) (P := fun m => decide (rst s m < rst t m)) (A := some (enT s)) (B := some (enT t)) (h := []) (placesR s t) none (fun m hm s2 => by
      obtain ⟨D, b, D0, D1⟩ := places_bd S T hm
      have c1 := c_mean_above (W := W) (k := k) (h := []) (S.ma b D0 D1) hW (by omega)
      have c2 := c_mean_above (W := W) (k := k) (h := []) (T.ma b D0 D1) hW (by omega)
      have c3 := c_is_below (W := W) (k := k) (h := []) (S.rs b D0 D1).2 (T.rs b D0 D1).2 (by omega)
      refine ⟨rfl, fun e => ?_, fun e => ?_⟩
      · simp only [fb_first_less, evSs, evS, evE, evL, evO, evTs, List.getElem?_cons_zero, List.getElem?_cons_succ, List.set_cons_zero, List.set_cons_succ, truth, cltI, cleI, cgtI, cgeI, ceqI, cneI, gt0, gt1, gt2, gt3, gl0, gl1, addI, subI, fin_rt, fin_nx, c1, c2, c3, e]
      · simp only [fb_first_less, evSs, evS, evE, evL, evO, evTs, List.getElem?_cons_zero, List.getElem?_cons_succ, List.set_cons_zero, List.set_cons_succ, truth, cltI, cleI, cgtI, cgeI, ceqI, cneI, gt0, gt1, gt2, gt3, gl0, gl1, addI, subI, fin_rt, fin_nx, c1, c2, c3, e])
    rw [r_first_less, b_first_less]
    cases c : (placesR s t).find? fun m => decide (rst s m < rst t m) with
    | none =>
      obtain ⟨s2, e⟩ := L.2 c
      simp only [evSs, evS, evE, evL, evO, evTs, List.getElem?_cons_zero, List.getElem?_cons_succ, List.set_cons_zero, List.set_cons_succ, truth, cltI, cleI, cgtI, cgeI, ceqI, cneI, gt0, gt1, gt2, gt3, gl0, gl1, addI, subI, fin_rt, fin_nx, evI, specB, P, seqOf, e]
      rfl
    | some m =>
      have e := L.1 m c
      simp only [evSs, evS, evE, evL, evO, evTs, List.getElem?_cons_zero, List.getElem?_cons_succ, List.set_cons_zero, List.set_cons_succ, truth, cltI, cleI, cgtI, cgeI, ceqI, cneI, gt0, gt1, gt2, gt3, gl0, gl1, addI, subI, fin_rt, fin_nx, evI, specB, P, seqOf, e]
      rfl
  · cases (placesR s t).find? fun m => decide (rst s m < rst t m) <;> rfl
end
end Lw

namespace Lw
open PySem L2 Mi
/-! Q8: the checker about two. -/
abbrev sAlike : Str := ⟨#[97, 108, 105, 107, 101]⟩
abbrev sNever : Str := ⟨#[110, 101, 118, 101, 114]⟩
abbrev sApart : Str := ⟨#[97, 112, 97, 114, 116]⟩
abbrev sLeast : Str := ⟨#[108, 101, 97, 115, 116]⟩
abbrev sMost : Str := ⟨#[109, 111, 115, 116]⟩
section
variable {h : MH}
theorem nAA : copG GG .ne (.str sAlike) (.str sApart) h = .ok (.bl true) h := cneS true (by decide +kernel) (by decide +kernel) (by decide +kernel)
theorem nNA : copG GG .ne (.str sNever) (.str sApart) h = .ok (.bl true) h := cneS true (by decide +kernel) (by decide +kernel) (by decide +kernel)
theorem nPA : copG GG .ne (.str sApart) (.str sApart) h = .ok (.bl false) h := cneS false (by decide +kernel) (by decide +kernel) (by decide +kernel)
theorem eAA : copG GG .eq (.str sAlike) (.str sAlike) h = .ok (.bl true) h := ceqS true (by decide +kernel) (by decide +kernel) (by decide +kernel)
theorem eNA : copG GG .eq (.str sNever) (.str sAlike) h = .ok (.bl false) h := ceqS false (by decide +kernel) (by decide +kernel) (by decide +kernel)
theorem ePA : copG GG .eq (.str sApart) (.str sAlike) h = .ok (.bl false) h := ceqS false (by decide +kernel) (by decide +kernel) (by decide +kernel)
theorem eNN : copG GG .eq (.str sNever) (.str sNever) h = .ok (.bl true) h := ceqS true (by decide +kernel) (by decide +kernel) (by decide +kernel)
theorem ePN : copG GG .eq (.str sApart) (.str sNever) h = .ok (.bl false) h := ceqS false (by decide +kernel) (by decide +kernel) (by decide +kernel)
theorem lkI {x : Str} {b : Bool} (e : ((kdss.getD 0 []).lookup x).isSome = b) : copG GG .ni (.str x) (.kd 0) h = .ok (.bl (!b)) h := by
  show (match GG.kds[0]? with | some t => Out.ok (MV.bl (!(t.lookup x).isSome)) h | none => .bad) = _
  rw [← e]
  rfl
theorem lkG {x : Str} {v : MV} (e : (kdss.getD 0 []).lookup x = some v) : getIx GG (.kd 0) (.str x) h = .ok v h := by
  show (match atKd GG.kds 0 x with | some v => Out.ok v h | none => .bad) = _
  have : atKd GG.kds 0 x = some v := e
  rw [this]
theorem liA : copG GG .ni (.str sAlike) (.kd 0) h = .ok (.bl false) h := lkI (b := true) (by decide +kernel)
theorem liN : copG GG .ni (.str sNever) (.kd 0) h = .ok (.bl false) h := lkI (b := true) (by decide +kernel)
theorem liP : copG GG .ni (.str sApart) (.kd 0) h = .ok (.bl false) h := lkI (b := true) (by decide +kernel)
theorem lgA : getIx GG (.kd 0) (.str sAlike) h = .ok (.int 3) h := lkG (by kernel_rfl)
theorem lgN : getIx GG (.kd 0) (.str sNever) h = .ok (.int 3) h := lkG (by kernel_rfl)
theorem lgP : getIx GG (.kd 0) (.str sApart) h = .ok (.int 4) h := lkG (by kernel_rfl)
theorem inLM {x : Str} {b : Bool} (e : inT (.str x) [.str sLeast, .str sMost] = some b) : copG GG .in_ (.str x) (.tup [.str sLeast, .str sMost]) h = .ok (.bl b) h := by
  show (match inT (.str x) [.str sLeast, .str sMost] with | some k => Out.ok (MV.bl k) h | none => .bad) = _
  rw [e]
theorem inA : copG GG .in_ (.str sAlike) (.tup [.str sLeast, .str sMost]) h = .ok (.bl false) h := inLM (by kernel_rfl)
theorem inN : copG GG .in_ (.str sNever) (.tup [.str sLeast, .str sMost]) h = .ok (.bl false) h := inLM (by kernel_rfl)
theorem inP : copG GG .in_ (.str sApart) (.tup [.str sLeast, .str sMost]) h = .ok (.bl false) h := inLM (by kernel_rfl)
end
/-- a tree that fits the checker -/
structure Fit (t : Tr) (n : Nat) : Prop where
  ok : t.ok
  sz : t.size ≤ 15
  dp : 3 * t.deep + 8 ≤ n
def cAlike (s t : Tr) : MV := .tup [.str sAlike, enc s, enc t]
def cNever (s t : Tr) : MV := .tup [.str sNever, enc s, enc t]
def cApart (s t : Tr) (m : Rat) : MV := .tup [.str sApart, enc s, enc t, fr m]
theorem fix_cAlike {s t : Tr} : (cAlike s t).fix = true := fixT (fixL1 fixS (fixL1 (fix_enc s) (fixL1 (fix_enc t) fixL0)))
theorem fix_cNever {s t : Tr} : (cNever s t).fix = true := fixT (fixL1 fixS (fixL1 (fix_enc s) (fixL1 (fix_enc t) fixL0)))
theorem fix_cApart {s t : Tr} {m : Rat} : (cApart s t m).fix = true := fixT (fixL1 fixS (fixL1 (fix_enc s) (fixL1 (fix_enc t) (fixL1 fix_fr fixL0))))
section
variable {W k n : Nat} {h : MH} {s t : Tr} {m : Rat}
theorem two_alike (S : Fit s n) (T : Fit t n) (hW : 20000 ≤ W) (hk : 6 ≤ k) : callD GG (runF GG W k) j_is_about_two [cAlike s t] h = .ok (.bl true) h := by
  obtain ⟨k, rfl⟩ : ∃ m, k = m + 1 := ⟨k - 1, by omega⟩
  refine Pc.call (Pc.mk (h := []) ?_ rfl) g_is_about_two rfl (fixL1 fix_cAlike fixL0) h
  rw [r_is_about_two, b_is_about_two]
  simp only [cAlike, evSs, evS, evE, evL, evO, evTs, List.getElem?_cons_zero, List.getElem?_cons_succ, List.set_cons_zero, List.set_cons_succ, truth, cltI, cleI, cgtI, cgeI, ceqI, cneI, gt0, gt1, gt2, gt3, gl0, gl1, addI, subI, fin_rt, fin_nx, glo_is_cost, c_is_tree S.ok S.sz hW (show 5 ≤ k by omega), c_is_tree T.ok T.sz hW (show 5 ≤ k by omega), nAA, Bool.not_true]
theorem two_never (S : Fit s n) (T : Fit t n) (hW : 20000 ≤ W) (hk : 6 ≤ k) : callD GG (runF GG W k) j_is_about_two [cNever s t] h = .ok (.bl true) h := by
  obtain ⟨k, rfl⟩ : ∃ m, k = m + 1 := ⟨k - 1, by omega⟩
  refine Pc.call (Pc.mk (h := []) ?_ rfl) g_is_about_two rfl (fixL1 fix_cNever fixL0) h
  rw [r_is_about_two, b_is_about_two]
  simp only [cNever, evSs, evS, evE, evL, evO, evTs, List.getElem?_cons_zero, List.getElem?_cons_succ, List.set_cons_zero, List.set_cons_succ, truth, cltI, cleI, cgtI, cgeI, ceqI, cneI, gt0, gt1, gt2, gt3, gl0, gl1, addI, subI, fin_rt, fin_nx, glo_is_cost, c_is_tree S.ok S.sz hW (show 5 ≤ k by omega), c_is_tree T.ok T.sz hW (show 5 ≤ k by omega), nNA, Bool.not_true]
theorem two_apart (S : Fit s n) (T : Fit t n) (hm : fits m) (hW : 20000 ≤ W) (hk : 6 ≤ k) : callD GG (runF GG W k) j_is_about_two [cApart s t m] h = .ok (.bl (!decide (m < 0))) h := by
  obtain ⟨k, rfl⟩ : ∃ m, k = m + 1 := ⟨k - 1, by omega⟩
  refine Pc.call (Pc.mk (h := []) ?_ rfl) g_is_about_two rfl (fixL1 fix_cApart fixL0) h
  rw [r_is_about_two, b_is_about_two]
  simp only [cApart, evSs, evS, evE, evL, evO, evTs, List.getElem?_cons_zero, List.getElem?_cons_succ, List.set_cons_zero, List.set_cons_succ, truth, cltI, cleI, cgtI, cgeI, ceqI, cneI, gt0, gt1, gt2, gt3, gl0, gl1, addI, subI, fin_rt, fin_nx, glo_is_cost, zZ, c_is_tree S.ok S.sz hW (show 5 ≤ k by omega), c_is_tree T.ok T.sz hW (show 5 ≤ k by omega), nPA, Bool.not_true, c_is_fraction hm hW (show 2 ≤ k by omega), c_is_below hm fits0 (show 1 ≤ k by omega)]
theorem claim_alike (S : Fit s n) (T : Fit t n) (hW : 20000 ≤ W) (hk : 7 ≤ k) : callD GG (runF GG W k) j_is_claim [cAlike s t] h = .ok (.bl true) h := by
  obtain ⟨k, rfl⟩ : ∃ m, k = m + 1 := ⟨k - 1, by omega⟩
  refine Pc.call (Pc.mk (h := []) ?_ rfl) g_is_claim rfl (fixL1 fix_cAlike fixL0) h
  have C := two_alike (W := W) (k := k) (h := []) S T hW (by omega)
  rw [r_is_claim, b_is_claim]
  simp only [cAlike] at C ⊢
  simp only [evSs, evS, evE, evL, evO, evTs, List.getElem?_cons_zero, List.getElem?_cons_succ, List.set_cons_zero, List.set_cons_succ, truth, cltI, cleI, cgtI, cgeI, ceqI, cneI, gt0, gt1, gt2, gt3, gl0, gl1, addI, subI, fin_rt, fin_nx, tTT, tSS, blt, bLen, asSeq, glo_LENGTHS, liA, lgA, inA, C, Bool.not_true, List.length_cons, List.length_nil, show decide ((((0 : Nat) + 1 + 1 + 1 : Nat) : Int) = 0) = false from rfl, show (!decide ((((0 : Nat) + 1 + 1 + 1 : Nat) : Int) = 3)) = false from rfl]
theorem claim_never (S : Fit s n) (T : Fit t n) (hW : 20000 ≤ W) (hk : 7 ≤ k) : callD GG (runF GG W k) j_is_claim [cNever s t] h = .ok (.bl true) h := by
  obtain ⟨k, rfl⟩ : ∃ m, k = m + 1 := ⟨k - 1, by omega⟩
  refine Pc.call (Pc.mk (h := []) ?_ rfl) g_is_claim rfl (fixL1 fix_cNever fixL0) h
  have C := two_never (W := W) (k := k) (h := []) S T hW (by omega)
  rw [r_is_claim, b_is_claim]
  simp only [cNever] at C ⊢
  simp only [evSs, evS, evE, evL, evO, evTs, List.getElem?_cons_zero, List.getElem?_cons_succ, List.set_cons_zero, List.set_cons_succ, truth, cltI, cleI, cgtI, cgeI, ceqI, cneI, gt0, gt1, gt2, gt3, gl0, gl1, addI, subI, fin_rt, fin_nx, tTT, tSS, blt, bLen, asSeq, glo_LENGTHS, liN, lgN, inN, C, Bool.not_true, List.length_cons, List.length_nil, show decide ((((0 : Nat) + 1 + 1 + 1 : Nat) : Int) = 0) = false from rfl, show (!decide ((((0 : Nat) + 1 + 1 + 1 : Nat) : Int) = 3)) = false from rfl]
theorem claim_apart (S : Fit s n) (T : Fit t n) (hm : fits m) (hW : 20000 ≤ W) (hk : 7 ≤ k) : callD GG (runF GG W k) j_is_claim [cApart s t m] h = .ok (.bl (!decide (m < 0))) h := by
  obtain ⟨k, rfl⟩ : ∃ m, k = m + 1 := ⟨k - 1, by omega⟩
  refine Pc.call (Pc.mk (h := []) ?_ rfl) g_is_claim rfl (fixL1 fix_cApart fixL0) h
  have C := two_apart (W := W) (k := k) (h := []) S T hm hW (by omega)
  rw [r_is_claim, b_is_claim]
  simp only [cApart] at C ⊢
  simp only [evSs, evS, evE, evL, evO, evTs, List.getElem?_cons_zero, List.getElem?_cons_succ, List.set_cons_zero, List.set_cons_succ, truth, cltI, cleI, cgtI, cgeI, ceqI, cneI, gt0, gt1, gt2, gt3, gl0, gl1, addI, subI, fin_rt, fin_nx, tTT, tSS, blt, bLen, asSeq, glo_LENGTHS, liP, lgP, inP, C, Bool.not_true, List.length_cons, List.length_nil, show decide ((((0 : Nat) + 1 + 1 + 1 + 1 : Nat) : Int) = 0) = false from rfl, show (!decide ((((0 : Nat) + 1 + 1 + 1 + 1 : Nat) : Int) = 4)) = false from rfl]
def dAlike (s t : Tr) : Bool := ((placesR (tableR s) (tableR t)).find? fun m => !decide (rst (tableR s) m = rst (tableR t) m)).isNone
def dNever (s t : Tr) : Bool := ((placesR (tableR s) (tableR t)).find? fun m => decide (rst (tableR s) m < rst (tableR t) m)).isNone
theorem a_alike (S : Fit s n) (T : Fit t n) (hW : 20000 ≤ W) (hk : n + 1 ≤ k) : callD GG (runF GG W k) j_accepts [cAlike s t, .non] h = .ok (.bl (dAlike s t)) h := by
  have := S.dp
  obtain ⟨k, rfl⟩ : ∃ m, k = m + 1 := ⟨k - 1, by omega⟩
  have C := claim_alike (W := W) (k := k) (h := h) S T hW (by omega)
  have C1 := c_table_of (W := W) s k h S.ok S.sz hW (by omega)
  have C2 := c_table_of (W := W) t k h T.ok T.sz hW (by have := T.dp; omega)
  obtain ⟨V, M, X⟩ := tabd S.ok
  obtain ⟨V', M', Y⟩ := tabd T.ok
  have C3 := c_first_unlike (W := W) (k := k) (h := h) (X.tb S.ok S.sz).1 (Y.tb T.ok T.sz).1 hW (by omega)
  rw [i_accepts, r_accepts, b_accepts]
  simp only [cAlike] at C ⊢
  unfold dAlike
  cases e : (placesR (tableR s) (tableR t)).find? fun m => !decide (rst (tableR s) m = rst (tableR t) m) with
  | none =>
    rw [e] at C3
    simp only [optM] at C3
    simp only [evSs, evS, evE, evL, evO, evTs, List.getElem?_cons_zero, List.getElem?_cons_succ, List.set_cons_zero, List.set_cons_succ, truth, cltI, cleI, cgtI, cgeI, ceqI, cneI, gt0, gt1, gt2, gt3, gl0, gl1, addI, subI, fin_rt, fin_nx, C, C1, C2, C3, inA, eAA, Bool.not_true]
    rfl
  | some q =>
    rw [e] at C3
    simp only [optM, fr] at C3
    simp only [evSs, evS, evE, evL, evO, evTs, List.getElem?_cons_zero, List.getElem?_cons_succ, List.set_cons_zero, List.set_cons_succ, truth, cltI, cleI, cgtI, cgeI, ceqI, cneI, gt0, gt1, gt2, gt3, gl0, gl1, addI, subI, fin_rt, fin_nx, C, C1, C2, C3, inA, eAA, Bool.not_true]
    rfl
theorem a_never (S : Fit s n) (T : Fit t n) (hW : 20000 ≤ W) (hk : n + 1 ≤ k) : callD GG (runF GG W k) j_accepts [cNever s t, .non] h = .ok (.bl (dNever s t)) h := by
  have := S.dp
  obtain ⟨k, rfl⟩ : ∃ m, k = m + 1 := ⟨k - 1, by omega⟩
  have C := claim_never (W := W) (k := k) (h := h) S T hW (by omega)
  have C1 := c_table_of (W := W) s k h S.ok S.sz hW (by omega)
  have C2 := c_table_of (W := W) t k h T.ok T.sz hW (by have := T.dp; omega)
  obtain ⟨V, M, X⟩ := tabd S.ok
  obtain ⟨V', M', Y⟩ := tabd T.ok
  have C3 := c_first_less (W := W) (k := k) (h := h) (X.tb S.ok S.sz).1 (Y.tb T.ok T.sz).1 hW (by omega)
  rw [i_accepts, r_accepts, b_accepts]
  simp only [cNever] at C ⊢
  unfold dNever
  cases e : (placesR (tableR s) (tableR t)).find? fun m => decide (rst (tableR s) m < rst (tableR t) m) with
  | none =>
    rw [e] at C3
    simp only [optM] at C3
    simp only [evSs, evS, evE, evL, evO, evTs, List.getElem?_cons_zero, List.getElem?_cons_succ, List.set_cons_zero, List.set_cons_succ, truth, cltI, cleI, cgtI, cgeI, ceqI, cneI, gt0, gt1, gt2, gt3, gl0, gl1, addI, subI, fin_rt, fin_nx, C, C1, C2, C3, inN, eNA, eNN, Bool.not_true]
    rfl
  | some q =>
    rw [e] at C3
    simp only [optM, fr] at C3
    simp only [evSs, evS, evE, evL, evO, evTs, List.getElem?_cons_zero, List.getElem?_cons_succ, List.set_cons_zero, List.set_cons_succ, truth, cltI, cleI, cgtI, cgeI, ceqI, cneI, gt0, gt1, gt2, gt3, gl0, gl1, addI, subI, fin_rt, fin_nx, C, C1, C2, C3, inN, eNA, eNN, Bool.not_true]
    rfl
theorem a_apart {D : Nat} (S : Fit s n) (T : Fit t n) (hm : Bd D (2 ^ 24) m) (D0 : 0 < D) (D1 : D ≤ 2 ^ 1400) (hW : 20000 ≤ W) (hk : n + 1 ≤ k) :
    callD GG (runF GG W k) j_accepts [cApart s t m, .non] h = .ok (.bl (!decide (m < 0) && decide (rst (tableR s) m < rst (tableR t) m))) h := by
  have := S.dp
  obtain ⟨k, rfl⟩ : ∃ m, k = m + 1 := ⟨k - 1, by omega⟩
  have fm : fits m := hm.fits D0 D1 (Nat.le_refl _) (by decide)
  have C := claim_apart (W := W) (k := k) (h := h) S T fm hW (by omega)
  rw [i_accepts, r_accepts, b_accepts]
  by_cases c : m < 0
  · simp only [c, decide_true, Bool.not_true] at C
    simp only [evSs, evS, evE, evL, evO, evTs, List.getElem?_cons_zero, List.getElem?_cons_succ, List.set_cons_zero, List.set_cons_succ, truth, cltI, cleI, cgtI, cgeI, ceqI, cneI, gt0, gt1, gt2, gt3, gl0, gl1, addI, subI, fin_rt, fin_nx, C, c, decide_true, Bool.not_true, Bool.not_false, Bool.false_and]
  · simp only [c, decide_false, Bool.not_false] at C
    have C1 := c_table_of (W := W) s k h S.ok S.sz hW (by omega)
    have C2 := c_table_of (W := W) t k h T.ok T.sz hW (by have := T.dp; omega)
    obtain ⟨V, M, X⟩ := tabd S.ok
    obtain ⟨V', M', Y⟩ := tabd T.ok
    have TX := (X.tb S.ok S.sz).1
    have TY := (Y.tb T.ok T.sz).1
    have C3 := c_mean_above (W := W) (k := k) (h := h) (TX.ma hm D0 D1) hW (by omega)
    have C4 := c_mean_above (W := W) (k := k) (h := h) (TY.ma hm D0 D1) hW (by omega)
    have C5 := c_is_below (W := W) (k := k) (h := h) (TX.rs hm D0 D1).2 (TY.rs hm D0 D1).2 (by omega)
    simp only [cApart] at C ⊢
    simp only [evSs, evS, evE, evL, evO, evTs, List.getElem?_cons_zero, List.getElem?_cons_succ, List.set_cons_zero, List.set_cons_succ, truth, cltI, cleI, cgtI, cgeI, ceqI, cneI, gt0, gt1, gt2, gt3, gl0, gl1, addI, subI, fin_rt, fin_nx, C, C1, C2, C3, C4, C5, inP, ePA, ePN, c, decide_false, Bool.not_true, Bool.not_false, Bool.true_and]
theorem a_alike_odd {v : MV} (hv : v ≠ .non) (S : Fit s n) (T : Fit t n) (hW : 20000 ≤ W) (hk : n + 1 ≤ k) : callD GG (runF GG W k) j_accepts [cAlike s t, v] h = .ok (.bl false) h := by
  have := S.dp
  obtain ⟨k, rfl⟩ : ∃ m, k = m + 1 := ⟨k - 1, by omega⟩
  have C := claim_alike (W := W) (k := k) (h := h) S T hW (by omega)
  rw [i_accepts, r_accepts, b_accepts]
  simp only [cAlike] at C ⊢
  cases v <;> first | exact absurd rfl hv | simp only [evSs, evS, evE, evL, evO, evTs, List.getElem?_cons_zero, List.getElem?_cons_succ, List.set_cons_zero, List.set_cons_succ, truth, cltI, cleI, cgtI, cgeI, ceqI, cneI, gt0, gt1, gt2, gt3, gl0, gl1, addI, subI, fin_rt, fin_nx, C, inA, Bool.not_true]
theorem a_never_odd {v : MV} (hv : v ≠ .non) (S : Fit s n) (T : Fit t n) (hW : 20000 ≤ W) (hk : n + 1 ≤ k) : callD GG (runF GG W k) j_accepts [cNever s t, v] h = .ok (.bl false) h := by
  have := S.dp
  obtain ⟨k, rfl⟩ : ∃ m, k = m + 1 := ⟨k - 1, by omega⟩
  have C := claim_never (W := W) (k := k) (h := h) S T hW (by omega)
  rw [i_accepts, r_accepts, b_accepts]
  simp only [cNever] at C ⊢
  cases v <;> first | exact absurd rfl hv | simp only [evSs, evS, evE, evL, evO, evTs, List.getElem?_cons_zero, List.getElem?_cons_succ, List.set_cons_zero, List.set_cons_succ, truth, cltI, cleI, cgtI, cgeI, ceqI, cneI, gt0, gt1, gt2, gt3, gl0, gl1, addI, subI, fin_rt, fin_nx, C, inN, Bool.not_true]
end
end Lw

namespace Lw
open PySem L2 Mi
/-! Q9: nodes, rows of numbers, papers. -/
/-! ### nodes -/
mutual
def nodesR : Tr → List Int → List (List Int × Tr)
  | .en w, p => [(p, .en w)]
  | .st c bs, p => (p, .st c bs) :: nodesB bs 0 p
def nodesB : Bs → Nat → List Int → List (List Int × Tr)
  | .nil, _, _ => []
  | .cons w t bs, k, p => nodesR t (p ++ [(k : Int)]) ++ nodesB bs (k + 1) p
end
mutual
theorem nodesR_len : ∀ (t : Tr) (p : List Int), (nodesR t p).length = t.size
  | .en w, p => by rw [nodesR, Tr.size]; rfl
  | .st c bs, p => by rw [nodesR, Tr.size, List.length_cons, nodesB_len bs]
theorem nodesB_len : ∀ (bs : Bs) (k : Nat) (p : List Int), (nodesB bs k p).length = bs.size
  | .nil, _, _ => by rw [nodesB, Bs.size]; rfl
  | .cons w t bs, k, p => by rw [nodesB, Bs.size, List.length_append, nodesR_len t, nodesB_len bs]
end
mutual
theorem nodesR_steps : ∀ (t : Tr) (p : List Int), ((nodesR t p).filter fun x => !x.2.isEnd).length = t.steps
  | .en w, p => by rw [nodesR, Tr.steps]; rfl
  | .st c bs, p => by
    rw [nodesR, Tr.steps, List.filter_cons]
    show (if (!Tr.isEnd (.st c bs)) = true then _ else _ : List (List Int × Tr)).length = _
    rw [if_pos (show (!Tr.isEnd (.st c bs)) = true from rfl), List.length_cons, nodesB_steps bs]
theorem nodesB_steps : ∀ (bs : Bs) (k : Nat) (p : List Int), ((nodesB bs k p).filter fun x => !x.2.isEnd).length = bs.steps
  | .nil, _, _ => by rw [nodesB, Bs.steps]; rfl
  | .cons w t bs, k, p => by rw [nodesB, Bs.steps, List.filter_append, List.length_append, nodesR_steps t, nodesB_steps bs]
end
def encN (x : List Int × Tr) : MV := .tup [encW x.1, enc x.2]
theorem fix_encN (x : List Int × Tr) : (encN x).fix = true := fixT (fixL1 (fix_encW _) (fixL1 (fix_enc _) fixL0))
/-- what is left of a line of nodes -/
def restN (l : List (List Int × Tr)) : List (List Int × Tr) := l.reverse.flatMap fun x => nodesR x.2 x.1
def sizeN (l : List (List Int × Tr)) : Nat := (l.map fun x => x.2.size).sum
/-- the branches, the last one first -/
def kidsN (p : List Int) (l : List (Nat × Tr)) : List (List Int × Tr) := (List.range l.length).map fun i => (p ++ [((l.length - 1 - i : Nat) : Int)], ((l.reverse)[i]?.getD (0, .en 0)).2)
theorem kids_rest (p : List Int) : ∀ (bs : Bs) (k : Nat), nodesB bs k p = (bs.list.zipIdx k).flatMap fun x => nodesR x.1.2 (p ++ [(x.2 : Int)])
  | .nil, k => by rw [nodesB, Bs.list]; rfl
  | .cons w t bs, k => by rw [nodesB, Bs.list, List.zipIdx_cons, List.flatMap_cons, kids_rest p bs (k + 1)]
theorem kids_rev (p : List Int) (l : List (Nat × Tr)) : (kidsN p l).reverse = (l.zipIdx 0).map fun x => (p ++ [(x.2 : Int)], x.1.2) := by
  apply List.ext_getElem
  · simp [kidsN]
  · intro i h1 h2
    have hi : i < l.length := by simpa [kidsN] using h1
    simp only [kidsN, List.getElem_reverse, List.getElem_map, List.getElem_range, List.length_map, List.length_range, List.getElem_zipIdx, Nat.zero_add]
    have e1 : l.length - 1 - (l.length - 1 - i) = i := by omega
    rw [e1]
    congr 1
    rw [List.getElem?_reverse (by omega), e1]
    simp [hi]
theorem rest_kids (p : List Int) (bs : Bs) (l : List (List Int × Tr)) : restN (l ++ kidsN p bs.list) = nodesB bs 0 p ++ restN l := by
  unfold restN
  rw [List.reverse_append, List.flatMap_append, kids_rev, kids_rest, List.flatMap_map]
theorem size_kids (p : List Int) (bs : Bs) : sizeN (kidsN p bs.list) = bs.size := by
  have : sizeN (kidsN p bs.list) = sizeN (kidsN p bs.list).reverse := by
    unfold sizeN
    rw [List.map_reverse]
    exact (List.Perm.sum_nat (List.reverse_perm _)).symm
  rw [this, kids_rev, Bs.size_sum]
  unfold sizeN
  rw [List.map_map]
  have : ∀ (l : List (Nat × Tr)) (k : Nat), ((l.zipIdx k).map ((fun x : List Int × Tr => x.2.size) ∘ fun x => (p ++ [(x.2 : Int)], x.1.2))).sum = (l.map fun p => p.2.size).sum := by
    intro l
    induction l with
    | nil => intro k; rfl
    | cons a l ih => intro k; rw [List.zipIdx_cons, List.map_cons, List.sum_cons, ih, List.map_cons, List.sum_cons]; rfl
  exact this _ _
section
variable {W : Nat}
theorem c_nodes_of {k : Nat} {h : MH} {t : Tr} (hs : t.size ≤ 15) (hd : t.deep ≤ 20) (hW : 20000 ≤ W) (hk : 2 ≤ k) : callD GG (runF GG W k) j_nodes_of [enc t] h = .ok (.lst ((nodesR t []).map encN)) h := by
  obtain ⟨k, rfl⟩ : ∃ m, k = m + 1 := ⟨k - 1, by omega⟩
  have V := loopW_inv (S := (List (List Int × Tr) × List (List Int × Tr)) × Option MV × Option MV × Option MV) (c := fun σ h => evE GG (runF GG W k) wc_nodes_of σ h) (b := fun σ h => evSs GG (runF GG W k) W wb_nodes_of σ h) (R := fun _ _ => False)
    (fun s => [some (enc t), some (.loc 0), some (.loc 1), s.2.1, s.2.2.1, s.2.2.2, none]) (fun s => [.lst (s.1.1.map encN), .lst (s.1.2.map encN)]) (fun s => sizeN s.1.2)
    (fun s => nodesR t [] = s.1.1 ++ restN s.1.2 ∧ sizeN s.1.2 ≤ 15 ∧ ∀ x ∈ s.1.2, x.1.length + x.2.deep ≤ 20) (fun s => s.1.1 = nodesR t [])
    (fun s i => by
      obtain ⟨⟨f, l⟩, s3, s4, s5⟩ := s
      obtain ⟨i1, i2, i3⟩ := i
      dsimp only at i1 i2 i3 ⊢
      rcases List.eq_nil_or_concat l with rfl | ⟨l, x, rfl⟩
      · refine .inl ⟨?_, by simpa [restN] using i1.symm⟩
        simp only [wc_nodes_of, evSs, evS, evE, evL, evO, evTs, List.getElem?_cons_zero, List.getElem?_cons_succ, List.set_cons_zero, List.set_cons_succ, truth, cltI, cleI, cgtI, cgeI, ceqI, cneI, gt0, gt1, gt2, gt3, gl0, gl1, addI, subI, fin_rt, fin_nx, blt, bLen, asSeq, List.map_nil, List.length_nil, show decide ((0 : Int) < ((0 : Nat) : Int)) = false from rfl]
      · rw [List.concat_eq_append] at i1 i2 i3 ⊢
        have hf : f.length ≤ 15 := by
          have := congrArg List.length i1
          rw [nodesR_len, List.length_append] at this
          omega
        have d1 : decide ((0 : Int) < (((l ++ [x]).map encN).length : Int)) = true := decide_eq_true (by rw [List.length_map, List.length_append]; simp only [List.length_cons, List.length_nil]; omega)
        have ll : (l ++ [x]).length ≤ 15 := by
          have key : ∀ m : List (List Int × Tr), m.length ≤ sizeN m := by
            intro m
            induction m with
            | nil => exact Nat.le_refl _
            | cons a m ih => have := size_pos a.2; unfold sizeN at ih ⊢; simp only [List.map_cons, List.sum_cons, List.length_cons]; omega
          exact Nat.le_trans (key _) i2
        have sx : sizeN (l ++ [x]) = sizeN l + x.2.size := by unfold sizeN; simp
        have rx : restN (l ++ [x]) = nodesR x.2 x.1 ++ restN l := by unfold restN; simp
        have pop : mPop (.loc 1) [] [.lst (f.map encN), .lst ((l ++ [x]).map encN)] = .ok (encN x) [.lst (f.map encN), .lst (l.map encN)] := by
          unfold mPop
          dsimp only [List.getElem?_cons_zero, List.getElem?_cons_succ]
          have e : ((l ++ [x]).map encN)[((l ++ [x]).map encN).length - 1]? = some (encN x) := by simp
          rw [e]
          dsimp only
          have e2 : ((l ++ [x]).map encN).dropLast = l.map encN := by simp
          rw [e2]
          rfl
        have app : mApp (.loc 0) [.tup [encW x.1, enc x.2]] [.lst (f.map encN), .lst (l.map encN)] = .ok .non [.lst ((f ++ [x]).map encN), .lst (l.map encN)] := by
          unfold mApp
          dsimp only [List.getElem?_cons_zero]
          rw [if_pos (decide_eq_true (by simp; omega))]
          simp [encN]
        have rv1 : rcv .pop (.loc 1) [.lst (f.map encN), .lst ((l ++ [x]).map encN)] = true := rfl
        have rv0 : rcv .append (.loc 0) [.lst (f.map encN), .lst (l.map encN)] = true := rfl
        have C2 := c_is_end (W := W) (k := k) (h := [.lst ((f ++ [x]).map encN), .lst (l.map encN)]) x.2 (by omega)
        refine .inr ⟨?_, .inl ?_⟩
        · simp only [wc_nodes_of, evSs, evS, evE, evL, evO, evTs, List.getElem?_cons_zero, List.getElem?_cons_succ, List.set_cons_zero, List.set_cons_succ, truth, cltI, cleI, cgtI, cgeI, ceqI, cneI, gt0, gt1, gt2, gt3, gl0, gl1, addI, subI, fin_rt, fin_nx, blt, bLen, asSeq, d1]
        · cases e : x.2 with
          | en w =>
            rw [e] at C2
            refine ⟨((f ++ [x], l), some (encW x.1), some (enc x.2), s5), ?_, ⟨?_, by dsimp only; omega, fun y hy => i3 y (List.mem_append_left _ hy)⟩, by dsimp only; rw [sx, e]; simp only [Tr.size]; omega⟩
            · have en : encN x = .tup [encW x.1, enc x.2] := rfl
              rw [e] at en
              simp only [wb_nodes_of, evSs, evS, evE, evL, evO, evTs, List.getElem?_cons_zero, List.getElem?_cons_succ, List.set_cons_zero, List.set_cons_succ, truth, cltI, cleI, cgtI, cgeI, ceqI, cneI, gt0, gt1, gt2, gt3, gl0, gl1, addI, subI, fin_rt, fin_nx, rv1, mth, pop, en, st_pair, rv0, ← e, app]
              rw [e]
              simp only [evSs, evS, evE, evL, evO, evTs, List.getElem?_cons_zero, List.getElem?_cons_succ, List.set_cons_zero, List.set_cons_succ, truth, cltI, cleI, cgtI, cgeI, ceqI, cneI, gt0, gt1, gt2, gt3, gl0, gl1, addI, subI, fin_rt, fin_nx, C2, Tr.isEnd, Bool.not_true]
            · dsimp only
              rw [i1, rx, e, nodesR]
              have : x = (x.1, .en w) := by rw [← e]
              rw [← this]
              simp
          | st c bs =>
            rw [e] at C2
            have xe : x = (x.1, .st c bs) := by rw [← e]
            have dx := i3 x (by simp)
            rw [e] at dx
            simp only [Tr.deep] at dx
            have bl : bs.list.length ≤ 14 := by
              have := sizes_bs bs
              have key : ∀ m : List Tr, m.length ≤ sizes m := by
                intro m
                induction m with
                | nil => exact Nat.le_refl _
                | cons a m ih => have := size_pos a; unfold sizes at ih ⊢; simp only [List.map_cons, List.sum_cons, List.length_cons]; omega
              have k1 := key (bs.list.map (·.2))
              rw [List.length_map] at k1
              rw [sx, e] at i2
              simp only [Tr.size] at i2
              omega
            have g2 : ∀ hh, getIx GG (enc (.st c bs)) (.int 2) hh = .ok (.tup (bs.list.map encP)) hh := fun hh => by rw [enc, encB_map]; exact gt2
            have L := loopC_map (α := Nat) (t := .nm 6) (tt := fun _ h => .ok (.bl true) h) (e := fun σ h => evE GG (runF GG W k) ce_nodes_of σ h) (enc := fun i => .int (i : Nat)) (σ := [some (enc t), some (.loc 0), some (.loc 1), some (encW x.1), some (enc (.st c bs)), some (.int (bs.list.length : Nat)), none]) (h := [.lst ((f ++ [x]).map encN), .lst (l.map encN)])
              (fun i => encN (x.1 ++ [((bs.list.length - 1 - i : Nat) : Int)], ((bs.list.reverse)[i]?.getD (0, .en 0)).2)) (List.range bs.list.length) [] (fun i hi => by
                have hi := List.mem_range.mp hi
                refine ⟨_, st_nm, rfl, ?_⟩
                have ix : ((bs.list.length : Nat) : Int) - 1 - (i : Int) = ((bs.list.length - 1 - i : Nat) : Int) := by omega
                have hp : bs.list[bs.list.length - 1 - i]? = some (bs.list[bs.list.length - 1 - i]'(by omega)) := List.getElem?_eq_getElem (by omega)
                have gp : ∀ hh, getIx GG (.tup (bs.list.map encP)) (.int ((bs.list.length - 1 - i : Nat) : Int)) hh = .ok (encP (bs.list[bs.list.length - 1 - i]'(by omega))) hh := fun hh => gtN (by rw [List.getElem?_map, hp]; rfl)
                have g1 : ∀ (p : Nat × Tr) hh, getIx GG (encP p) (.int 1) hh = .ok (enc p.2) hh := fun p hh => gt1
                have ap : ∀ hh, bop .add (encW x.1) (.tup [.int ((bs.list.length - 1 - i : Nat) : Int)]) hh = .ok (encW (x.1 ++ [((bs.list.length - 1 - i : Nat) : Int)])) hh := fun hh => by
                  unfold encW
                  rw [List.map_append]
                  exact addT (by simp; omega)
                have rr : ((bs.list.reverse)[i]?.getD (0, .en 0)) = bs.list[bs.list.length - 1 - i]'(by omega) := by
                  rw [List.getElem?_reverse (by omega), hp]
                  rfl
                rw [rr]
                simp only [ce_nodes_of, evSs, evS, evE, evL, evO, evTs, List.getElem?_cons_zero, List.getElem?_cons_succ, List.set_cons_zero, List.set_cons_succ, truth, cltI, cleI, cgtI, cgeI, ceqI, cneI, gt0, gt1, gt2, gt3, gl0, gl1, addI, subI, fin_rt, fin_nx, ix, ap, g2, gp, g1, encN]) (by simp; omega)
            rw [List.nil_append] at L
            have km : (List.range bs.list.length).map (fun i => encN (x.1 ++ [((bs.list.length - 1 - i : Nat) : Int)], ((bs.list.reverse)[i]?.getD (0, .en 0)).2)) = (kidsN x.1 bs.list).map encN := by
              unfold kidsN
              rw [List.map_map]
              rfl
            rw [km] at L
            have rg : rngM 0 bs.list.length = (List.range bs.list.length).map fun i => MV.int (i : Nat) := by
              have := rngM_map' bs.list.length 0
              rw [← List.range_eq_range'] at this
              exact this
            have kl : (kidsN x.1 bs.list).length = bs.list.length := by unfold kidsN; simp
            have ext : mExt (.loc 1) [.lst ((kidsN x.1 bs.list).map encN)] [.lst ((f ++ [x]).map encN), .lst (l.map encN)] = .ok .non [.lst ((f ++ [x]).map encN), .lst ((l ++ kidsN x.1 bs.list).map encN)] := by
              unfold mExt
              dsimp only [List.getElem?_cons_zero, List.getElem?_cons_succ]
              rw [List.length_append] at ll
              rw [if_pos (decide_eq_true (by rw [List.length_map, List.length_map, kl]; omega))]
              have e : (l ++ kidsN x.1 bs.list).map encN = l.map encN ++ (kidsN x.1 bs.list).map encN := List.map_append
              rw [e]
              rfl
            have rv2 : rcv .extend (.loc 1) [.lst ((f ++ [x]).map encN), .lst (l.map encN)] = true := rfl
            refine ⟨((f ++ [x], l ++ kidsN x.1 bs.list), some (encW x.1), some (enc (.st c bs)), some (.int (bs.list.length : Nat))), ?_, ⟨?_, ?_, ?_⟩, ?_⟩
            · have en : encN x = .tup [encW x.1, enc (.st c bs)] := by rw [← e]; rfl
              rw [e] at app
              have el : evE GG (runF GG W k) (.comp false (.nm 6) (.rng1 (.var 5)) [] ce_nodes_of [6]) [some (enc t), some (.loc 0), some (.loc 1), some (encW x.1), some (enc (.st c bs)), some (.int (bs.list.length : Nat)), none] [.lst ((f ++ [x]).map encN), .lst (l.map encN)] = .ok (.lst ((kidsN x.1 bs.list).map encN)) [.lst ((f ++ [x]).map encN), .lst (l.map encN)] := by
                have ei : evI GG (runF GG W k) (.rng1 (.var 5)) [some (enc t), some (.loc 0), some (.loc 1), some (encW x.1), some (enc (.st c bs)), some (.int (bs.list.length : Nat)), none] [.lst ((f ++ [x]).map encN), .lst (l.map encN)] = .ok ((List.range bs.list.length).map fun i => MV.int (i : Nat)) [.lst ((f ++ [x]).map encN), .lst (l.map encN)] := by
                  rw [← rg]
                  exact evI_rngN (by simp only [evSs, evS, evE, evL, evO, evTs, List.getElem?_cons_zero, List.getElem?_cons_succ, List.set_cons_zero, List.set_cons_succ, truth, cltI, cleI, cgtI, cgeI, ceqI, cneI, gt0, gt1, gt2, gt3, gl0, gl1, addI, subI, fin_rt, fin_nx]) (by omega)
                exact e_compF ei (by simp only [evSs, evS, evE, evL, evO, evTs, List.getElem?_cons_zero, List.getElem?_cons_succ, List.set_cons_zero, List.set_cons_succ, truth, cltI, cleI, cgtI, cgeI, ceqI, cneI, gt0, gt1, gt2, gt3, gl0, gl1, addI, subI, fin_rt, fin_nx, wipeM]; exact L)
              rw [en] at pop
              have ev2 : evE GG (runF GG W k) (.var 2) [some (enc t), some (.loc 0), some (.loc 1), s3, s4, s5, none] [.lst (f.map encN), .lst ((l ++ [x]).map encN)] = .ok (.loc 1) [.lst (f.map encN), .lst ((l ++ [x]).map encN)] := rfl
              have t1 := y_unp (W := W) (σ' := [some (enc t), some (.loc 0), some (.loc 1), some (encW x.1), some (enc (.st c bs)), s5, none]) (y_mth (m := .pop) (l := []) ev2 rv1 rfl |>.trans pop) (t := .tup [.nm 3, .nm 4]) rfl
              have t2 : evS GG (runF GG W k) W (.expr (.mth .append (.var 1) [.tup [.var 3, .var 4]])) [some (enc t), some (.loc 0), some (.loc 1), some (encW x.1), some (enc (.st c bs)), s5, none] [.lst (f.map encN), .lst (l.map encN)] = .nx [some (enc t), some (.loc 0), some (.loc 1), some (encW x.1), some (enc (.st c bs)), s5, none] [.lst ((f ++ [x]).map encN), .lst (l.map encN)] := by
                simp only [evSs, evS, evE, evL, evO, evTs, List.getElem?_cons_zero, List.getElem?_cons_succ, List.set_cons_zero, List.set_cons_succ, truth, cltI, cleI, cgtI, cgeI, ceqI, cneI, gt0, gt1, gt2, gt3, gl0, gl1, addI, subI, fin_rt, fin_nx, rv0, mth, app]
              have tc : evE GG (runF GG W k) (.not (.call j_is_end [.var 4])) [some (enc t), some (.loc 0), some (.loc 1), some (encW x.1), some (enc (.st c bs)), s5, none] [.lst ((f ++ [x]).map encN), .lst (l.map encN)] = .ok (.bl true) [.lst ((f ++ [x]).map encN), .lst (l.map encN)] := by
                simp only [evSs, evS, evE, evL, evO, evTs, List.getElem?_cons_zero, List.getElem?_cons_succ, List.set_cons_zero, List.set_cons_succ, truth, cltI, cleI, cgtI, cgeI, ceqI, cneI, gt0, gt1, gt2, gt3, gl0, gl1, addI, subI, fin_rt, fin_nx, C2, Tr.isEnd, Bool.not_false]
              have t3 : evS GG (runF GG W k) W (.set 5 (.blt .len [.idx (.var 4) (.int 2)])) [some (enc t), some (.loc 0), some (.loc 1), some (encW x.1), some (enc (.st c bs)), s5, none] [.lst ((f ++ [x]).map encN), .lst (l.map encN)] = .nx [some (enc t), some (.loc 0), some (.loc 1), some (encW x.1), some (enc (.st c bs)), some (.int (bs.list.length : Nat)), none] [.lst ((f ++ [x]).map encN), .lst (l.map encN)] := by
                simp only [evSs, evS, evE, evL, evO, evTs, List.getElem?_cons_zero, List.getElem?_cons_succ, List.set_cons_zero, List.set_cons_succ, truth, cltI, cleI, cgtI, cgeI, ceqI, cneI, gt0, gt1, gt2, gt3, gl0, gl1, addI, subI, fin_rt, fin_nx, g2, blt, bLen, asSeq, List.length_map]
              have ev3 : evE GG (runF GG W k) (.var 2) [some (enc t), some (.loc 0), some (.loc 1), some (encW x.1), some (enc (.st c bs)), some (.int (bs.list.length : Nat)), none] [.lst ((f ++ [x]).map encN), .lst (l.map encN)] = .ok (.loc 1) [.lst ((f ++ [x]).map encN), .lst (l.map encN)] := rfl
              have t4 := y_expr (W := W) ((y_mth (m := .extend) ev3 rv2 (y_one el)).trans ext)
              rw [wb_nodes_of, ss_nx t1, ss_nx t2]
              exact y_last ((y_ifT tc rfl).trans ((ss_nx t3).trans (y_last t4)))
            · dsimp only
              rw [i1, rx, e, nodesR, rest_kids]
              rw [← xe]
              simp
            · dsimp only
              have : sizeN (l ++ kidsN x.1 bs.list) = sizeN l + bs.size := by
                rw [← size_kids x.1 bs]
                unfold sizeN
                rw [List.map_append, List.sum_append]
              rw [this]
              rw [sx, e] at i2
              simp only [Tr.size] at i2
              omega
            · intro y hy
              rcases List.mem_append.mp hy with hy | hy
              · exact i3 y (List.mem_append_left _ hy)
              · have hy' : y ∈ (kidsN x.1 bs.list).reverse := List.mem_reverse.mpr hy
                rw [kids_rev] at hy'
                obtain ⟨z, hz, rfl⟩ := List.mem_map.mp hy'
                have hm : z.1 ∈ bs.list := by
                  have := List.mem_zipIdx hz
                  obtain ⟨_, _, e3⟩ := this
                  rw [e3]
                  exact List.getElem_mem _
                have := Bs.deep_mem hm
                dsimp only
                rw [List.length_append]
                simp only [List.length_cons, List.length_nil]
                omega
            · dsimp only
              have : sizeN (l ++ kidsN x.1 bs.list) = sizeN l + bs.size := by
                rw [← size_kids x.1 bs]
                unfold sizeN
                rw [List.map_append, List.sum_append]
              rw [this, sx, e]
              simp only [Tr.size]
              omega)
    W (([], [([], t)]), none, none, none) ⟨by simp [restN], by simp [sizeN]; exact hs, fun x hx => by rw [List.mem_singleton.mp hx]; simpa using hd⟩ (by simp [sizeN]; omega)
  rcases V with ⟨s, V, E⟩ | ⟨_, _, _, z⟩
  · refine Pc.call ⟨.loc 0, [.lst (s.1.1.map encN), .lst (s.1.2.map encN)], ?_, ?_⟩ g_nodes_of rfl (fixL1 (fix_enc _) fixL0) h
    · have V' : loopW (fun σ h => evE GG (runF GG W k) wc_nodes_of σ h) (fun σ h => evSs GG (runF GG W k) W wb_nodes_of σ h) W [some (enc t), some (.loc 0), some (.loc 1), none, none, none, none] [.lst [], .lst [.tup [.tup [], enc t]]] = _ := V
      rw [r_nodes_of, b_nodes_of]
      simp only [evSs, evS, evE, evL, evO, evTs, List.getElem?_cons_zero, List.getElem?_cons_succ, List.set_cons_zero, List.set_cons_succ, truth, cltI, cleI, cgtI, cgeI, ceqI, cneI, gt0, gt1, gt2, gt3, gl0, gl1, addI, subI, fin_rt, fin_nx, List.length_nil, List.length_cons, List.nil_append, List.cons_append, V']
    · rw [E]
      have fx : fixL ((nodesR t []).map encN) = true := fixL_map fun x _ => fix_encN x
      simp only [frz, List.getElem?_cons_zero, fx, if_true]
  · exact z.elim
theorem c_steps_in {k : Nat} {h : MH} {t : Tr} (hs : t.size ≤ 15) (hd : t.deep ≤ 20) (hW : 20000 ≤ W) (hk : 3 ≤ k) : callD GG (runF GG W k) j_steps_in [enc t] h = .ok (.lst (((nodesR t []).filter fun x => !x.2.isEnd).map fun x => encW x.1)) h := by
  obtain ⟨k, rfl⟩ : ∃ m, k = m + 1 := ⟨k - 1, by omega⟩
  refine Pc.call (Pc.mk (h := []) ?_ (fixLst (fixL_map fun x _ => fix_encW x.1))) g_steps_in rfl (fixL1 (fix_enc _) fixL0) h
  have N := c_nodes_of (W := W) (k := k) (h := []) hs hd hW (by omega)
  have L := loopC_fm (α := List Int × Tr) (t := .tup [.nm 1, .nm 2]) (tt := fun σ h => evTs GG (runF GG W k) ct_steps_in σ h) (e := fun σ h => evE GG (runF GG W k) ce_steps_in σ h) (enc := encN) (σ := [some (enc t), none, none]) (h := [])
    (fun x => !x.2.isEnd) (fun x => encW x.1) (nodesR t []) [] (fun x hx => ⟨_, st_pair, by simp only [ct_steps_in, evSs, evS, evE, evL, evO, evTs, List.getElem?_cons_zero, List.getElem?_cons_succ, List.set_cons_zero, List.set_cons_succ, truth, cltI, cleI, cgtI, cgeI, ceqI, cneI, gt0, gt1, gt2, gt3, gl0, gl1, addI, subI, fin_rt, fin_nx, c_is_end x.2 (show 1 ≤ k by omega)], fun _ => by simp only [ce_steps_in, evSs, evS, evE, evL, evO, evTs, List.getElem?_cons_zero, List.getElem?_cons_succ, List.set_cons_zero, List.set_cons_succ, truth, cltI, cleI, cgtI, cgeI, ceqI, cneI, gt0, gt1, gt2, gt3, gl0, gl1, addI, subI, fin_rt, fin_nx]⟩) (by rw [nodesR_len]; simp; omega)
  rw [List.nil_append] at L
  rw [r_steps_in, b_steps_in]
  simp only [evSs, evS, evE, evL, evO, evTs, List.getElem?_cons_zero, List.getElem?_cons_succ, List.set_cons_zero, List.set_cons_succ, truth, cltI, cleI, cgtI, cgeI, ceqI, cneI, gt0, gt1, gt2, gt3, gl0, gl1, addI, subI, fin_rt, fin_nx, specB, seqOf, N, wipeM, L]
end
end Lw

namespace Lw
open PySem L2 Mi
/-! L1: the law's own fractions and caps. -/
section
variable {W k : Nat} {p q : Rat} {h : MH}
theorem c_l_low {a : Int} {b : Nat} (h0 : 0 < b) (hb : b < 2 ^ 8800) (hW : 20000 ≤ W) (hk : 1 ≤ k) : callD GG (runF GG W k) j_l_low [.int a, .int b] h = .ok (fr (mkRat a b)) h := by
  obtain ⟨k, rfl⟩ : ∃ m, k = m + 1 := ⟨k - 1, by omega⟩
  refine Pc.call (Pc.mk (h := []) ?_ rfl) g_l_low rfl rfl h
  obtain ⟨g0, g1⟩ := gcd8800 (a := a) h0 hb
  have q := gcd_loopW (h := []) (fun x y => [some (.int a), some (.int b), some (.int x), some (.int y)]) (cc := fun σ h => evE GG (runF GG W k) wc_l_low σ h) (b := fun σ h => evSs GG (runF GG W k) W wb_l_low σ h) hW
    (fun x y => by simp only [wc_l_low, evSs, evS, evE, evL, evO, evTs, List.getElem?_cons_zero, List.getElem?_cons_succ, List.set_cons_zero, List.set_cons_succ, truth, cltI, cleI, cgtI, cgeI, ceqI, cneI, gt0, gt1, gt2, gt3, gl0, gl1, addI, subI, fin_rt, fin_nx])
    (fun x y hy => by simp only [wb_l_low, blt, bInt, modI hy, evSs, evS, evE, evL, evO, evTs, List.getElem?_cons_zero, List.getElem?_cons_succ, List.set_cons_zero, List.set_cons_succ, truth, cltI, cleI, cgtI, cgeI, ceqI, cneI, gt0, gt1, gt2, gt3, gl0, gl1, addI, subI, fin_rt, fin_nx]) a.natAbs b hb
  have gg : (Nat.gcd a.natAbs b : Nat) = Int.gcd a b := rfl
  rw [gg] at q
  rw [r_l_low, b_l_low]
  simp only [evSs, evS, evE, evL, List.getElem?_cons_zero, List.getElem?_cons_succ, List.set_cons_zero, List.set_cons_succ, blt, absI]
  rw [q]
  simp only [evSs, evS, evE, evL, evO, evTs, List.getElem?_cons_zero, List.getElem?_cons_succ, List.set_cons_zero, List.set_cons_succ, truth, cltI, cleI, cgtI, cgeI, ceqI, cneI, gt0, gt1, gt2, gt3, gl0, gl1, addI, subI, fin_rt, fin_nx, fdivB g0 g1, fr_low a b h0]
theorem c_l_sum (hp : fits p) (hq : fits q) (hW : 20000 ≤ W) (hk : 2 ≤ k) : callD GG (runF GG W k) j_l_sum [fr p, fr q] h = .ok (fr (p + q)) h := by
  obtain ⟨k, rfl⟩ : ∃ m, k = m + 1 := ⟨k - 1, by omega⟩
  refine Pc.call (Pc.mk (h := []) ?_ rfl) g_l_sum rfl rfl h
  have c := c_l_low (W := W) (k := k) (a := p.num * q.den + q.num * p.den) (h := []) (Nat.mul_pos p.den_pos q.den_pos) (den8800 hp hq) hW (by omega)
  rw [← radd, Int.natCast_mul] at c
  rw [r_l_sum, b_l_sum]
  unfold fr at c ⊢
  simp only [evSs, evS, evE, evL, evO, evTs, List.getElem?_cons_zero, List.getElem?_cons_succ, List.set_cons_zero, List.set_cons_succ, truth, cltI, cleI, cgtI, cgeI, ceqI, cneI, gt0, gt1, gt2, gt3, gl0, gl1, addI, subI, fin_rt, fin_nx, mulB hp.1 (denB hq), mulB hq.1 (denB hp), mulB (denB hp) (denB hq), c]
theorem c_l_times (hp : fits p) (hq : fits q) (hW : 20000 ≤ W) (hk : 2 ≤ k) : callD GG (runF GG W k) j_l_times [fr p, fr q] h = .ok (fr (p * q)) h := by
  obtain ⟨k, rfl⟩ : ∃ m, k = m + 1 := ⟨k - 1, by omega⟩
  refine Pc.call (Pc.mk (h := []) ?_ rfl) g_l_times rfl rfl h
  have c := c_l_low (W := W) (k := k) (a := p.num * q.num) (h := []) (Nat.mul_pos p.den_pos q.den_pos) (den8800 hp hq) hW (by omega)
  rw [← rmul, Int.natCast_mul] at c
  rw [r_l_times, b_l_times]
  unfold fr at c ⊢
  simp only [evSs, evS, evE, evL, evO, evTs, List.getElem?_cons_zero, List.getElem?_cons_succ, List.set_cons_zero, List.set_cons_succ, truth, cltI, cleI, cgtI, cgeI, ceqI, cneI, gt0, gt1, gt2, gt3, gl0, gl1, addI, subI, fin_rt, fin_nx, mulB hp.1 hq.1, mulB (denB hp) (denB hq), c]
theorem c_l_under (hp : fits p) (hq : fits q) (hk : 1 ≤ k) : callD GG (runF GG W k) j_l_under [fr p, fr q] h = .ok (.bl (decide (p < q))) h := by
  obtain ⟨k, rfl⟩ : ∃ m, k = m + 1 := ⟨k - 1, by omega⟩
  refine Pc.call (Pc.mk (h := []) ?_ rfl) g_l_under rfl rfl h
  have e : decide (p < q) = decide (p.num * q.den < q.num * p.den) := decide_eq_decide.2 (Rat.lt_iff p q)
  rw [r_l_under, b_l_under, e]
  unfold fr
  simp only [evSs, evS, evE, evL, evO, evTs, List.getElem?_cons_zero, List.getElem?_cons_succ, List.set_cons_zero, List.set_cons_succ, truth, cltI, cleI, cgtI, cgeI, ceqI, cneI, gt0, gt1, gt2, gt3, gl0, gl1, addI, subI, fin_rt, fin_nx, mulB hp.1 (denB hq), mulB hq.1 (denB hp)]
end
section
variable {W : Nat}
theorem zz : (MV.tup [.int 0, .int 1]) = fr 0 := rfl
theorem oo : (MV.tup [.int 1, .int 1]) = fr 1 := rfl
/-! ### mixing -/
theorem c_l_mix {k n c : Nat} {h : MH} {bs : Bs} (hb : bs.ok) (h0 : 0 < bs.list.length) (h5 : bs.list.length ≤ 5) (hs : bs.size ≤ 14) (hn : 3 ≤ n) (hrec : ∀ p ∈ bs.list, ∀ (k : Nat) (h : MH), n ≤ k → callD GG (runF GG W k) j_l_caps [enc p.2] h = .ok (enL (capsR p.2)) h) (hW : 20000 ≤ W) (hk : n + 1 ≤ k) :
    callD GG (runF GG W k) j_l_mix [enc (.st c bs)] h = .ok (enL (mixL (capsP bs))) h := by
  obtain ⟨k, rfl⟩ : ∃ m, k = m + 1 := ⟨k - 1, by omega⟩
  refine Pc.call (Pc.mk (h := []) ?_ (fix_enL _)) g_l_mix rfl (fixL1 (fix_enc _) fixL0) h
  obtain ⟨V, M, F⟩ := ford hb
  have st := Bs.steps_lt hb
  obtain ⟨_, g2, _⟩ := sames hb
  have Ml : M ≤ 2 ^ 182 := Nat.le_trans F.Ml (Nat.pow_le_pow_right (by decide) (by omega))
  have w0 : 0 < wsum (capsP bs) := wpos (fun p hp => by
      rw [capsP_map] at hp
      obtain ⟨q, hq, rfl⟩ := List.mem_map.mp hp
      exact (Bs.ok_mem hb q hq).1.1) (capsP_ne h0)
  have wl : wsum (capsP bs) ≤ 2 ^ 13 := by
    have := wsum_le hb capsR
    rw [← capsP_map] at this
    omega
  have w88 : wsum (capsP bs) < 2 ^ 8800 := Nat.lt_of_le_of_lt wl (Nat.pow_lt_pow_right (by decide) (by decide))
  have L1 := loopC_map (α := Nat × Tr) (t := .tup [.nm 3, .nm 4]) (tt := fun _ h => .ok (.bl true) h) (e := fun σ h => evE GG (runF GG W k) ce_l_mix σ h) (enc := encP) (σ := [some (enc (.st c bs)), none, none, none, none, none, none]) (h := [])
    (fun p => .int ((p.1 : Nat) : Int)) bs.list [] (fun p hp => ⟨_, st_pair, rfl, by simp only [ce_l_mix, evSs, evS, evE, evL, evO, evTs, List.getElem?_cons_zero, List.getElem?_cons_succ, List.set_cons_zero, List.set_cons_succ, truth, cltI, cleI, cgtI, cgeI, ceqI, cneI, gt0, gt1, gt2, gt3, gl0, gl1, addI, subI, fin_rt, fin_nx]⟩) (by simp; omega)
  rw [List.nil_append] at L1
  have S1 : bSum [.lst (bs.list.map fun p => .int ((p.1 : Nat) : Int))] [] = .ok (.int (wsum (capsP bs) : Nat)) [] := by
    unfold bSum
    dsimp only
    rw [intsM_map (fun p : Nat × Tr => ((p.1 : Nat) : Int))]
    dsimp only
    have e : (bs.list.map fun p => ((p.1 : Nat) : Int)) = (capsP bs).map fun p => ((p.1 : Nat) : Int) := by rw [capsP_map, List.map_map]; rfl
    rw [e, isum]
  have len : ∀ xs : List (Nat × Tr), (∀ p ∈ xs, p ∈ bs.list) → ∀ p ∈ xs, (capsR p.2).length ≤ 14 := fun xs hx p hp => by
    have hm := hx p hp
    obtain ⟨V', M', X⟩ := tabd (Bs.ok_mem hb p hm).2
    have := X.c.ln
    have := Bs.size_mem hm
    omega
  have L := loopF_fold (α := Nat × Tr) (S := Tab × Option MV × Option MV) (t := .tup [.nm 3, .nm 4]) (b := fun σ h => evSs GG (runF GG W k) W fb_l_mix σ h) (enc := encP)
    (fun s p => (s.1 ++ (capsR p.2).map (fun e => (e.1, e.2 * mkRat p.1 (wsum (capsP bs)))), some (.int p.1), some (enc p.2)))
    (fun s => [some (enc (.st c bs)), some (.int (wsum (capsP bs) : Nat)), some (enL s.1), s.2.1, s.2.2, none, none]) (fun s => [])
    (fun xs s => (∀ p ∈ xs, p ∈ bs.list) ∧ s.1.length + 14 * xs.length ≤ 1000)
    (fun p xs s i => by
      obtain ⟨i1, i2⟩ := i
      have hp := i1 p (List.mem_cons_self ..)
      have l14 := len _ i1 p (List.mem_cons_self ..)
      obtain ⟨⟨wp, w1⟩, okp⟩ := Bs.ok_mem hb p hp
      obtain ⟨V', M', X⟩ := tabd okp
      have szp := Bs.size_mem hp
      have TX := (X.tb okp (by omega)).2
      have wle : p.1 ≤ wsum (capsP bs) := sum_pos_le (List.mem_map.mpr ⟨(p.1, capsR p.2), by rw [capsP_map]; exact List.mem_map.mpr ⟨p, hp, rfl⟩, rfl⟩)
      have fw : fits (mkRat p.1 (wsum (capsP bs))) := (mkRat_nat w0 wle).fits w0 (a := 13) (b := 0) wl (by decide) (by decide)
      simp only [List.length_cons] at i2
      refine ⟨⟨fun q hq => i1 q (List.mem_cons_of_mem _ hq), by dsimp only; rw [List.length_append, List.length_map]; omega⟩, _, st_pair, ?_⟩
      have C := loopC_map (α := Rat × Rat) (t := .tup [.nm 5, .nm 6]) (tt := fun _ h => .ok (.bl true) h) (e := fun σ h => evE GG (runF GG W k) ce_l_mix_1 σ h) (enc := enP) (σ := [some (enc (.st c bs)), some (.int (wsum (capsP bs) : Nat)), some (enL s.1), some (.int p.1), some (enc p.2), none, none]) (h := [])
        (fun e => enP (e.1, e.2 * mkRat p.1 (wsum (capsP bs)))) (capsR p.2) [] (fun e he => ⟨_, st_enP, rfl, by
          simp only [ce_l_mix_1, evSs, evS, evE, evL, evO, evTs, List.getElem?_cons_zero, List.getElem?_cons_succ, List.set_cons_zero, List.set_cons_succ, truth, cltI, cleI, cgtI, cgeI, ceqI, cneI, gt0, gt1, gt2, gt3, gl0, gl1, addI, subI, fin_rt, fin_nx, c_l_low w0 w88 hW (show 1 ≤ k by omega), c_l_times (TX.f2 he) fw hW (show 2 ≤ k by omega)]
          rfl⟩) (by simp; omega)
      rw [List.nil_append] at C
      have a1 : bop .add (.lst (s.1.map enP)) (.lst ((capsR p.2).map fun e => enP (e.1, e.2 * mkRat p.1 (wsum (capsP bs))))) [] = .ok (.lst (s.1.map enP ++ (capsR p.2).map fun e => enP (e.1, e.2 * mkRat p.1 (wsum (capsP bs))))) [] := addL (by simp; omega)
      have R := hrec p hp k [] (by omega)
      simp only [enL] at C R ⊢
      simp only [fb_l_mix, evSs, evS, evE, evL, evO, evTs, List.getElem?_cons_zero, List.getElem?_cons_succ, List.set_cons_zero, List.set_cons_succ, truth, cltI, cleI, cgtI, cgeI, ceqI, cneI, gt0, gt1, gt2, gt3, gl0, gl1, addI, subI, fin_rt, fin_nx, specB, seqOf, R, wipeM, C, a1]
      congr 3
      rw [List.map_append, List.map_map]
      rfl)
    bs.list ([], none, none) ⟨fun _ z => z, by simp only [List.length_nil]; omega⟩
  have L2 := L.1
  dsimp only at L2
  rw [foldl_fst (g := fun (a : Tab) (p : Nat × Tr) => a ++ (capsR p.2).map (fun e => (e.1, e.2 * mkRat p.1 (wsum (capsP bs))))) (fun _ _ => rfl)] at L2
  have e2 : bs.list.foldl (fun (a : Tab) (p : Nat × Tr) => a ++ (capsR p.2).map (fun e => (e.1, e.2 * mkRat p.1 (wsum (capsP bs))))) [] = mixL (capsP bs) := by
    have key : ∀ (Wn : Nat) (l : List (Nat × Tr)) (a : Tab), l.foldl (fun (a : Tab) (p : Nat × Tr) => a ++ (capsR p.2).map (fun e => (e.1, e.2 * mkRat p.1 Wn))) a = a ++ (l.map fun p => (p.1, capsR p.2)).flatMap fun p => p.2.map fun e => (e.1, e.2 * mkRat p.1 Wn) := by
      intro Wn l
      induction l with
      | nil => intro a; simp
      | cons p l ih => intro a; rw [List.foldl_cons, ih]; simp
    rw [key]
    unfold mixL
    rw [← capsP_map]
    rfl
  rw [e2] at L2
  rw [r_l_mix, b_l_mix]
  have L2' : loopF (.tup [.nm 3, .nm 4]) (fun σ h => evSs GG (runF GG W k) W fb_l_mix σ h) (bs.list.map encP) [some (enc (.st c bs)), some (.int (wsum (capsP bs) : Nat)), some (.lst []), none, none, none, none] [] = _ := L2
  simp only [enc, encB_map] at L1 L2' ⊢
  simp only [evSs, evS, evE, evL, evO, evTs, List.getElem?_cons_zero, List.getElem?_cons_succ, List.set_cons_zero, List.set_cons_succ, truth, cltI, cleI, cgtI, cgeI, ceqI, cneI, gt0, gt1, gt2, gt3, gl0, gl1, addI, subI, fin_rt, fin_nx, evI, specB, seqOf, wipeM, L1, blt, S1, st_pair, L2']
/-! ### the law's strike -/
theorem part_fold (v : Rat) : ∀ (l : Tab) (a b : Rat), l.foldl (fun (s : Rat × Rat) e => if !decide (e.1 < v) then (s.1 + e.1 * e.2, s.2 + e.2) else s) (a, b) = (a + mean (part l v), b + mass (part l v))
  | [], a, b => by
    show (a, b) = (a + 0, b + 0)
    rw [Rat.add_zero, Rat.add_zero]
  | e :: l, a, b => by
    rw [List.foldl_cons]
    unfold part
    rw [List.filter_cons]
    cases c : !decide (e.1 < v) with
    | true =>
      simp only [if_true]
      have := part_fold v l (a + e.1 * e.2) (b + e.2)
      rw [this]
      unfold part mean mass
      rw [E_cons, E_cons]
      congr 1 <;> grind
    | false =>
      simp only [Bool.false_eq_true, if_false]
      have := part_fold v l a b
      rw [this]
      rfl
theorem c_l_inner {k : Nat} {l : Tab} {v : Rat} {c : Nat} {V M : Nat} (T : TB l V M 1365 195) (hc : c ≤ 1000000) (fv : fits v) (hW : 20000 ≤ W) (hk : 3 ≤ k) {s0 s1 s2 s3 s4 s5 : Option MV} (s8 s9 : Option MV) (h3 : s3 = some (fr v)) :
    ∃ s8' s9', loopF (.tup [.nm 8, .nm 9]) (fun σ h => evSs GG (runF GG W k) W fb_l_strike σ h) (l.map enP) [s0, s1, s2, s3, s4, s5, some (fr (-(c : Rat))), some (fr 0), s8, s9] [] =
      .nx [s0, s1, s2, s3, s4, s5, some (fr (-(c : Rat) + mean (part l v))), some (fr (mass (part l v))), s8', s9'] [] ∧
      Bd (V * M) (1001 * 2 ^ 24) (-(c : Rat) + mean (part l v)) ∧ Bd M 1000 (mass (part l v)) := by
  subst h3
  have VM : V * M ≤ 2 ^ (1365 + 195) := by rw [Nat.pow_add]; exact Nat.mul_le_mul T.Vv T.Mu
  have VM0 : 0 < V * M := Nat.mul_pos T.V0 T.M0
  have L := loopF_fold (α := Rat × Rat) (S := (Rat × Rat) × Option MV × Option MV) (t := .tup [.nm 8, .nm 9]) (b := fun σ h => evSs GG (runF GG W k) W fb_l_strike σ h) (enc := enP)
    (fun s e => ((if !decide (e.1 < v) then (s.1.1 + e.1 * e.2, s.1.2 + e.2) else s.1), some (fr e.1), some (fr e.2)))
    (fun s => [s0, s1, s2, some (fr v), s4, s5, some (fr s.1.1), some (fr s.1.2), s.2.1, s.2.2]) (fun _ => [])
    (fun xs s => (∀ e ∈ xs, e ∈ l) ∧ ∃ n, Bd (V * M) ((n + 1) * 2 ^ 24) s.1.1 ∧ Bd M n s.1.2 ∧ n + xs.length ≤ 1000)
    (fun e xs s i => by
      obtain ⟨i1, n, i2, i3, i4⟩ := i
      have he := i1 e (List.mem_cons_self ..)
      obtain ⟨b1, b2, _⟩ := T.el e he
      simp only [List.length_cons] at i4
      have f1 := T.f1 he
      have f2 := T.f2 he
      have bx : Bd (V * M) (2 ^ 24) (e.1 * e.2) := by have := b1.mul b2; rwa [Nat.mul_one] at this
      have fx : fits (e.1 * e.2) := bx.fits VM0 VM (Nat.le_refl _) (by decide)
      have fm : fits s.1.1 := i2.fits VM0 VM (b := 34) (by rw [show 34 = 10 + 24 from rfl, Nat.pow_add]; exact Nat.mul_le_mul_right _ (by omega)) (by decide)
      have fs : fits s.1.2 := i3.fits T.M0 T.Mu (b := 10) (by omega) (by decide)
      by_cases c : e.1 < v
      · refine ⟨⟨fun x hx => i1 x (List.mem_cons_of_mem _ hx), n, ?_⟩, _, st_enP, ?_⟩
        · simp only [c, decide_true, Bool.not_true, Bool.false_eq_true, if_false]
          exact ⟨i2, i3, by omega⟩
        · simp only [fb_l_strike, evSs, evS, evE, evL, evO, evTs, List.getElem?_cons_zero, List.getElem?_cons_succ, List.set_cons_zero, List.set_cons_succ, truth, cltI, cleI, cgtI, cgeI, ceqI, cneI, gt0, gt1, gt2, gt3, gl0, gl1, addI, subI, fin_rt, fin_nx, c_l_under f1 fv (show 1 ≤ k by omega), c, decide_true, Bool.not_true, Bool.false_eq_true, if_false]
      · refine ⟨⟨fun x hx => i1 x (List.mem_cons_of_mem _ hx), n + 1, ?_⟩, _, st_enP, ?_⟩
        · simp only [c, decide_false, Bool.not_false, if_true]
          refine ⟨?_, i3.add b2, by omega⟩
          rw [Nat.add_mul (n + 1), Nat.one_mul]
          exact i2.add bx
        · simp only [fb_l_strike, evSs, evS, evE, evL, evO, evTs, List.getElem?_cons_zero, List.getElem?_cons_succ, List.set_cons_zero, List.set_cons_succ, truth, cltI, cleI, cgtI, cgeI, ceqI, cneI, gt0, gt1, gt2, gt3, gl0, gl1, addI, subI, fin_rt, fin_nx, c_l_under f1 fv (show 1 ≤ k by omega), c, decide_false, Bool.not_false, if_true, c_l_times f1 f2 hW (show 2 ≤ k by omega), c_l_sum fm fx hW (show 2 ≤ k by omega), c_l_sum fs f2 hW (show 2 ≤ k by omega)])
    l ((-(c : Rat), 0), s8, s9) ⟨fun _ z => z, 0, by
      have : Bd (V * M) (2 ^ 24) ((c : Int) : Rat) := Bd.int (by omega)
      rw [Rat.intCast_natCast] at this
      rw [Nat.zero_add, Nat.one_mul]
      exact this.neg, Bd.zero, by have := T.ln; omega⟩
  have L1 := L.1
  obtain ⟨_, n, i2, i3, i4⟩ := L.2
  dsimp only at L1
  rw [foldl_fst (g := fun (s : Rat × Rat) (e : Rat × Rat) => if !decide (e.1 < v) then (s.1 + e.1 * e.2, s.2 + e.2) else s) (fun _ _ => rfl)] at L1 i2 i3
  rw [part_fold] at L1 i2 i3
  dsimp only at L1 i2 i3
  rw [Rat.zero_add] at L1 i3
  simp only [List.length_nil] at i4
  exact ⟨_, _, L1, i2.weak (Nat.mul_le_mul_right _ (by omega)), i3.weak (by omega)⟩
def optB : Option Rat → MV
  | none => .non
  | some q => fr q
theorem c_l_strike {k n c : Nat} {h : MH} {bs : Bs} (hb : bs.ok) (h0 : 0 < bs.list.length) (h5 : bs.list.length ≤ 5) (hs : bs.size ≤ 14) (hc : c ≤ 1000000) (hn : 3 ≤ n) (hrec : ∀ p ∈ bs.list, ∀ (k : Nat) (h : MH), n ≤ k → callD GG (runF GG W k) j_l_caps [enc p.2] h = .ok (enL (capsR p.2)) h) (hW : 20000 ≤ W) (hk : n + 2 ≤ k) :
    callD GG (runF GG W k) j_l_strike [enc (.st c bs)] h = .ok (fr (lawStrike (mixL (capsP bs)) c)) h := by
  obtain ⟨k, rfl⟩ : ∃ m, k = m + 1 := ⟨k - 1, by omega⟩
  refine Pc.call (Pc.mk (h := []) ?_ fix_fr) g_l_strike rfl (fixL1 (fix_enc _) fixL0) h
  have C := c_l_mix (W := W) (k := k) (h := []) (c := c) hb h0 h5 hs hn hrec hW (by omega)
  obtain ⟨V, M0, F⟩ := ford hb
  obtain ⟨M, X⟩ := F.mix hb h0 h5
  have T := (X.tb hb h0 hs).2
  have G := (good_below hb h0).2
  generalize hl : mixL (capsP bs) = l at *
  have VM : V * M ≤ 2 ^ (1365 + 195) := by rw [Nat.pow_add]; exact Nat.mul_le_mul T.Vv T.Mu
  have VM0 : 0 < V * M := Nat.mul_pos T.V0 T.M0
  have fr_ : ∀ e ∈ l, fits (ratio l c e.1) ∧ fits (-(c : Rat) + mean (part l e.1)) ∧ fits (mass (part l e.1)) ∧ 0 < mass (part l e.1) := by
    intro e he
    obtain ⟨_, _, _, b1, b2⟩ := c_l_inner (W := W) (k := k) (c := c) T hc (T.f1 he) hW (by omega) (s0 := none) (s1 := none) (s2 := none) (s4 := none) (s5 := none) none none rfl
    have mp := mass_pos (part_pos G.pos e.1) (List.ne_nil_of_mem (part_mem he))
    have b35 : 1001 * 2 ^ 24 ≤ 2 ^ 35 := by decide +kernel
    obtain ⟨m, m0, m1, bq⟩ := b1.div b2 mp T.M0
    refine ⟨?_, b1.fits VM0 VM b35 (by decide), b2.fits T.M0 T.Mu (b := 10) (by decide) (by decide), mp⟩
    refine bq.fits (Nat.mul_pos VM0 m0) (a := 1365 + 195 + (10 + 195)) (b := 35 + 195) ?_ ?_ (by decide)
    · rw [Nat.pow_add 2 (1365 + 195)]
      exact Nat.mul_le_mul VM (Nat.le_trans m1 (by rw [Nat.pow_add]; exact Nat.mul_le_mul (by decide) T.Mu))
    · rw [Nat.pow_add]; exact Nat.mul_le_mul b35 T.Mu
  -- one turn
  have turn : ∀ (e : Rat × Rat), e ∈ l → ∀ (b : Option Rat) (s5 s6 s7 s8 s9 : Option MV), (∀ z, b = some z → fits z) → ∃ s5' s6' s7' s8' s9',
      evSs GG (runF GG W k) W fb_l_strike_1 [some (enc (.st c bs)), some (enL l), some (optB b), some (fr e.1), some (fr e.2), s5, s6, s7, s8, s9] [] =
      .nx [some (enc (.st c bs)), some (enL l), some (optB (mxO b (ratio l c e.1))), some (fr e.1), some (fr e.2), s5', s6', s7', s8', s9'] [] := by
    intro e he b s5 s6 s7 s8 s9 hb'
    obtain ⟨f1, f2, f3, mp⟩ := fr_ e he
    obtain ⟨s8', s9', I, _, _⟩ := c_l_inner (W := W) (k := k) (c := c) T hc (T.f1 he) hW (by omega) (s0 := some (enc (.st c bs))) (s1 := some (enL l)) (s2 := some (optB b)) (s4 := some (fr e.2)) (s5 := s5) s8 s9 rfl
    have ng : MV.tup [.int (-(c : Int)), .int 1] = fr (-(c : Rat)) := by
      have : (-(c : Rat)) = ((-(c : Int) : Int) : Rat) := by rw [Rat.intCast_neg, Rat.intCast_natCast]
      rw [this]
      rfl
    have hn' : 0 < (mass (part l e.1)).num := num_pos' mp
    have C1 := c_l_low (W := W) (k := k) (h := []) (a := (-(c : Rat) + mean (part l e.1)).num * (mass (part l e.1)).den) (b := (-(c : Rat) + mean (part l e.1)).den * (mass (part l e.1)).num.natAbs) (Nat.mul_pos (Rat.den_pos _) (by omega)) (Nat.lt_of_lt_of_le (Nat.mul_lt_mul'' f2.2 f3.1) BB_mul) hW (by omega)
    rw [← rdiv _ _ mp, Int.natCast_mul, show ((mass (part l e.1)).num.natAbs : Int) = (mass (part l e.1)).num by omega] at C1
    have er : (-(c : Rat) + mean (part l e.1)) / mass (part l e.1) = ratio l c e.1 := rfl
    rw [er] at C1
    have m1 := mulB (h := []) f2.1 (denB f3)
    have m2 := mulB (h := []) (denB f2) f3.1
    have g0 : getIx GG (enc (.st c bs)) (.int 1) [] = .ok (.int c) [] := by rw [enc]; exact gt1
    have i0 : getIx GG (fr (-(c : Rat) + mean (part l e.1))) (.int 0) [] = .ok (.int (-(c : Rat) + mean (part l e.1)).num) [] := gt0
    have i1 : getIx GG (fr (-(c : Rat) + mean (part l e.1))) (.int 1) [] = .ok (.int (-(c : Rat) + mean (part l e.1)).den) [] := gt1
    have i2 : getIx GG (fr (mass (part l e.1))) (.int 0) [] = .ok (.int (mass (part l e.1)).num) [] := gt0
    have i3 : getIx GG (fr (mass (part l e.1))) (.int 1) [] = .ok (.int (mass (part l e.1)).den) [] := gt1
    simp only [enL] at I ⊢
    cases b with
    | none =>
      simp only [optB] at I
      exact ⟨_, _, _, _, _, by simp only [fb_l_strike_1, evSs, evS, evE, evL, evO, evTs, List.getElem?_cons_zero, List.getElem?_cons_succ, List.set_cons_zero, List.set_cons_succ, truth, cltI, cleI, cgtI, cgeI, ceqI, cneI, gt0, gt1, gt2, gt3, gl0, gl1, addI, subI, fin_rt, fin_nx, optB, mxO, g0, ng, zz, evI, specB, seqOf, I, i0, i1, i2, i3, m1, m2, C1]; rfl⟩
    | some z =>
      simp only [optB] at I
      have C2 := c_l_under (W := W) (k := k) (h := []) (hb' z rfl) f1 (by omega)
      have zt : fr z = .tup [.int z.num, .int z.den] := rfl
      by_cases q : z < ratio l c e.1
      · simp only [q, decide_true] at C2
        rw [zt] at C2 I
        exact ⟨_, _, _, _, _, by simp only [fb_l_strike_1, evSs, evS, evE, evL, evO, evTs, List.getElem?_cons_zero, List.getElem?_cons_succ, List.set_cons_zero, List.set_cons_succ, truth, cltI, cleI, cgtI, cgeI, ceqI, cneI, gt0, gt1, gt2, gt3, gl0, gl1, addI, subI, fin_rt, fin_nx, optB, mxO, zt, g0, ng, zz, evI, specB, seqOf, I, i0, i1, i2, i3, m1, m2, C1, C2, q, if_true]; rfl⟩
      · simp only [q, decide_false] at C2
        rw [zt] at C2 I
        exact ⟨_, _, _, _, _, by simp only [fb_l_strike_1, evSs, evS, evE, evL, evO, evTs, List.getElem?_cons_zero, List.getElem?_cons_succ, List.set_cons_zero, List.set_cons_succ, truth, cltI, cleI, cgtI, cgeI, ceqI, cneI, gt0, gt1, gt2, gt3, gl0, gl1, addI, subI, fin_rt, fin_nx, optB, mxO, zt, g0, ng, zz, evI, specB, seqOf, I, i0, i1, i2, i3, m1, m2, C1, C2, q, if_false]; rfl⟩
  have loop : ∀ (xs : Tab), (∀ e ∈ xs, e ∈ l) → ∀ (b : Option Rat) (s3 s4 s5 s6 s7 s8 s9 : Option MV), (∀ z, b = some z → fits z) → ∃ s3' s4' s5' s6' s7' s8' s9',
      loopF (.tup [.nm 3, .nm 4]) (fun σ h => evSs GG (runF GG W k) W fb_l_strike_1 σ h) (xs.map enP) [some (enc (.st c bs)), some (enL l), some (optB b), s3, s4, s5, s6, s7, s8, s9] [] =
      .nx [some (enc (.st c bs)), some (enL l), some (optB (maxF (xs.map fun e => ratio l c e.1) b)), s3', s4', s5', s6', s7', s8', s9'] [] := by
    intro xs
    induction xs with
    | nil => intro _ b s3 s4 s5 s6 s7 s8 s9 _; exact ⟨_, _, _, _, _, _, _, rfl⟩
    | cons e xs ih =>
      intro hx b s3 s4 s5 s6 s7 s8 s9 hb'
      have he := hx e (List.mem_cons_self ..)
      obtain ⟨t5, t6, t7, t8, t9, E⟩ := turn e he b s5 s6 s7 s8 s9 hb'
      obtain ⟨u3, u4, u5, u6, u7, u8, u9, I⟩ := ih (fun y hy => hx y (List.mem_cons_of_mem _ hy)) (mxO b (ratio l c e.1)) (some (fr e.1)) (some (fr e.2)) t5 t6 t7 t8 t9 (fun z hz => by
        have fe := (fr_ e he).1
        cases b with
        | none => cases hz; exact fe
        | some y =>
          cases hz
          split
          · exact fe
          · exact hb' y rfl)
      refine ⟨u3, u4, u5, u6, u7, u8, u9, ?_⟩
      rw [List.map_cons, loopF, st_enP]
      dsimp only
      have E' : evSs GG (runF GG W k) W fb_l_strike_1 ((([some (enc (.st c bs)), some (enL l), some (optB b), s3, s4, s5, s6, s7, s8, s9] : MS).set 3 (some (fr e.1))).set 4 (some (fr e.2))) [] = _ := E
      rw [E']
      exact I
  obtain ⟨u3, u4, u5, u6, u7, u8, u9, I⟩ := loop l (fun _ z => z) none none none none none none none none (fun _ z => nomatch z)
  have ms : maxF (l.map fun e => ratio l c e.1) none = some (lawStrike l c) := by
    cases l with
    | nil => exact absurd rfl G.ne
    | cons a l =>
      obtain ⟨z, h1, _⟩ := maxF_ok (l.map fun e => ratio (a :: l) c e.1) (ratio (a :: l) c a.1)
      have : maxF ((a :: l).map fun e => ratio (a :: l) c e.1) none = maxF (l.map fun e => ratio (a :: l) c e.1) (some (ratio (a :: l) c a.1)) := rfl
      unfold lawStrike
      rw [this, h1]
      rfl
  rw [ms] at I
  have nb : (MV.non) = optB none := rfl
  rw [r_l_strike, b_l_strike]
  have g : getIx GG (enc (.st c bs)) (.int 0) [] = .ok (.str sStep) [] := by rw [enc]; exact gt0
  simp only [evSs, evS, evE, evL, evO, evTs, List.getElem?_cons_zero, List.getElem?_cons_succ, List.set_cons_zero, List.set_cons_succ, truth, cltI, cleI, cgtI, cgeI, ceqI, cneI, gt0, gt1, gt2, gt3, gl0, gl1, addI, subI, fin_rt, fin_nx, g, eSE, C]
  simp only [enL] at I ⊢
  simp only [optB] at I
  simp only [evSs, evS, evE, evL, evO, evTs, List.getElem?_cons_zero, List.getElem?_cons_succ, List.set_cons_zero, List.set_cons_succ, truth, cltI, cleI, cgtI, cgeI, ceqI, cneI, gt0, gt1, gt2, gt3, gl0, gl1, addI, subI, fin_rt, fin_nx, evI, specB, seqOf, I]
/-! ### the law's caps -/
mutual
theorem c_l_caps : ∀ (t : Tr) (k : Nat) (h : MH), t.ok → t.size ≤ 15 → 20000 ≤ W → 3 * t.deep + 5 ≤ k → callD GG (runF GG W k) j_l_caps [enc t] h = .ok (enL (capsR t)) h
  | .en w, k, h, ok, hs, hW, hk => by
    obtain ⟨k, rfl⟩ : ∃ m, k = m + 1 := ⟨k - 1, by omega⟩
    refine Pc.call (Pc.mk (h := []) ?_ (fix_enL _)) g_l_caps rfl (fixL1 (fix_enc _) fixL0) h
    rw [r_l_caps, b_l_caps]
    simp only [enc, evSs, evS, evE, evL, evO, evTs, List.getElem?_cons_zero, List.getElem?_cons_succ, List.set_cons_zero, List.set_cons_succ, truth, cltI, cleI, cgtI, cgeI, ceqI, cneI, gt0, gt1, gt2, gt3, gl0, gl1, addI, subI, fin_rt, fin_nx, eEE]
    rw [capsR]
    rfl
  | .st c bs, k, h, ok, hs, hW, hk => by
    obtain ⟨k, rfl⟩ : ∃ m, k = m + 1 := ⟨k - 1, by omega⟩
    refine Pc.call (Pc.mk (h := []) ?_ (fix_enL _)) g_l_caps rfl (fixL1 (fix_enc _) fixL0) h
    have ok' := ok
    rw [Tr.ok] at ok
    obtain ⟨hc, h0, h5, hb⟩ := ok
    have hs' : bs.size ≤ 14 := by simp only [Tr.size] at hs; omega
    simp only [Tr.deep] at hk
    have hrec : ∀ p ∈ bs.list, ∀ (k : Nat) (h : MH), 3 * bs.deep + 5 ≤ k → callD GG (runF GG W k) j_l_caps [enc p.2] h = .ok (enL (capsR p.2)) h := fun p hp k h hk => c_l_capss bs k h hb (by omega) hW hk p hp
    have C1 := c_l_mix (W := W) (k := k) (h := []) (c := c) hb h0 h5 hs' (by omega) hrec hW (by omega)
    have C2 := c_l_strike (W := W) (k := k) (h := []) hb h0 h5 hs' hc (by omega) hrec hW (by omega)
    obtain ⟨V, M0, F⟩ := ford hb
    obtain ⟨M, X⟩ := F.mix hb h0 h5
    have T := (X.tb hb h0 hs').2
    have fz : fits (lawStrike (mixL (capsP bs)) c) := by
      have := fits_strike ok' hs
      rw [(same ok').2.2.2] at this
      exact this
    have L := loopC_map (α := Rat × Rat) (t := .tup [.nm 2, .nm 3]) (tt := fun _ h => .ok (.bl true) h) (e := fun σ h => evE GG (runF GG W k) ce_l_caps σ h) (enc := enP) (σ := [some (enc (.st c bs)), some (fr (lawStrike (mixL (capsP bs)) c)), none, none]) (h := [])
      (fun e => enP (mn e.1 (lawStrike (mixL (capsP bs)) c), e.2)) (mixL (capsP bs)) [] (fun e he => ⟨_, st_enP, rfl, by
        have C3 := c_l_under (W := W) (k := k) (h := []) fz (T.f1 he) (by omega)
        unfold mn
        by_cases q : lawStrike (mixL (capsP bs)) c < e.1
        · simp only [ce_l_caps, evSs, evS, evE, evL, evO, evTs, List.getElem?_cons_zero, List.getElem?_cons_succ, List.set_cons_zero, List.set_cons_succ, truth, cltI, cleI, cgtI, cgeI, ceqI, cneI, gt0, gt1, gt2, gt3, gl0, gl1, addI, subI, fin_rt, fin_nx, C3, q, decide_true, if_true]
          rfl
        · simp only [ce_l_caps, evSs, evS, evE, evL, evO, evTs, List.getElem?_cons_zero, List.getElem?_cons_succ, List.set_cons_zero, List.set_cons_succ, truth, cltI, cleI, cgtI, cgeI, ceqI, cneI, gt0, gt1, gt2, gt3, gl0, gl1, addI, subI, fin_rt, fin_nx, C3, q, decide_false, if_false]
          rfl⟩) (by have := T.ln; simp; omega)
    rw [List.nil_append] at L
    have g : getIx GG (enc (.st c bs)) (.int 0) [] = .ok (.str sStep) [] := by rw [enc]; exact gt0
    rw [r_l_caps, b_l_caps]
    simp only [enL] at C1 ⊢
    simp only [evSs, evS, evE, evL, evO, evTs, List.getElem?_cons_zero, List.getElem?_cons_succ, List.set_cons_zero, List.set_cons_succ, truth, cltI, cleI, cgtI, cgeI, ceqI, cneI, gt0, gt1, gt2, gt3, gl0, gl1, addI, subI, fin_rt, fin_nx, g, eSE, C1, C2, specB, seqOf, wipeM, L]
    rw [capsR]
    unfold capL
    rw [List.map_map]
    rfl
theorem c_l_capss : ∀ (bs : Bs) (k : Nat) (h : MH), bs.ok → bs.size ≤ 15 → 20000 ≤ W → 3 * bs.deep + 5 ≤ k → ∀ p ∈ bs.list, callD GG (runF GG W k) j_l_caps [enc p.2] h = .ok (enL (capsR p.2)) h
  | .nil, _, _, _, _, _, _ => fun p hp => by cases hp
  | .cons w t bs, k, h, ok, hs, hW, hk => fun p hp => by
    rw [Bs.ok] at ok
    simp only [Bs.size] at hs
    simp only [Bs.deep] at hk
    rw [Bs.list] at hp
    rcases List.mem_cons.mp hp with rfl | hp
    · exact c_l_caps t k h ok.2.1 (by omega) hW (by omega)
    · exact c_l_capss bs k h ok.2.2 (by omega) hW (by omega) p hp
end
end
end Lw

namespace Lw
open PySem L2 Mi
/-! L1g: the law's own gaps and rests (k75). -/
section
variable {W k : Nat} {p q : Rat} {h : MH}
theorem c_l_gap (hp : fits p) (hq : fits q) (hW : 20000 ≤ W) (hk : 2 ≤ k) : callD GG (runF GG W k) j_l_gap [fr p, fr q] h = .ok (fr (p - q)) h := by
  obtain ⟨k, rfl⟩ : ∃ m, k = m + 1 := ⟨k - 1, by omega⟩
  refine Pc.call (Pc.mk (h := []) ?_ rfl) g_l_gap rfl rfl h
  have c := c_l_low (W := W) (k := k) (a := p.num * q.den - q.num * p.den) (h := []) (Nat.mul_pos p.den_pos q.den_pos) (den8800 hp hq) hW (by omega)
  rw [← rsub, Int.natCast_mul] at c
  rw [r_l_gap, b_l_gap]
  unfold fr at c ⊢
  simp only [evSs, evS, evE, evL, evO, evTs, List.getElem?_cons_zero, List.getElem?_cons_succ, List.set_cons_zero, List.set_cons_succ, truth, cltI, cleI, cgtI, cgeI, ceqI, cneI, gt0, gt1, gt2, gt3, gl0, gl1, addI, subI, fin_rt, fin_nx, mulB hp.1 (denB hq), mulB hq.1 (denB hp), mulB (denB hp) (denB hq), c]
end
section
variable {W : Nat}
/-! ### the law's rests -/
theorem above_fold (m : Rat) : ∀ (l : Tab) (a : Rat), l.foldl (fun (s : Rat) e => if m < e.1 then s + (e.1 - m) * e.2 else s) a = a + rst l m
  | [], a => by show a = a + 0; rw [Rat.add_zero]
  | e :: l, a => by
    rw [List.foldl_cons, above_fold m l]
    unfold rst
    rw [E_cons]
    unfold pos
    by_cases c : m < e.1
    · rw [if_pos c, if_pos (by grind)]; grind
    · rw [if_neg c, if_neg (by grind)]; grind
theorem c_l_above {k : Nat} {h : MH} {l : Tab} {V M : Nat} (T : TB l V M 1365 195) {m : Rat} {V' : Nat} (hm : Bd V' (2 ^ 24) m) (V0 : 0 < V') (Vl : V' ≤ 2 ^ 1400) (hW : 20000 ≤ W) (hk : 3 ≤ k) :
    callD GG (runF GG W k) j_l_above [enL l, fr m] h = .ok (fr (rst l m)) h := by
  obtain ⟨k, rfl⟩ : ∃ m, k = m + 1 := ⟨k - 1, by omega⟩
  refine Pc.call (Pc.mk (h := []) ?_ fix_fr) g_l_above rfl (fixL1 (fix_enL _) (fixL1 fix_fr fixL0)) h
  have fm := (T.ma hm V0 Vl).fm
  have VV : V * V' ≤ 2 ^ (1365 + 1400) := by rw [Nat.pow_add]; exact Nat.mul_le_mul T.Vv Vl
  have VV0 : 0 < V * V' := Nat.mul_pos T.V0 V0
  have MVV : M * (V * V') ≤ 2 ^ (195 + (1365 + 1400)) := by rw [Nat.pow_add 2 195]; exact Nat.mul_le_mul T.Mu VV
  have MVV0 : 0 < M * (V * V') := Nat.mul_pos T.M0 VV0
  have bx : ∀ e ∈ l, Bd (V * V') (2 ^ 24 + 2 ^ 24) (e.1 - m) := fun e he => ((T.el e he).1.mulR V').sub (hm.mulL V)
  have by_ : ∀ e ∈ l, Bd (M * (V * V')) (2 ^ 25) ((e.1 - m) * e.2) := fun e he => by
    have := (T.el e he).2.1.mul (bx e he)
    rw [Rat.mul_comm] at this
    exact this.weak (by decide +kernel)
  have L := loopF_fold (α := Rat × Rat) (S := Rat × Option MV × Option MV) (t := .tup [.nm 3, .nm 4]) (b := fun σ h => evSs GG (runF GG W k) W fb_l_above σ h) (enc := enP)
    (fun s e => ((if m < e.1 then s.1 + (e.1 - m) * e.2 else s.1), some (fr e.1), some (fr e.2)))
    (fun s => [some (enL l), some (fr m), some (fr s.1), s.2.1, s.2.2]) (fun _ => [])
    (fun xs s => (∀ e ∈ xs, e ∈ l) ∧ ∃ n, Bd (M * (V * V')) (n * 2 ^ 25) s.1 ∧ n + xs.length ≤ 1000)
    (fun e xs s i => by
      obtain ⟨i1, n, i2, i4⟩ := i
      have he := i1 e (List.mem_cons_self ..)
      simp only [List.length_cons] at i4
      have f1 := T.f1 he
      have f2 := T.f2 he
      have f3 : fits (e.1 - m) := (bx e he).fits VV0 VV (b := 25) (by decide +kernel) (by decide)
      have f4 : fits ((e.1 - m) * e.2) := (by_ e he).fits MVV0 MVV (Nat.le_refl _) (by decide)
      have f5 : fits s.1 := i2.fits MVV0 MVV (b := 35) (by rw [show 35 = 10 + 25 from rfl, Nat.pow_add]; exact Nat.mul_le_mul_right _ (by omega)) (by decide)
      by_cases c : m < e.1
      · refine ⟨⟨fun x hx => i1 x (List.mem_cons_of_mem _ hx), n + 1, ?_, by omega⟩, _, st_enP, ?_⟩
        · simp only [c, if_true]
          rw [Nat.add_mul, Nat.one_mul]
          exact i2.add (by_ e he)
        · simp only [fb_l_above, evSs, evS, evE, evL, evO, evTs, List.getElem?_cons_zero, List.getElem?_cons_succ, List.set_cons_zero, List.set_cons_succ, truth, cltI, cleI, cgtI, cgeI, ceqI, cneI, gt0, gt1, gt2, gt3, gl0, gl1, addI, subI, fin_rt, fin_nx, c_l_under fm f1 (show 1 ≤ k by omega), c, decide_true, if_true, c_l_gap f1 fm hW (show 2 ≤ k by omega), c_l_times f3 f2 hW (show 2 ≤ k by omega), c_l_sum f5 f4 hW (show 2 ≤ k by omega)]
      · refine ⟨⟨fun x hx => i1 x (List.mem_cons_of_mem _ hx), n, ?_, by omega⟩, _, st_enP, ?_⟩
        · simp only [c, if_false]
          exact i2
        · simp only [fb_l_above, evSs, evS, evE, evL, evO, evTs, List.getElem?_cons_zero, List.getElem?_cons_succ, List.set_cons_zero, List.set_cons_succ, truth, cltI, cleI, cgtI, cgeI, ceqI, cneI, gt0, gt1, gt2, gt3, gl0, gl1, addI, subI, fin_rt, fin_nx, c_l_under fm f1 (show 1 ≤ k by omega), c, decide_false, if_false])
    l (0, none, none) ⟨fun _ z => z, 0, Bd.zero, by have := T.ln; omega⟩
  have L1 := L.1
  dsimp only at L1
  rw [foldl_fst (g := fun (s : Rat) (e : Rat × Rat) => if m < e.1 then s + (e.1 - m) * e.2 else s) (fun _ _ => rfl), above_fold, Rat.zero_add] at L1
  rw [r_l_above, b_l_above]
  simp only [enL] at L1 ⊢
  simp only [evSs, evS, evE, evL, evO, evTs, List.getElem?_cons_zero, List.getElem?_cons_succ, List.set_cons_zero, List.set_cons_succ, truth, cltI, cleI, cgtI, cgeI, ceqI, cneI, gt0, gt1, gt2, gt3, gl0, gl1, addI, subI, fin_rt, fin_nx, zz, evI, specB, seqOf, L1]
end
end Lw

namespace Lw
open PySem L2 Mi
/-! D1: the law's draws. -/
/-- a tray that still gives n draws -/
def Dr (h : MH) (i n : Nat) : Prop := ∃ (a b : Int) (c : Nat), h[i]? = some (.lst [.int a, .int b, .int c]) ∧ 0 ≤ b ∧ b < 2147483033 ∧ c + n ≤ 1000000
/-- other things stay -/
def Ot (i : Nat) (h h' : MH) : Prop := h.length ≤ h'.length ∧ ∀ j, j ≠ i → j < h.length → h'[j]? = h[j]?
theorem Ot.refl {i : Nat} {h : MH} : Ot i h h := ⟨Nat.le_refl _, fun _ _ _ => rfl⟩
theorem Ot.trans {i : Nat} {h h' h'' : MH} (a : Ot i h h') (b : Ot i h' h'') : Ot i h h'' := ⟨Nat.le_trans a.1 b.1, fun j hj hl => (b.2 j hj (Nat.lt_of_lt_of_le hl a.1)).trans (a.2 j hj hl)⟩
theorem Dr.mono {h : MH} {i n m : Nat} (d : Dr h i n) (hm : m ≤ n) : Dr h i m := by
  obtain ⟨a, b, c, h1, h2, h3, h4⟩ := d
  exact ⟨a, b, c, h1, h2, h3, by omega⟩
theorem Dr.lt {h : MH} {i n : Nat} (d : Dr h i n) : i < h.length := by
  obtain ⟨a, b, c, h1, _⟩ := d
  exact (List.getElem?_eq_some_iff.mp h1).1
theorem Ot.new {i : Nat} {h : MH} {o : MO} : Ot i h (h ++ [o]) := ⟨by simp, fun j _ hl => List.getElem?_append_left hl⟩
theorem Dr.new {h : MH} {i n : Nat} {o : MO} (d : Dr h i n) : Dr (h ++ [o]) i n := by
  have := d.lt
  obtain ⟨a, b, c, h1, h2⟩ := d
  exact ⟨a, b, c, by rw [List.getElem?_append_left this]; exact h1, h2⟩
theorem sm100 {i : Int} (h : i.natAbs < 2 ^ 100) : small i = true := decide_eq_true (Nat.lt_of_lt_of_le h (Nat.pow_le_pow_right (by decide) (by decide)))
theorem gLoc {G : Gm} {h : MH} {i : Nat} {l : List MV} (ht : h[i]? = some (.lst l)) (k : Int) : getIx G (.loc i) (.int k) h = (match atI l k with | some v => .ok v h | none => .bad) := by
  show (match (match h[i]? with | some (.lst l) => some l | _ => none) with | some l => (match atI l k with | some v => Out.ok v h | none => .bad) | none => .bad) = _
  rw [ht]
theorem sLoc {h : MH} {i : Nat} {l : List MV} {v : MV} (ht : h[i]? = some (.lst l)) (k : Int) : setIx (.loc i) (.int k) v h = (match ixN l.length k with | some j => some (h.set i (.lst (l.set j v))) | none => none) := by
  unfold setIx
  dsimp only
  (rw [ht]) <;> rfl
section
variable {x y z v : MV}
theorem t0 : atI [x, y, z] 0 = some x := rfl
theorem t1 : atI [x, y, z] 1 = some y := rfl
theorem t2 : atI [x, y, z] 2 = some z := rfl
theorem n0 : ixN [x, y, z].length 0 = some 0 := rfl
theorem n1 : ixN [x, y, z].length 1 = some 1 := rfl
theorem n2 : ixN [x, y, z].length 2 = some 2 := rfl
end
section
variable {W : Nat}
theorem c_spoon {k i n : Nat} {h : MH} {t : Int} (d : Dr h i (n + 1)) (h0 : 0 < t) (h1 : t < 1073741824) (hk : 1 ≤ k) : ∃ r h', 0 ≤ r ∧ r < t ∧ Dr h' i n ∧ Ot i h h' ∧ callD GG (runF GG W k) j_l_spoon [.loc i, .int t] h = .ok (.int r) h' := by
  obtain ⟨k, rfl⟩ : ∃ m, k = m + 1 := ⟨k - 1, by omega⟩
  obtain ⟨a, b, c, ht, hb0, hb1, hn⟩ := d
  have hi : i < h.length := (List.getElem?_eq_some_iff.mp ht).1
  have at' : ∀ o : MO, (h.set i o)[i]? = some o := fun o => List.getElem?_set_self hi
  have sb : small b = true := sm100 (by omega)
  have sc : small (b % 14009 + 23003) = true := sm100 (by have := Int.emod_nonneg b (show (14009 : Int) ≠ 0 by decide); have := Int.emod_lt_of_pos b (show (0 : Int) < 14009 by decide); omega)
  have sn : small ((c : Int) + 1) = true := sm100 (by omega)
  have s1 : small 10007 = true := sm100 (by decide)
  have s98 : small 98 = true := sm100 (by decide)
  have p1 : (0 : Int) < 14009 := by decide
  have p2 : (0 : Int) < 2147483033 := by decide
  have p3 : (0 : Int) < 98 := by decide
  have ot : ∀ o : MO, Ot i h (h.set i o) := fun o => ⟨by simp, fun j hj _ => List.getElem?_set_ne (Ne.symm hj)⟩
  generalize hb' : (b * (b % 14009 + 23003) + 10007 * ((c : Int) + 1) + 43) % 2147483033 = b'
  have b0 : 0 ≤ b' := by rw [← hb']; exact Int.emod_nonneg _ (by decide)
  have b1 : b' < 2147483033 := by rw [← hb']; exact Int.emod_lt_of_pos _ (by decide)
  by_cases ha : 0 < a
  · refine ⟨a % t, h.set i (.lst [.int (a / t), .int b', .int ((c : Int) + 1)]), Int.emod_nonneg _ (by omega), Int.emod_lt_of_pos _ h0, ⟨a / t, b', c + 1, at' _, b0, b1, by omega⟩, ot _, ?_⟩
    rw [i_l_spoon, r_l_spoon, b_l_spoon]
    simp only [evSs, evS, evE, evL, evO, evTs, List.getElem?_cons_zero, List.getElem?_cons_succ, List.set_cons_zero, List.set_cons_succ, truth, cltI, cleI, cgtI, cgeI, ceqI, cneI, gt0, gt1, gt2, gt3, gl0, gl1, addI, subI, fin_rt, fin_nx, gLoc ht, sLoc ht, t0, t1, t2, n0, n1, n2, bop, blt, bInt, gLoc (at' _), sLoc (at' _), List.set_set, sb, sc, sn, s1, s98, p1, p2, p3, decide_true, Bool.and_self, if_true, hb', ha, bDivmod, h0, h1]
  · refine ⟨b' / 98 % t, h.set i (.lst [.int a, .int b', .int ((c : Int) + 1)]), Int.emod_nonneg _ (by omega), Int.emod_lt_of_pos _ h0, ⟨a, b', c + 1, at' _, b0, b1, by omega⟩, ot _, ?_⟩
    rw [i_l_spoon, r_l_spoon, b_l_spoon]
    simp only [evSs, evS, evE, evL, evO, evTs, List.getElem?_cons_zero, List.getElem?_cons_succ, List.set_cons_zero, List.set_cons_succ, truth, cltI, cleI, cgtI, cgeI, ceqI, cneI, gt0, gt1, gt2, gt3, gl0, gl1, addI, subI, fin_rt, fin_nx, gLoc ht, sLoc ht, t0, t1, t2, n0, n1, n2, bop, blt, bInt, gLoc (at' _), sLoc (at' _), List.set_set, sb, sc, sn, s1, s98, p1, p2, p3, decide_true, decide_false, Bool.and_self, if_true, if_false, hb', ha, bDivmod, h0, h1]
theorem c_pick {k i n : Nat} {h : MH} {l : List MV} (d : Dr h i (n + 1)) (h0 : 0 < l.length) (h1 : l.length < 100000) (hk : 2 ≤ k) : ∃ v h', v ∈ l ∧ Dr h' i n ∧ Ot i h h' ∧ callD GG (runF GG W k) j_l_pick [.loc i, .lst l] h = .ok v h' := by
  obtain ⟨k, rfl⟩ : ∃ m, k = m + 1 := ⟨k - 1, by omega⟩
  obtain ⟨r, h', r0, r1, d', o, e⟩ := c_spoon (W := W) (k := k) (t := (l.length : Int)) d (by omega) (by omega) (by omega)
  have hr : r.toNat < l.length := by omega
  refine ⟨l[r.toNat], h', List.getElem_mem hr, d', o, ?_⟩
  have rr : (r.toNat : Int) = r := by omega
  have g : getIx GG (.lst l) (.int r) h' = .ok l[r.toNat] h' := by
    have g := glN (G := GG) (h := h') (l := l) (i := r.toNat) (v := l[r.toNat]) (by simp [hr])
    rw [rr] at g
    exact g
  rw [i_l_pick, r_l_pick, b_l_pick]
  simp only [evSs, evS, evE, evL, evO, evTs, List.getElem?_cons_zero, List.getElem?_cons_succ, List.set_cons_zero, List.set_cons_succ, truth, cltI, cleI, cgtI, cgeI, ceqI, cneI, gt0, gt1, gt2, gt3, gl0, gl1, addI, subI, fin_rt, fin_nx, blt, bLen, asSeq, e, g]
/-! ### drawn trees -/
def worths : List MV := [.int (-3), .int 0, .int 1, .int 2, .int 3, .int 4, .int 5, .int 6, .int 8, .int 10, .int 12]
def costs : List MV := [.int 0, .int 1, .int 1, .int 2, .int 2, .int 3, .int 4]
theorem mem_worths {v : MV} (h : v ∈ worths) : ∃ w : Int, v = .int w ∧ -3 ≤ w ∧ w ≤ 12 := by
  simp only [worths, List.mem_cons, List.not_mem_nil, or_false] at h
  rcases h with rfl | rfl | rfl | rfl | rfl | rfl | rfl | rfl | rfl | rfl | rfl <;> exact ⟨_, rfl, by decide, by decide⟩
theorem mem_costs {v : MV} (h : v ∈ costs) : ∃ w : Nat, v = .int w ∧ w ≤ 4 := by
  simp only [costs, List.mem_cons, List.not_mem_nil, or_false] at h
  rcases h with rfl | rfl | rfl | rfl | rfl | rfl | rfl
  · exact ⟨0, rfl, by decide⟩
  · exact ⟨1, rfl, by decide⟩
  · exact ⟨1, rfl, by decide⟩
  · exact ⟨2, rfl, by decide⟩
  · exact ⟨2, rfl, by decide⟩
  · exact ⟨3, rfl, by decide⟩
  · exact ⟨4, rfl, by decide⟩
/-- how many nodes a drawn tree has at most -/
def cap : Nat → Nat
  | 0 => 1
  | 1 => 4
  | n + 2 => 1 + 2 * cap (n + 1)
def need : Nat → Nat
  | 0 => 2
  | n + 1 => 3 + 3 * (1 + need n)
theorem c_bush : ∀ (deep k i n : Nat) (h : MH), Dr h i (n + need deep) → 3 + deep ≤ k → ∃ t h', t.sm ∧ t.deep ≤ deep ∧ t.size ≤ cap deep ∧ Dr h' i n ∧ Ot i h h' ∧ callD GG (runF GG W k) j_l_bush [.loc i, .int deep] h = .ok (enc t) h' := by
  intro deep
  induction deep with
  | zero =>
    intro k i n h d hk
    obtain ⟨k, rfl⟩ : ∃ m, k = m + 1 := ⟨k - 1, by omega⟩
    obtain ⟨v, h', hv, d', o, e⟩ := c_pick (W := W) (k := k) (l := worths) (d.mono (m := n + 1) (by simp only [need]; omega)) (by decide) (by decide) (by omega)
    obtain ⟨w, rfl, w0, w1⟩ := mem_worths hv
    refine ⟨.en w, h', by rw [Tr.sm]; omega, Nat.le_refl _, Nat.le_refl _, d', o, ?_⟩
    rw [i_l_bush, r_l_bush, b_l_bush]
    simp only [worths] at e
    simp only [evSs, evS, evE, evL, evO, evTs, List.getElem?_cons_zero, List.getElem?_cons_succ, List.set_cons_zero, List.set_cons_succ, truth, cltI, cleI, cgtI, cgeI, ceqI, cneI, gt0, gt1, gt2, gt3, gl0, gl1, addI, subI, fin_rt, fin_nx, show decide ((((0 : Nat)) : Int) = 0) = true from rfl, e, enc]
  | succ deep ih =>
    intro k i n h d hk
    obtain ⟨k, rfl⟩ : ∃ m, k = m + 1 := ⟨k - 1, by omega⟩
    have z0 : decide ((((deep + 1 : Nat)) : Int) = 0) = false := decide_eq_false (by omega)
    simp only [need] at d
    obtain ⟨r, h1, r0, r1, d1, o1, e1⟩ := c_spoon (W := W) (k := k) (t := 5) (n := n + (2 + 3 * (1 + need deep))) (d.mono (by omega)) (by decide) (by decide) (by omega)
    by_cases rz : r = 0
    · subst rz
      obtain ⟨v, h', hv, d', o, e⟩ := c_pick (W := W) (k := k) (l := worths) (d1.mono (m := n + 1) (by omega)) (by decide) (by decide) (by omega)
      obtain ⟨w, rfl, w0, w1⟩ := mem_worths hv
      refine ⟨.en w, h', by rw [Tr.sm]; omega, by simp [Tr.deep], ?_, d', o1.trans o, ?_⟩
      · simp only [Tr.size]
        cases deep <;> simp only [cap] <;> omega
      · rw [i_l_bush, r_l_bush, b_l_bush]
        simp only [worths] at e
        simp only [evSs, evS, evE, evL, evO, evTs, List.getElem?_cons_zero, List.getElem?_cons_succ, List.set_cons_zero, List.set_cons_succ, truth, cltI, cleI, cgtI, cgeI, ceqI, cneI, gt0, gt1, gt2, gt3, gl0, gl1, addI, subI, fin_rt, fin_nx, z0, e1, show decide ((0 : Int) = 0) = true from rfl, decide_true, e, enc]
    · have rz' : decide (r = 0) = false := decide_eq_false rz
      -- how many branches
      obtain ⟨m, h2, m0, m1, d2, o2, e2⟩ : ∃ m h2, 0 ≤ m ∧ m < (if deep = 0 then (3 : Int) else 2) ∧ Dr h2 i (n + (1 + 3 * (1 + need deep))) ∧ Ot i h1 h2 ∧ callD GG (runF GG W k) j_l_spoon [.loc i, .int (if deep = 0 then (3 : Int) else 2)] h1 = .ok (.int m) h2 :=
        c_spoon (W := W) (k := k) (n := n + (1 + 3 * (1 + need deep))) (d1.mono (by omega)) (by split <;> decide) (by split <;> decide) (by omega)
      -- the branches
      have twigs : ∀ (c lo : Nat) (acc : List (Nat × Tr)) (h : MH), Dr h i (n + 1 + c * (1 + need deep)) → acc.length + c ≤ 5 → (∀ p ∈ acc, (1 ≤ p.1 ∧ p.1 ≤ 3) ∧ p.2.sm ∧ p.2.deep ≤ deep ∧ p.2.size ≤ cap deep) →
          ∃ (out : List (Nat × Tr)) (h' : MH), out.length = acc.length + c ∧ (∀ p ∈ out, (1 ≤ p.1 ∧ p.1 ≤ 3) ∧ p.2.sm ∧ p.2.deep ≤ deep ∧ p.2.size ≤ cap deep) ∧ Dr h' i (n + 1) ∧ Ot i h h' ∧
          loopC (.nm 4) (fun _ h => .ok (.bl true) h) (fun σ h => evE GG (runF GG W k) ce_l_bush σ h) [some (.loc i), some (.int ((deep + 1 : Nat) : Int)), some (.int (1 + m)), none, none] (rngM lo c) (acc.map encP) h = .ok (out.map encP) h' := by
        intro c
        induction c with
        | zero => intro lo acc h d _ ha; exact ⟨acc, h, rfl, ha, d.mono (by omega), Ot.refl, rfl⟩
        | succ c ihc =>
          intro lo acc h d hl ha
          rw [Nat.succ_mul] at d
          obtain ⟨w, h3, w0, w1, d3, o3, e3⟩ := c_spoon (W := W) (k := k) (t := 3) (n := n + 1 + c * (1 + need deep) + need deep) (d.mono (by omega)) (by decide) (by decide) (by omega)
          obtain ⟨t, h4, t1, t2, t3, d4, o4, e4⟩ := ih k i (n + 1 + c * (1 + need deep)) h3 d3 (by omega)
          obtain ⟨out, h5, q1, q2, q3, q4, q5⟩ := ihc (lo + 1) (acc ++ [((1 + w).toNat, t)]) h4 d4 (by simp; omega) (fun p hp => by
            rcases List.mem_append.mp hp with hp | hp
            · exact ha p hp
            · rw [List.mem_singleton.mp hp]
              exact ⟨⟨by dsimp only; omega, by dsimp only; omega⟩, t1, t2, t3⟩)
          refine ⟨out, h5, by rw [q1]; simp; omega, q2, q3, (o3.trans o4).trans q4, ?_⟩
          have al : decide ((acc.map encP).length < 100000) = true := decide_eq_true (by simp; omega)
          have dd : ((deep + 1 : Nat) : Int) - 1 = (deep : Int) := by omega
          have ev : evE GG (runF GG W k) ce_l_bush [some (.loc i), some (.int ((deep + 1 : Nat) : Int)), some (.int (1 + m)), none, some (.int lo)] h = .ok (encP ((1 + w).toNat, t)) h4 := by
            simp only [ce_l_bush, evSs, evS, evE, evL, evO, evTs, List.getElem?_cons_zero, List.getElem?_cons_succ, List.set_cons_zero, List.set_cons_succ, truth, cltI, cleI, cgtI, cgeI, ceqI, cneI, gt0, gt1, gt2, gt3, gl0, gl1, addI, subI, fin_rt, fin_nx, e3, dd, e4, encP]
            rw [show (((1 + w).toNat : Nat) : Int) = 1 + w by omega]
          rw [rngM, loopC]
          dsimp only [st_nm]
          simp only [evSs, evS, evE, evL, evO, evTs, List.getElem?_cons_zero, List.getElem?_cons_succ, List.set_cons_zero, List.set_cons_succ, truth, cltI, cleI, cgtI, cgeI, ceqI, cneI, gt0, gt1, gt2, gt3, gl0, gl1, addI, subI, fin_rt, fin_nx]
          rw [ev]
          dsimp only
          rw [if_pos al]
          have : acc.map encP ++ [encP ((1 + w).toNat, t)] = (acc ++ [((1 + w).toNat, t)]).map encP := by simp
          rw [this]
          exact q5
      have mc : (1 + m).toNat ≤ 3 := by split at m1 <;> omega
      obtain ⟨out, h3, q1, q2, q3, q4, q5⟩ := twigs (1 + m).toNat 0 [] h2 (d2.mono (by have := Nat.mul_le_mul_right (1 + need deep) mc; omega)) (by simp; omega) (fun _ z => (List.not_mem_nil z).elim)
      obtain ⟨v, h4, hv, d4, o4, e4⟩ := c_pick (W := W) (k := k) (l := costs) q3 (by decide) (by decide) (by omega)
      obtain ⟨c, rfl, c4⟩ := mem_costs hv
      have ol := Bs.of_list out
      simp only [List.length_nil] at q1
      refine ⟨.st c (Bs.of out), h4, ?_, ?_, ?_, d4, ((o1.trans o2).trans q4).trans o4, ?_⟩
      · rw [Tr.sm, ol]
        exact ⟨by omega, by omega, by omega, Bs.of_sm fun p hp => ⟨⟨(q2 p hp).1.1, by have := (q2 p hp).1.2; omega⟩, (q2 p hp).2.1⟩⟩
      · rw [Tr.deep]
        have := Bs.of_deep (l := out) (n := deep) fun p hp => (q2 p hp).2.2.1
        omega
      · rw [Tr.size, Bs.of_size]
        have key : ∀ l : List (Nat × Tr), (∀ p ∈ l, p.2.size ≤ cap deep) → (l.map fun p => p.2.size).sum ≤ l.length * cap deep := by
          intro l
          induction l with
          | nil => intro _; simp
          | cons a l ih =>
            intro ha
            have h1 := ha a (List.mem_cons_self ..)
            have h2 := ih fun p hp => ha p (List.mem_cons_of_mem _ hp)
            simp only [List.map_cons, List.sum_cons, List.length_cons, Nat.add_mul, Nat.one_mul]
            omega
        have k1 := key out fun p hp => (q2 p hp).2.2.2
        cases deep with
        | zero =>
          have : out.length ≤ 3 := by omega
          have := Nat.mul_le_mul_right (cap 0) this
          simp only [cap] at *
          omega
        | succ deep =>
          have l2 : out.length ≤ 2 := by
            rw [if_neg (by omega)] at m1
            omega
          have := Nat.mul_le_mul_right (cap (deep + 1)) l2
          simp only [cap] at *
          omega
      · have md : mid (1 + m) = true := by
          unfold mid
          rw [Bool.and_eq_true, decide_eq_true_eq, decide_eq_true_eq]
          omega
        have q5' : loopC (.nm 4) (fun _ h => .ok (.bl true) h) (fun σ h => evE GG (runF GG W k) ce_l_bush σ h) [some (.loc i), some (.int ((deep + 1 : Nat) : Int)), some (.int (1 + m)), none, none] (rngM 0 (1 + m).toNat) [] h2 = .ok (out.map encP) h3 := q5
        have e2' : ∀ σ : MS, σ[1]? = some (some (.int ((deep + 1 : Nat) : Int))) → evE GG (runF GG W k) (.ife (.cmp .eq (.var 1) (.int 1)) (.int 3) (.int 2)) σ h1 = .ok (.int (if deep = 0 then (3 : Int) else 2)) h1 := by
          intro σ hσ
          by_cases q : deep = 0
          · have : decide (((deep + 1 : Nat) : Int) = 1) = true := decide_eq_true (by omega)
            simp only [evE, hσ, ceqI, this, truth, q, if_true]
            subst q
            rfl
          · have : decide (((deep + 1 : Nat) : Int) = 1) = false := decide_eq_false (by omega)
            simp only [evE, hσ, ceqI, this, truth, q, if_false]
        simp only [costs] at e4
        rw [i_l_bush, r_l_bush, b_l_bush]
        by_cases q : deep = 0
        · subst q
          simp only [if_true] at e2
          simp only [evSs, evS, evE, evL, evO, evTs, List.getElem?_cons_zero, List.getElem?_cons_succ, List.set_cons_zero, List.set_cons_succ, truth, cltI, cleI, cgtI, cgeI, ceqI, cneI, gt0, gt1, gt2, gt3, gl0, gl1, addI, subI, fin_rt, fin_nx, z0, e1, rz', show decide ((((0 + 1 : Nat)) : Int) = 1) = true from rfl, e2, specB, evR, md, if_true, wipeM, q5', blt, bTuple, asSeq, e4, enc, encB_map, ol]
        · have q1 : decide (((deep + 1 : Nat) : Int) = 1) = false := decide_eq_false (by omega)
          simp only [q, if_false] at e2
          simp only [evSs, evS, evE, evL, evO, evTs, List.getElem?_cons_zero, List.getElem?_cons_succ, List.set_cons_zero, List.set_cons_succ, truth, cltI, cleI, cgtI, cgeI, ceqI, cneI, gt0, gt1, gt2, gt3, gl0, gl1, addI, subI, fin_rt, fin_nx, z0, e1, rz', q1, e2, specB, evR, md, if_true, wipeM, q5', blt, bTuple, asSeq, e4, enc, encB_map, ol]
end
end Lw

namespace Lw
open PySem L2 Mi
/-! D2n: near trees, the four ways (k80). -/
section
variable {W : Nat}
/-- two pairs of a weight and a tree -/
theorem enc_of (c : Nat) (l : List (Nat × Tr)) : enc (.st c (Bs.of l)) = .tup [.str sStep, .int c, .tup (l.map encP)] := by rw [enc, encB_map, Bs.of_list]
structure Nr (t : Tr) : Prop where
  ok : t.ok
  sz : t.size ≤ 15
  dp : t.deep ≤ 3
theorem nr_st {c : Nat} {l : List (Nat × Tr)} (hc : c ≤ 1000000) (h0 : 0 < l.length) (h5 : l.length ≤ 5) (hl : ∀ p ∈ l, (1 ≤ p.1 ∧ p.1 ≤ 1000) ∧ p.2.ok) (hs : (l.map fun p => p.2.size).sum ≤ 14) (hd : ∀ p ∈ l, p.2.deep ≤ 2) : Nr (.st c (Bs.of l)) := by
  refine ⟨?_, ?_, ?_⟩
  · rw [Tr.ok, Bs.of_list]
    exact ⟨hc, h0, h5, Bs.of_ok hl⟩
  · rw [Tr.size, Bs.of_size]; omega
  · rw [Tr.deep]
    have := Bs.of_deep (l := l) (n := 2) hd
    omega
theorem sum_rev {l : List Nat} : l.reverse.sum = l.sum := by
  induction l with
  | nil => rfl
  | cons a l ih => rw [List.reverse_cons, List.sum_append, ih]; simp; omega
theorem c_near {k i n : Nat} {h : MH} {t : Tr} (sm : t.sm) (hs : t.size ≤ 9) (hd : t.deep ≤ 2) (d : Dr h i (n + 2)) (hk : 4 ≤ k) : ∃ t' h', Nr t' ∧ Dr h' i n ∧ Ot i h h' ∧ callD GG (runF GG W k) j_l_near [.loc i, enc t] h = .ok (enc t') h' := by
  obtain ⟨k, rfl⟩ : ∃ m, k = m + 1 := ⟨k - 1, by omega⟩
  cases t with
  | en w =>
    rw [Tr.sm] at sm
    obtain ⟨v, h1, hv, d1, o1, e1⟩ := c_pick (W := W) (k := k) (l := [.int (-1), .int 1]) (n := n + 1) d (by decide) (by decide) (by omega)
    obtain ⟨x, rfl, x0, x1⟩ : ∃ x : Int, v = .int x ∧ -1 ≤ x ∧ x ≤ 1 := by
      simp only [List.mem_cons, List.not_mem_nil, or_false] at hv
      rcases hv with rfl | rfl
      · exact ⟨_, rfl, by decide, by decide⟩
      · exact ⟨_, rfl, by decide, by decide⟩
    obtain ⟨u, h2, hu, d2, o2, e2⟩ := c_pick (W := W) (k := k) (l := [.tup [.str sEnd, .int w], .tup [.str sEnd, .int (w + x)], .tup [.str sStep, .int 0, .tup [.tup [.int 1, .tup [.str sEnd, .int w]]]]]) d1 (by simp) (by simp) (by omega)
    have fin : ∃ t', Nr t' ∧ u = enc t' := by
      simp only [List.mem_cons, List.not_mem_nil, or_false] at hu
      rcases hu with rfl | rfl | rfl
      · exact ⟨.en w, ⟨by rw [Tr.ok]; omega, by simp [Tr.size], by simp [Tr.deep]⟩, by rw [enc]⟩
      · exact ⟨.en (w + x), ⟨by rw [Tr.ok]; omega, by simp [Tr.size], by simp [Tr.deep]⟩, by rw [enc]⟩
      · refine ⟨.st 0 (Bs.of [(1, .en w)]), nr_st (by decide) (by simp) (by simp) (fun p hp => ?_) (by simp [Tr.size]) (fun p hp => ?_), ?_⟩
        · rw [List.mem_singleton.mp hp]
          exact ⟨by simp, by rw [Tr.ok]; omega⟩
        · rw [List.mem_singleton.mp hp]
          simp [Tr.deep]
        · rw [enc_of]
          simp only [List.map_cons, List.map_nil, encP, enc]
          rfl
    obtain ⟨t', nr, rfl⟩ := fin
    refine ⟨t', h2, nr, d2, o1.trans o2, ?_⟩
    rw [i_l_near, r_l_near, b_l_near]
    simp only [enc, evSs, evS, evE, evL, evO, evTs, List.getElem?_cons_zero, List.getElem?_cons_succ, List.set_cons_zero, List.set_cons_succ, truth, cltI, cleI, cgtI, cgeI, ceqI, cneI, gt0, gt1, gt2, gt3, gl0, gl1, addI, subI, fin_rt, fin_nx, eEE, e1, e2]
  | st c bs =>
    have sm' := sm
    rw [Tr.sm] at sm'
    obtain ⟨hc, h0, h5, hb⟩ := sm'
    have ok := Tr.sm_ok sm
    have mem : ∀ p ∈ bs.list, (1 ≤ p.1 ∧ p.1 ≤ 100) ∧ p.2.sm := Bs.sm_mem hb
    simp only [Tr.size, Tr.deep] at hs hd
    have dm : ∀ p ∈ bs.list, p.2.deep ≤ 2 := fun p hp => by have := Bs.deep_mem hp; omega
    have sm1 : (bs.list.map fun p => p.2.size).sum ≤ 8 := by rw [← Bs.size_sum]; omega
    obtain ⟨r, h1, r0, r1, d1, o1, e1⟩ := c_spoon (W := W) (k := k) (t := 4) (n := n + 1) d (by decide) (by decide) (by omega)
    have g0 : ∀ h, getIx GG (enc (.st c bs)) (.int 0) h = .ok (.str sStep) h := fun h => by rw [enc]; exact gt0
    have g1 : ∀ h, getIx GG (enc (.st c bs)) (.int 1) h = .ok (.int c) h := fun h => by rw [enc]; exact gt1
    have g2 : ∀ h, getIx GG (enc (.st c bs)) (.int 2) h = .ok (.tup (bs.list.map encP)) h := fun h => by rw [enc, encB_map]; exact gt2
    have weak := d1.mono (m := n) (by omega)
    rw [i_l_near, r_l_near, b_l_near]
    have hr : r = 0 ∨ r = 1 ∨ r = 2 ∨ r = 3 := by omega
    rcases hr with rfl | rfl | rfl | rfl
    · refine ⟨.st c (Bs.of bs.list.reverse), h1, nr_st (by omega) (by simpa using h0) (by simpa using h5) (fun p hp => ?_) ?_ (fun p hp => ?_), weak, o1, ?_⟩
      · have := mem p (by simpa using hp)
        exact ⟨⟨this.1.1, by omega⟩, Tr.sm_ok this.2⟩
      · rw [List.map_reverse, sum_rev]; omega
      · exact dm p (by simpa using hp)
      · rw [enc_of]
        simp only [evSs, evS, evE, evL, evO, evTs, List.getElem?_cons_zero, List.getElem?_cons_succ, List.set_cons_zero, List.set_cons_succ, truth, cltI, cleI, cgtI, cgeI, ceqI, cneI, gt0, gt1, gt2, gt3, gl0, gl1, addI, subI, fin_rt, fin_nx, g0, g1, g2, eSE, e1, show decide ((0 : Int) = 0) = true from rfl, decide_true, decide_false, revV, List.map_reverse]
    · refine ⟨.st (c + 1) (Bs.of bs.list), h1, nr_st (by omega) h0 h5 (fun p hp => ?_) (by omega) dm, weak, o1, ?_⟩
      · have := mem p hp
        exact ⟨⟨this.1.1, by omega⟩, Tr.sm_ok this.2⟩
      · rw [enc_of]
        simp only [evSs, evS, evE, evL, evO, evTs, List.getElem?_cons_zero, List.getElem?_cons_succ, List.set_cons_zero, List.set_cons_succ, truth, cltI, cleI, cgtI, cgeI, ceqI, cneI, gt0, gt1, gt2, gt3, gl0, gl1, addI, subI, fin_rt, fin_nx, g0, g1, g2, eSE, e1, show decide ((1 : Int) = 0) = false from rfl, show decide ((1 : Int) = 1) = true from rfl, decide_true, decide_false]
        rfl
    · refine ⟨.st c (Bs.of (bs.list.map fun p => (2 * p.1, p.2))), h1, nr_st (by omega) (by simpa using h0) (by simpa using h5) (fun p hp => ?_) ?_ (fun p hp => ?_), weak, o1, ?_⟩
      · obtain ⟨q, hq, rfl⟩ := List.mem_map.mp hp
        have := mem q hq
        exact ⟨⟨by dsimp only; omega, by dsimp only; omega⟩, Tr.sm_ok this.2⟩
      · rw [List.map_map]
        exact Nat.le_trans (Nat.le_of_eq (congrArg List.sum (List.map_congr_left fun _ _ => rfl))) (Nat.le_trans sm1 (by decide))
      · obtain ⟨q, hq, rfl⟩ := List.mem_map.mp hp
        exact dm q hq
      · have L := loopC_map (α := Nat × Tr) (t := .tup [.nm 3, .nm 4]) (tt := fun _ h => .ok (.bl true) h) (e := fun σ h => evE GG (runF GG W k) ce_l_near σ h) (enc := encP) (σ := [some (.loc i), some (enc (.st c bs)), some (.int 2), none, none]) (h := h1)
          (fun p => encP (2 * p.1, p.2)) bs.list [] (fun p hp => ⟨_, st_pair, rfl, by
            have m := mem p hp
            have s1 : small 2 = true := sm100 (by decide)
            have s2 : small (p.1 : Int) = true := sm100 (by omega)
            simp only [ce_l_near, evSs, evS, evE, evL, evO, evTs, List.getElem?_cons_zero, List.getElem?_cons_succ, List.set_cons_zero, List.set_cons_succ, truth, cltI, cleI, cgtI, cgeI, ceqI, cneI, gt0, gt1, gt2, gt3, gl0, gl1, addI, subI, fin_rt, fin_nx, bop, s1, s2, Bool.and_self, if_true, encP]
            rw [Int.natCast_mul]
            rfl⟩) (by simp; omega)
        rw [List.nil_append] at L
        rw [enc_of]
        simp only [evSs, evS, evE, evL, evO, evTs, List.getElem?_cons_zero, List.getElem?_cons_succ, List.set_cons_zero, List.set_cons_succ, truth, cltI, cleI, cgtI, cgeI, ceqI, cneI, gt0, gt1, gt2, gt3, gl0, gl1, addI, subI, fin_rt, fin_nx, g0, g1, g2, eSE, e1, show decide ((2 : Int) = 0) = false from rfl, show decide ((2 : Int) = 1) = false from rfl, show decide ((2 : Int) = 2) = true from rfl, decide_true, decide_false, specB, seqOf, wipeM, L, blt, bTuple, asSeq, List.map_map]
        rfl
    · refine ⟨.st (c - 1) (Bs.of bs.list), h1, nr_st (by omega) h0 h5 (fun p hp => ?_) (by omega) dm, weak, o1, ?_⟩
      · have := mem p hp
        exact ⟨⟨this.1.1, by omega⟩, Tr.sm_ok this.2⟩
      · have em : ∀ h, bMax [.int 0, .int ((c : Int) - 1)] h = .ok (.int ((c - 1 : Nat) : Int)) h := fun h => by
          unfold bMax
          dsimp only
          congr 2
          split <;> omega
        rw [enc_of]
        simp only [evSs, evS, evE, evL, evO, evTs, List.getElem?_cons_zero, List.getElem?_cons_succ, List.set_cons_zero, List.set_cons_succ, truth, cltI, cleI, cgtI, cgeI, ceqI, cneI, gt0, gt1, gt2, gt3, gl0, gl1, addI, subI, fin_rt, fin_nx, g0, g1, g2, eSE, e1, show decide ((3 : Int) = 0) = false from rfl, show decide ((3 : Int) = 1) = false from rfl, show decide ((3 : Int) = 2) = false from rfl, decide_true, decide_false, blt, em]
end
end Lw

namespace Lw
open PySem L2 Mi
/-! D3g: what is alike, never (k80). -/
def gapsL (a b : Tab) : List Rat := (marksR a b).map fun m => rst a m - rst b m
def alikeL (a b : Tab) : Bool := ((gapsL a b).filter fun g => !decide (g = 0)).isEmpty
def neverL (a b : Tab) : Bool := ((gapsL a b).filter fun g => decide (g < 0)).isEmpty
theorem filter_empty {α : Type} {p : α → Bool} {l : List α} : (l.filter p).isEmpty = true ↔ ∀ x ∈ l, p x = false := by
  rw [List.isEmpty_iff, List.filter_eq_nil_iff]
  simp
theorem find_none {α : Type} {p : α → Bool} {l : List α} : (l.find? p).isNone = true ↔ ∀ x ∈ l, p x = false := by
  rw [Option.isNone_iff_eq_none, List.find?_eq_none]
  simp
theorem places_marks {s t : Tr} (hs : s.ok) (ht : t.ok) (m : Rat) : m ∈ placesR (tableR s) (tableR t) ↔ m ∈ marksR (capsR s) (capsR t) := by
  rw [mem_places, mem_marks, places_same hs ht]
theorem alike_eq {s t : Tr} (hs : s.ok) (ht : t.ok) : dAlike s t = alikeL (capsR s) (capsR t) := by
  rw [Bool.eq_iff_iff]
  unfold dAlike alikeL gapsL
  rw [find_none, filter_empty]
  constructor
  · intro h x hx
    obtain ⟨m, hm, rfl⟩ := List.mem_map.mp hx
    have := h m ((places_marks hs ht m).mpr hm)
    rw [rst_same hs, rst_same ht] at this
    simp at this
    simp [this]
    grind
  · intro h m hm
    have := h _ (List.mem_map.mpr ⟨m, (places_marks hs ht m).mp hm, rfl⟩)
    rw [rst_same hs, rst_same ht]
    simp at this ⊢
    grind
theorem never_eq {s t : Tr} (hs : s.ok) (ht : t.ok) : dNever s t = neverL (capsR s) (capsR t) := by
  rw [Bool.eq_iff_iff]
  unfold dNever neverL gapsL
  rw [find_none, filter_empty]
  constructor
  · intro h x hx
    obtain ⟨m, hm, rfl⟩ := List.mem_map.mp hx
    have := h m ((places_marks hs ht m).mpr hm)
    rw [rst_same hs, rst_same ht] at this
    rw [decide_eq_false_iff_not] at this ⊢
    grind
  · intro h m hm
    have := h _ (List.mem_map.mpr ⟨m, (places_marks hs ht m).mp hm, rfl⟩)
    rw [rst_same hs, rst_same ht]
    rw [decide_eq_false_iff_not] at this ⊢
    grind
theorem never_due {a b : Tab} {m : Rat} (hm : 0 ≤ m) (hlt : rst a m < rst b m) : neverL a b = false := by
  cases c : neverL a b with
  | false => rfl
  | true =>
    exfalso
    unfold neverL gapsL at c
    rw [filter_empty] at c
    have := never_all (a := a) (b := b) (fun x hx => by
      have := c _ (List.mem_map.mpr ⟨x, hx, rfl⟩)
      rw [decide_eq_false_iff_not] at this
      grind) hm
    grind
theorem canAll : ∀ qs : List Rat, ∃ ds, pdL (qs.map fr) = some ds ∧ PyData.canLayAll0 ds = true ∧ PyData.depthAll ds ≤ 1 ∧ ds.isEmpty = qs.isEmpty
  | [] => ⟨[], rfl, rfl, Nat.zero_le _, rfl⟩
  | q :: qs => by
    obtain ⟨ds, h1, h2, h3, _⟩ := canAll qs
    refine ⟨.tuple [.int q.num, .int q.den] :: ds, ?_, ?_, ?_, rfl⟩
    · rw [List.map_cons, pdL, h1]
      rfl
    · rw [PyData.canLayAll0, h2]
      rfl
    · rw [PyData.depthAll]
      have : PyData.depth (.tuple [.int q.num, .int q.den]) = 1 := by simp [PyData.depth, PyData.depthAll]
      omega
theorem eqNil {G : Gm} {h : MH} (qs : List Rat) : copG G .eq (.lst (qs.map fr)) (.lst []) h = .ok (.bl qs.isEmpty) h := by
  obtain ⟨ds, h1, h2, h3, h4⟩ := canAll qs
  show cop .eq (.lst (qs.map fr)) (.lst []) h = _
  have e : cop .eq (.lst (qs.map fr)) (.lst []) h = (match pyEq (.lst (qs.map fr)) (.lst []) with | some k => .ok (.bl k) h | none => .bad) := rfl
  rw [e]
  unfold pyEq
  have p1 : MV.pd (.lst (qs.map fr)) = some (.list ds) := by rw [MV.pd, h1]; rfl
  have p2 : MV.pd (.lst []) = some (.list []) := rfl
  rw [p1, p2]
  dsimp only
  rw [sh0 (d := .list ds) h2 (by rw [PyData.depth]; omega), sh0 (d := .list []) rfl (by decide)]
  simp only [Bool.and_self, if_true]
  rw [← h4]
  cases ds <;> rfl
theorem marks_bd {s t : Tr} (hs : Nr s) (ht : Nr t) {m : Rat} (h : m ∈ marksR (capsR s) (capsR t)) : ∃ D, Bd D (2 ^ 24) m ∧ 0 < D ∧ D ≤ 2 ^ 1365 ∧ 0 ≤ m ∧ m ≤ 1000000 := by
  obtain ⟨V, M, X⟩ := tabd hs.ok
  obtain ⟨V', M', Y⟩ := tabd ht.ok
  have TX := (X.tb hs.ok hs.sz).2
  have TY := (Y.tb ht.ok ht.sz).2
  rcases mem_marks.mp h with rfl | ⟨p, h | h⟩
  · exact ⟨1, Bd.zero, by decide, Nat.pow_pos (by decide), Rat.le_refl, by decide +kernel⟩
  · obtain ⟨e, he, rfl⟩ := List.mem_map.mp h
    exact ⟨V, (TX.el e he).1, TX.V0, TX.Vv, Rat.le_of_lt p, (X.c.el e he).2.2.2⟩
  · obtain ⟨e, he, rfl⟩ := List.mem_map.mp h
    exact ⟨V', (TY.el e he).1, TY.V0, TY.Vv, Rat.le_of_lt p, (Y.c.el e he).2.2.2⟩
theorem pow1400 {D : Nat} (h : D ≤ 2 ^ 1365) : D ≤ 2 ^ 1400 := Nat.le_trans h (Nat.pow_le_pow_right (by decide) (by decide))
section
variable {W : Nat}
/-- what a pair's turn needs -/
structure Pr (s t : Tr) : Prop where
  s : Nr s
  t : Nr t
theorem Nr.fit {t : Tr} (h : Nr t) : Fit t 17 := ⟨h.ok, h.sz, by have := h.dp; omega⟩
theorem len_marks {s t : Tr} (hs : Nr s) (ht : Nr t) : (marksR (capsR s) (capsR t)).length ≤ 31 := by
  obtain ⟨V, M, X⟩ := tabd hs.ok
  obtain ⟨V', M', Y⟩ := tabd ht.ok
  have h1 := X.c.ln
  have h2 := Y.c.ln
  have h3 := hs.sz
  have h4 := ht.sz
  unfold marksR
  have := List.length_filter_le (fun e : Rat × Rat => decide (0 < e.1)) (capsR s ++ capsR t)
  simp only [List.length_cons, List.length_map, List.length_append] at this ⊢
  omega
end
end Lw

namespace Lw
open PySem L2 Mi
/-! T1: a tree's text, an offer made, its tree. -/
def nTx (i : Int) : Str := Str.ofString (toString i)
mutual
def textR : Tr → Str
  | .en w => Str.empty ++ nTx w
  | .st c bs => (((Str.empty ++ nTx c) ++ ⟨#[91]⟩) ++ Txt.join ⟨#[32]⟩ (textB bs)) ++ ⟨#[93]⟩
def textB : Bs → List Str
  | .nil => []
  | .cons w t bs => (((Str.empty ++ nTx w) ++ ⟨#[58]⟩) ++ textR t) :: textB bs
end
def pairTx (p : Nat × Tr) : Str := ((Str.empty ++ nTx p.1) ++ ⟨#[58]⟩) ++ textR p.2
theorem textB_map : ∀ bs : Bs, textB bs = bs.list.map pairTx
  | .nil => by rw [textB, Bs.list]; rfl
  | .cons w t bs => by rw [textB, Bs.list, List.map_cons, textB_map bs]; rfl
theorem nTx_len {i : Int} (h : i.natAbs ≤ 1000000) : (nTx i).length ≤ 8 := by
  unfold nTx
  rw [PySem.ofString_length]
  exact PySem.int_text_length_le10 (k := 7) (by decide) (by omega)
theorem l1 (n : Nat) : (⟨#[n]⟩ : Str).length = 1 := rfl
theorem l0 : Str.empty.length = 0 := rfl
theorem join_len (ys : List Str) : (Txt.join ⟨#[32]⟩ ys).length ≤ (ys.map (·.length)).sum + ys.length := by
  show (PySem.Builtin.Str.glued ⟨#[32]⟩ ys).length ≤ _
  rw [PySem.StrLaws.glued_eq_join]
  have := PySem.StrLaws.join_length_le ⟨#[32]⟩ ys
  rw [l1] at this
  omega
mutual
theorem text_len : ∀ t : Tr, t.ok → (textR t).length ≤ 60 * t.size
  | .en w, ok => by
    rw [Tr.ok] at ok
    rw [textR, Str.length_append, Tr.size, l0]
    have := nTx_len ok
    omega
  | .st c bs, ok => by
    rw [Tr.ok] at ok
    have h := texts_len bs ok.2.2.2
    have j := join_len (textB bs)
    have n : (textB bs).length = bs.list.length := by rw [textB_map, List.length_map]
    have := nTx_len (i := c) (by omega)
    rw [textR, Tr.size]
    simp only [Str.length_append, l0, l1]
    omega
theorem texts_len : ∀ bs : Bs, bs.ok → ((textB bs).map (·.length)).sum ≤ 9 * bs.list.length + 60 * bs.size
  | .nil, _ => by rw [textB]; exact Nat.zero_le _
  | .cons w t bs, ok => by
    rw [Bs.ok] at ok
    have h1 := text_len t ok.2.1
    have h2 := texts_len bs ok.2.2
    have := nTx_len (i := w) (by omega)
    rw [textB, Bs.list, Bs.size]
    simp only [List.map_cons, List.sum_cons, List.length_cons, Str.length_append, l0, l1]
    omega
end
theorem fmI {i : Int} (h : i.natAbs ≤ 1000000) : fmtM (.int i) = some (nTx i) := by
  unfold fmtM
  dsimp only
  rw [if_pos]
  · rfl
  · exact decide_eq_true (Nat.lt_of_le_of_lt h (Nat.lt_of_lt_of_le (by decide : 1000000 < 2 ^ 20) (Nat.pow_le_pow_right (by decide) (by decide))))
theorem fmS {s : Str} (h : s.length ≤ 100000) : fmtM (.str s) = some s := by
  unfold fmtM
  dsimp only
  rw [if_pos (decide_eq_true h)]
theorem cat1 {a s : Str} {l : List MV} (h : (a ++ s).length ≤ 100000) : catM a (.str s :: l) = catM (a ++ s) l := by
  rw [catM, if_pos (decide_eq_true h)]
theorem cat0 {a : Str} : catM a [] = some a := by rw [catM]
theorem addS {a b : Str} {h : MH} (e : a.length + b.length ≤ 100000) : bop .add (.str a) (.str b) h = .ok (.str (a ++ b)) h := by
  unfold bop
  dsimp only
  rw [if_pos (decide_eq_true e)]
theorem strs_map {α : Type} {f : α → Str} : ∀ l : List α, strsM (l.map fun a => .str (f a)) = some (l.map f)
  | [] => rfl
  | a :: l => by rw [List.map_cons, strsM, strs_map l]; rfl
section
variable {W : Nat}
def Tx (W k : Nat) (t : Tr) : Prop := ∀ h, callD GG (runF GG W k) j_text_of [enc t] h = .ok (.str (textR t)) h
theorem c_text_en {k : Nat} {w : Int} (ok : w.natAbs ≤ 1000000) (hk : 1 ≤ k) : Tx W (k + 1) (.en w) := by
  refine fun h => Pc.call (Pc.mk (h := []) ?_ rfl) g_text_of rfl (fixL1 (fix_enc _) fixL0) h
  have E := c_is_end (W := W) (k := k) (h := []) (t := .en w) (by omega)
  have n8 := nTx_len ok
  have c1 : catM Str.empty [.str (nTx w)] = some (Str.empty ++ nTx w) := by rw [cat1 (by rw [Str.length_append, l0]; omega), cat0]
  have g1 : getIx GG (enc (.en w)) (.int 1) [] = .ok (.int w) [] := by rw [enc]; exact gt1
  rw [r_text_of, b_text_of, textR]
  simp only [evSs, evS, evE, evL, evO, evTs, List.getElem?_cons_zero, List.getElem?_cons_succ, List.set_cons_zero, List.set_cons_succ, truth, cltI, cleI, cgtI, cgeI, ceqI, cneI, gt0, gt1, gt2, gt3, gl0, gl1, addI, subI, fin_rt, fin_nx, E, Tr.isEnd, g1, fmI ok, c1]
theorem c_text_st {k c : Nat} {bs : Bs} (ok : (Tr.st c bs).ok) (hs : (Tr.st c bs).size ≤ 15) (hrec : ∀ p ∈ bs.list, Tx W k p.2) (hk : 1 ≤ k) : Tx W (k + 1) (.st c bs) := by
  refine fun h => Pc.call (Pc.mk (h := []) ?_ rfl) g_text_of rfl (fixL1 (fix_enc _) fixL0) h
  have E := c_is_end (W := W) (k := k) (h := []) (t := .st c bs) (by omega)
  have ok' := ok
  rw [Tr.ok] at ok'
  have whole := text_len _ ok
  rw [textR] at whole
  simp only [Str.length_append, l0, l1] at whole
  have c8 := nTx_len (i := (c : Int)) (by omega)
  have g1 : getIx GG (enc (.st c bs)) (.int 1) [] = .ok (.int c) [] := by rw [enc]; exact gt1
  have g2 : getIx GG (enc (.st c bs)) (.int 2) [] = .ok (.tup (bs.list.map encP)) [] := by rw [enc, encB_map]; exact gt2
  have c1 : catM Str.empty [.str (nTx c), .str ⟨#[91]⟩] = some ((Str.empty ++ nTx c) ++ ⟨#[91]⟩) := by
    rw [cat1 (by rw [Str.length_append, l0]; omega), cat1 (by simp only [Str.length_append, l0, l1]; omega), cat0]
  have sz := texts_len bs ok'.2.2.2
  have L := loopC_map (α := Nat × Tr) (t := .tup [.nm 1, .nm 2]) (tt := fun _ h => .ok (.bl true) h) (e := fun σ h => evE GG (runF GG W k) ce_text_of σ h) (enc := encP) (σ := [some (enc (.st c bs)), none, none]) (h := [])
    (fun p => .str (pairTx p)) bs.list [] (fun p hp => by
      refine ⟨_, st_pair, rfl, ?_⟩
      have okp := Bs.ok_mem ok'.2.2.2 p hp
      have T := hrec p hp []
      have szp := Bs.size_mem hp
      have tl := text_len p.2 okp.2
      have s15 := hs
      rw [Tr.size] at s15
      have p8 := nTx_len (i := (p.1 : Int)) (by omega)
      have c2 : catM Str.empty [.str (nTx p.1), .str ⟨#[58]⟩, .str (textR p.2)] = some (pairTx p) := by
        rw [cat1 (by rw [Str.length_append, l0]; omega), cat1 (by simp only [Str.length_append, l0, l1]; omega), cat1 (by simp only [Str.length_append, l0, l1]; omega), cat0]
        rfl
      simp only [ce_text_of, evSs, evS, evE, evL, evO, evTs, List.getElem?_cons_zero, List.getElem?_cons_succ, List.set_cons_zero, List.set_cons_succ, truth, cltI, cleI, cgtI, cgeI, ceqI, cneI, gt0, gt1, gt2, gt3, gl0, gl1, addI, subI, fin_rt, fin_nx, fmI (i := (p.1 : Int)) (by omega), T, fmS (show (textR p.2).length ≤ 100000 by omega), c2]) (by simp; omega)
  rw [List.nil_append] at L
  have J : mth .join (.str ⟨#[32]⟩) [.lst (bs.list.map fun p => .str (pairTx p))] [] = .ok (.str (Txt.join ⟨#[32]⟩ (textB bs))) [] := by
    unfold mth mJoin
    dsimp only
    rw [strs_map]
    dsimp only
    rw [← textB_map, if_pos]
    have n : (textB bs).length = bs.list.length := by rw [textB_map, List.length_map]
    refine decide_eq_true ?_
    rw [l1]
    rw [Tr.size] at hs
    omega
  have R : rcv .join (.str ⟨#[32]⟩) ([] : MH) = true := rfl
  have jl := join_len (textB bs)
  have n : (textB bs).length = bs.list.length := by rw [textB_map, List.length_map]
  rw [Tr.size] at hs
  have a1 : bop .add (.str ((Str.empty ++ nTx c) ++ ⟨#[91]⟩)) (.str (Txt.join ⟨#[32]⟩ (textB bs))) [] = .ok (.str (((Str.empty ++ nTx c) ++ ⟨#[91]⟩) ++ Txt.join ⟨#[32]⟩ (textB bs))) [] := addS (by simp only [Str.length_append, l0, l1]; omega)
  have a2 : bop .add (.str (((Str.empty ++ nTx c) ++ ⟨#[91]⟩) ++ Txt.join ⟨#[32]⟩ (textB bs))) (.str ⟨#[93]⟩) [] = .ok (.str ((((Str.empty ++ nTx c) ++ ⟨#[91]⟩) ++ Txt.join ⟨#[32]⟩ (textB bs)) ++ ⟨#[93]⟩)) [] := addS (by simp only [Str.length_append, l0, l1]; omega)
  rw [r_text_of, b_text_of, textR]
  simp only [evSs, evS, evE, evL, evO, evTs, List.getElem?_cons_zero, List.getElem?_cons_succ, List.set_cons_zero, List.set_cons_succ, truth, cltI, cleI, cgtI, cgeI, ceqI, cneI, gt0, gt1, gt2, gt3, gl0, gl1, addI, subI, fin_rt, fin_nx, E, Tr.isEnd, g1, g2, fmI (i := (c : Int)) (by omega), c1, specB, seqOf, wipeM, L, R, J, a1, a2]
mutual
theorem c_text_of : ∀ (t : Tr) (k : Nat), t.ok → t.size ≤ 15 → t.deep + 2 ≤ k → Tx W k t
  | .en w, k, ok, _, hk => by
    obtain ⟨k, rfl⟩ : ∃ m, k = m + 1 := ⟨k - 1, by omega⟩
    rw [Tr.ok] at ok
    exact c_text_en ok (by omega)
  | .st c bs, k, ok, hs, hk => by
    obtain ⟨k, rfl⟩ : ∃ m, k = m + 1 := ⟨k - 1, by omega⟩
    have ok' := ok
    rw [Tr.ok] at ok'
    have hs' := hs
    rw [Tr.size] at hs'
    rw [Tr.deep] at hk
    exact c_text_st ok hs (c_texts_of bs k ok'.2.2.2 (by omega) (by omega)) (by omega)
theorem c_texts_of : ∀ (bs : Bs) (k : Nat), bs.ok → bs.size ≤ 15 → bs.deep + 2 ≤ k → ∀ p ∈ bs.list, Tx W k p.2
  | .nil, _, _, _, _ => fun p hp => by cases hp
  | .cons w t bs, k, ok, hs, hk => fun p hp => by
    rw [Bs.ok] at ok
    simp only [Bs.size] at hs
    simp only [Bs.deep] at hk
    rw [Bs.list] at hp
    rcases List.mem_cons.mp hp with rfl | hp
    · exact c_text_of t k ok.2.1 (by omega) (by omega)
    · exact c_texts_of bs k ok.2.2 (by omega) (by omega) p hp
end
/-- an offer -/
def offS (t : Tr) : List MV := [enc t, .str (textR t), .tup ((nodesR t []).map fun x => encW x.1), .tup (((nodesR t []).filter fun x => !x.2.isEnd).map fun x => encW x.1)]
def offM (t : Tr) : MV := .obj q_Offer (offS t)
theorem fix_offS (t : Tr) : fixL (offS t) = true := fixL1 (fix_enc t) (fixL1 fixS (fixL1 (fixT (fixL_map fun _ _ => fix_encW _)) (fixL1 (fixT (fixL_map fun _ _ => fix_encW _)) fixL0)))
theorem fix_offM (t : Tr) : (offM t).fix = true := by unfold offM; rw [MV.fix]; exact fix_offS t
theorem new_offer {k : Nat} {h : MH} {t : Tr} (ok : t.ok) (hs : t.size ≤ 15) (hd : t.deep ≤ 10) (hW : 20000 ≤ W) (hk : 15 ≤ k) : newO GG (runF GG W k) q_Offer [enc t] h = .ok (offM t) h := by
  obtain ⟨k, rfl⟩ : ∃ m, k = m + 1 := ⟨k - 1, by omega⟩
  have I := fun h => c_is_tree (W := W) (k := k) (h := h) ok hs hW (by omega)
  have X := fun h => c_text_of (W := W) t k ok hs (by omega) h
  have N := fun h => c_nodes_of (W := W) (k := k) (h := h) (t := t) hs (by omega) hW (by omega)
  have S := fun h => c_steps_in (W := W) (k := k) (h := h) (t := t) hs (by omega) hW (by omega)
  have L := fun h => loopC_map (α := List Int × Tr) (t := .tup [.nm 2, .nm 3]) (tt := fun _ h => .ok (.bl true) h) (e := fun σ h => evE GG (runF GG W k) ce_Offer_init σ h) (enc := encN) (σ := [some (.loc 0), some (enc t), none, none]) (h := h)
    (fun x => encW x.1) (nodesR t []) [] (fun x hx => ⟨_, rfl, rfl, rfl⟩) (by rw [nodesR_len]; simp; omega)
  simp only [List.nil_append] at L
  have e : runF GG W (k + 1) j_Offer_init [.loc 0, enc t] [.ins q_Offer []] = .ok .non [.ins q_Offer [(a_root, enc t), (a_words, .str (textR t)), (a_all_paths, .tup ((nodesR t []).map fun x => encW x.1)), (a_step_paths, .tup (((nodesR t []).filter fun x => !x.2.isEnd).map fun x => encW x.1))]] := by
    rw [r_Offer_init, b_Offer_init]
    have p1 : ∀ (v : MV), putA a_root v [] = [(a_root, v)] := fun _ => rfl
    have p2 : ∀ (a v : MV), putA a_words v [(a_root, a)] = [(a_root, a), (a_words, v)] := fun _ _ => rfl
    have p3 : ∀ (a b v : MV), putA a_all_paths v [(a_root, a), (a_words, b)] = [(a_root, a), (a_words, b), (a_all_paths, v)] := fun _ _ _ => rfl
    have p4 : ∀ (a b c v : MV), putA a_step_paths v [(a_root, a), (a_words, b), (a_all_paths, c)] = [(a_root, a), (a_words, b), (a_all_paths, c), (a_step_paths, v)] := fun _ _ _ _ => rfl
    have cl : (GG.cls[q_Offer]?).isSome = true := rfl
    have d0 : ∀ l : List (Nat × MV), l.length < 10 → (decide (l.length < 100)) = true := fun l hl => decide_eq_true (by omega)
    simp only [evSs, evS, evE, evL, evO, evTs, List.getElem?_cons_zero, List.getElem?_cons_succ, List.set_cons_zero, List.set_cons_succ, truth, cltI, cleI, cgtI, cgeI, ceqI, cneI, gt0, gt1, gt2, gt3, gl0, gl1, addI, subI, fin_rt, fin_nx, glo_is_cost, I, X, p1, cl, List.length_nil, List.length_cons, Bool.not_true, Nat.zero_add, Nat.reduceAdd, Nat.reduceLT, decide_true, Bool.and_self, if_true, p2, N, specB, seqOf, wipeM, L, blt, bTuple, asSeq, p3, S, p4]
  unfold newO
  have e1 : GG.cls[q_Offer]? = some ⟨[a_root, a_words, a_all_paths, a_step_paths], j_Offer_init⟩ := rfl
  rw [e1]
  dsimp only
  rw [fixL1 (fix_enc t) fixL0]
  dsimp only
  rw [e]
  dsimp only
  rw [if_pos]
  · rfl
  · have f2 := fix_offS t
    unfold offS at f2
    simp only [List.map_cons, List.map_nil, f2]
    rfl
/-- its tree -/
theorem c_offer_tree {k : Nat} {h : MH} {t : Tr} (hk : 1 ≤ k) : callD GG (runF GG W k) j_Offer_tree [offM t] h = .ok (enc t) h := by
  obtain ⟨k, rfl⟩ : ∃ m, k = m + 1 := ⟨k - 1, by omega⟩
  refine Pc.call (Pc.mk (h := []) ?_ (fix_enc t)) g_Offer_tree rfl (fixL1 (fix_offM t) fixL0) h
  have g : getF GG a_root [] (offM t) = some (enc t) := rfl
  rw [r_Offer_tree, b_Offer_tree]
  simp only [evSs, evS, evE, evL, evO, evTs, List.getElem?_cons_zero, List.getElem?_cons_succ, List.set_cons_zero, List.set_cons_succ, truth, cltI, cleI, cgtI, cgeI, ceqI, cneI, gt0, gt1, gt2, gt3, gl0, gl1, addI, subI, fin_rt, fin_nx, g]
end
end Lw

namespace Lw
open PySem L2 Mi
/-! T2: how long a value's text is. -/
/-! signs that are in order -/
theorem sok_of (z : String) : PyData.strOk (Str.ofString z) = true := by
  unfold PyData.strOk
  rw [PySem.Str.ofString_eq_toList]
  have e0 : ∀ l : List Nat, (l.all fun c => decide (c < 0x110000)) = true → (l.toArray.all fun c => decide (c < 0x110000)) = true := fun l h => by simpa using h
  refine e0 _ ?_
  rw [List.all_eq_true]
  intro c hc
  obtain ⟨x, _, rfl⟩ := List.mem_map.mp hc
  · refine decide_eq_true ?_
    have := x.valid
    unfold UInt32.isValidChar Nat.isValidChar at this
    have e : x.toNat = x.val.toNat := rfl
    rw [e]
    omega
theorem sok_app {a b : Str} (ha : PyData.strOk a = true) (hb : PyData.strOk b = true) : PyData.strOk (a ++ b) = true := by
  unfold PyData.strOk at ha hb ⊢
  have e : (a ++ b).cps = a.cps ++ b.cps := PySem.Str.cps_append a b
  rw [e, Array.all_append, ha, hb]
  rfl
theorem sok_join {a : Str} (ha : PyData.strOk a = true) : ∀ ts : List Str, (∀ t ∈ ts, PyData.strOk t = true) → PyData.strOk (Str.join a ts) = true
  | [], _ => by show PyData.strOk Str.empty = true; decide +kernel
  | [x], h => h x (List.mem_cons_self ..)
  | x :: y :: r, h => sok_app (sok_app (h x (List.mem_cons_self ..)) ha) (sok_join ha (y :: r) fun t ht => h t (List.mem_cons_of_mem _ ht))
def Sh (n k : Nat) (v : MV) : Prop := ∃ d : PyData, v.pd = some d ∧ d.canLay0 = true ∧ d.depth ≤ k ∧ d.showable = true ∧ d.shown.length ≤ n ∧ PyData.strOk d.shown = true
def ShL (n k : Nat) (l : List MV) : Prop := ∃ ds : List PyData, pdL l = some ds ∧ PyData.canLayAll0 ds = true ∧ PyData.depthAll ds ≤ k ∧ PyData.showableAll ds = true ∧ ((PyData.shownAll ds).map (·.length)).sum + 2 * ds.length ≤ n ∧ ∀ t ∈ PyData.shownAll ds, PyData.strOk t = true
theorem Sh.weak {n m k j : Nat} {v : MV} (h : Sh n k v) (a : n ≤ m) (b : k ≤ j) : Sh m j v := by
  obtain ⟨d, h1, h2, h3, h4, h5, h6⟩ := h
  exact ⟨d, h1, h2, by omega, h4, by omega, h6⟩
theorem ShL.nil {k : Nat} : ShL 0 k [] := ⟨[], rfl, rfl, Nat.zero_le _, rfl, Nat.le_refl _, fun _ z => by cases z⟩
theorem ShL.cons {n m k : Nat} {v : MV} {l : List MV} (h : Sh n k v) (t : ShL m k l) : ShL (n + m + 2) k (v :: l) := by
  obtain ⟨d, h1, h2, h3, h4, h5, h6⟩ := h
  obtain ⟨ds, t1, t2, t3, t4, t5, t6⟩ := t
  refine ⟨d :: ds, by rw [pdL, h1, t1], by rw [PyData.canLayAll0, h2, t2]; rfl, ?_, by rw [PyData.showableAll, h4, t4]; rfl, ?_, fun x hx => ?_⟩
  · rw [PyData.depthAll]; omega
  · rw [PyData.shownAll]
    simp only [List.map_cons, List.sum_cons, List.length_cons]
    omega
  · rw [PyData.shownAll] at hx
    rcases List.mem_cons.mp hx with rfl | hx
    · exact h6
    · exact t6 x hx
theorem shA_len : ∀ ds : List PyData, (PyData.shownAll ds).length = ds.length
  | [] => rfl
  | d :: ds => by rw [PyData.shownAll, List.length_cons, shA_len ds, List.length_cons]
theorem tupText_len (ts : List Str) : (PySem.tupleText ts).length ≤ (ts.map (·.length)).sum + 2 * ts.length + 3 := by
  unfold PySem.tupleText
  rw [PySem.Str.length_append, PySem.Str.length_append]
  have j := PySem.StrLaws.join_length_le (", " : String) ts
  have e2 : ((", " : String) : Str).length = 2 := rfl
  have e1 : ((("(" : String) : Str)).length = 1 := rfl
  have e3 : (((if ts.length == 1 then ",)" else ")" : String) : Str)).length ≤ 2 := by split <;> decide
  rw [e2] at j
  omega
theorem Sh.tup {n k : Nat} {l : List MV} (t : ShL n k l) : Sh (n + 3) (k + 1) (.tup l) := by
  obtain ⟨ds, t1, t2, t3, t4, t5, t6⟩ := t
  refine ⟨.tuple ds, by rw [MV.pd, t1]; rfl, by rw [PyData.canLay0]; exact t2, ?_, by rw [PyData.showable]; exact t4, ?_, ?_⟩
  · rw [PyData.depth]; omega
  · rw [PyData.shown]
    have := tupText_len (PyData.shownAll ds)
    rw [shA_len] at this
    omega
  · rw [PyData.shown]
    unfold PySem.tupleText
    refine sok_app (sok_app (sok_of _) (sok_join (sok_of _) _ t6)) ?_
    split <;> exact sok_of _
theorem Sh.int {b k : Nat} {i : Int} (h0 : 0 < b) (hb : b ≤ 1500) (h : i.natAbs < 2 ^ b) : Sh (b + 1) k (.int i) := by
  have l : i.natAbs.log2 < b := PySem.Flt.log2_lt_of h0 h
  refine ⟨.int i, rfl, rfl, Nat.zero_le _, ?_, ?_, sok_of _⟩
  · rw [PyData.showable]
    exact decide_eq_true (by omega)
  · rw [PyData.shown]
    show (Str.ofString (toString i)).length ≤ _
    rw [PySem.ofString_length]
    exact PySem.int_text_length_le h0 l
theorem Sh.non {k : Nat} : Sh 4 k .non := ⟨.none, rfl, rfl, Nat.zero_le _, rfl, by decide, sok_of _⟩
theorem Sh.str {n k : Nat} {s : Str} (o : PyData.strOk s = true) (h : (PySem.reprText s).length ≤ n) (h2 : PyData.strOk (PySem.reprText s) = true) : Sh n k (.str s) := ⟨.str s, rfl, by rw [PyData.canLay0]; exact o, Nat.zero_le _, rfl, by rw [PyData.shown]; exact h, by rw [PyData.shown]; exact h2⟩
theorem Sh.repr {n k : Nat} {l : List MV} {h : MH} (t : Sh n k (.tup l)) (hk : k ≤ 64) (hn : n ≤ 100000) : ∃ s, PyData.strOk s = true ∧ blt .repr [.tup l] h = .ok (.str s) h := by
  obtain ⟨d, h1, h2, h3, h4, h5, h6⟩ := t
  refine ⟨d.shown, h6, ?_⟩
  show bRepr [.tup l] h = _
  unfold bRepr
  dsimp only
  rw [h1]
  dsimp only
  rw [sh0 h2 (by omega), h4, decide_eq_true (show d.shown.length ≤ 100000 by omega)]
  rfl
theorem neSame {G : Gm} {h : MH} {s : Str} (o : PyData.strOk s = true) : copG G .ne (.str s) (.str s) h = .ok (.bl false) h := cneS false o o (by simp)
/-- fractions -/
theorem sh_fr {q : Rat} {D k : Nat} (b : Bd D (2 ^ 24) q) (D0 : 0 < D) (D1 : D ≤ 2 ^ 1400) : Sh 2850 (k + 1) (fr q) := by
  have n : q.num.natAbs < 2 ^ 1425 := by
    have h1 := (b.parts D0).2
    have e : (2 : Nat) ^ 1425 = 2 ^ 1401 * 2 ^ 24 := Nat.pow_add 2 1401 24
    have h2 : 2 ^ 24 * D ≤ 2 ^ 24 * 2 ^ 1400 := Nat.mul_le_mul_left _ D1
    have e2 : (2 : Nat) ^ 1401 = 2 ^ 1400 * 2 := Nat.pow_succ ..
    have h3 : (0 : Nat) < 2 ^ 1400 := Nat.pow_pos (by decide)
    omega
  have d : q.den < 2 ^ 1401 := by
    have h1 := (b.parts D0).1
    have e2 : (2 : Nat) ^ 1401 = 2 ^ 1400 * 2 := Nat.pow_succ ..
    have h3 : (0 : Nat) < 2 ^ 1400 := Nat.pow_pos (by decide)
    omega
  have h1 : Sh 1426 k (.int q.num) := Sh.int (by decide) (by decide) n
  have h2 : Sh 1402 k (.int (q.den : Int)) := Sh.int (b := 1401) (by decide) (by decide) (by omega)
  exact (Sh.tup (ShL.cons h1 (ShL.cons h2 ShL.nil))).weak (by omega) (Nat.le_refl _)
/-! ### trees -/
mutual
theorem sh_enc : ∀ t : Tr, t.ok → Sh (200 * t.size) (3 * t.deep + 1) (enc t)
  | .en w, ok => by
    rw [Tr.ok] at ok
    rw [enc, Tr.size, Tr.deep]
    have h2 : Sh 21 0 (.int w) := Sh.int (b := 20) (by decide) (by decide) (by omega)
    have h1 : Sh 5 0 (.str sEnd) := Sh.str (by decide +kernel) (by decide +kernel) (by decide +kernel)
    exact (Sh.tup (ShL.cons h1 (ShL.cons h2 ShL.nil))).weak (by omega) (by omega)
  | .st c bs, ok => by
    rw [Tr.ok] at ok
    have B := sh_encB bs ok.2.2.2
    rw [enc, Tr.size, Tr.deep]
    have h1 : Sh 6 (3 * bs.deep + 2 + 1) (.str sStep) := Sh.str (by decide +kernel) (by decide +kernel) (by decide +kernel)
    have h2 : Sh 21 (3 * bs.deep + 2 + 1) (.int (c : Int)) := Sh.int (b := 20) (by decide) (by decide) (by omega)
    have l5 := ok.2.2.1
    exact (Sh.tup (ShL.cons h1 (ShL.cons h2 (ShL.cons (Sh.tup B) ShL.nil)))).weak (by omega) (by omega)
theorem sh_encB : ∀ bs : Bs, bs.ok → ShL (30 * bs.list.length + 200 * bs.size) (3 * bs.deep + 2) (encB bs)
  | .nil, _ => by rw [encB]; exact ShL.nil
  | .cons w t bs, ok => by
    rw [Bs.ok] at ok
    have T := sh_enc t ok.2.1
    have R := sh_encB bs ok.2.2
    rw [encB, Bs.list, Bs.size, Bs.deep, List.length_cons]
    have h1 : Sh 11 (3 * t.deep + 1) (.int (w : Int)) := Sh.int (b := 10) (by decide) (by decide) (by omega)
    have P := Sh.tup (ShL.cons h1 (ShL.cons T ShL.nil))
    have key : ∀ {n k m j : Nat} {l : List MV}, ShL n k l → n ≤ m → k ≤ j → ShL m j l := fun ⟨ds, a1, a2, a3, a4, a5, a6⟩ x y => ⟨ds, a1, a2, by omega, a4, by omega, a6⟩
    have R2 := key R (Nat.le_refl _) (show 3 * bs.deep + 2 ≤ 3 * max t.deep bs.deep + 2 by omega)
    exact key (ShL.cons (P.weak (Nat.le_refl _) (show _ ≤ 3 * max t.deep bs.deep + 2 by omega)) R2) (by omega) (Nat.le_refl _)
end
end Lw

namespace Lw
open PySem L2 Mi
/-! T3: the claim about a pair, the program's and the law's. -/
def partR (s t : Tr) : Option Rat := (placesR (tableR s) (tableR t)).find? fun m => decide (rst (tableR s) m < rst (tableR t) m)
def claimR (s t : Tr) : MV := if dAlike s t then cAlike s t else match partR s t with
  | none => cNever s t
  | some m => cApart s t m
theorem fix_claimR (s t : Tr) : (claimR s t).fix = true := by
  unfold claimR
  split
  · exact fix_cAlike
  · split
    · exact fix_cNever
    · exact fix_cApart
theorem find_min {P : Rat → Bool} : ∀ {l : List Rat} {m : Rat}, l.Pairwise (· < ·) → l.find? P = some m → m ∈ l ∧ P m = true ∧ ∀ y ∈ l, P y = true → m ≤ y
  | [], _, _, h => by cases h
  | x :: l, m, p, h => by
    rw [List.find?_cons] at h
    rw [List.pairwise_cons] at p
    cases c : P x with
    | true =>
      rw [c] at h
      cases h
      refine ⟨List.mem_cons_self .., c, fun y hy _ => ?_⟩
      rcases List.mem_cons.mp hy with rfl | hy
      · exact Rat.le_refl
      · exact Rat.le_of_lt (p.1 y hy)
    | false =>
      rw [c] at h
      obtain ⟨h1, h2, h3⟩ := find_min p.2 h
      refine ⟨List.mem_cons_of_mem _ h1, h2, fun y hy q => ?_⟩
      rcases List.mem_cons.mp hy with rfl | hy
      · rw [c] at q; cases q
      · exact h3 y hy q
def minQ (b : Rat) (ms : List Rat) : Rat := ms.foldl (fun b m => if m < b then m else b) b
theorem minQ_ok : ∀ (ms : List Rat) (b : Rat), (minQ b ms = b ∨ minQ b ms ∈ ms) ∧ minQ b ms ≤ b ∧ ∀ m ∈ ms, minQ b ms ≤ m
  | [], b => ⟨.inl rfl, Rat.le_refl, fun _ z => by cases z⟩
  | m :: ms, b => by
    obtain ⟨h1, h2, h3⟩ := minQ_ok ms (if m < b then m else b)
    have e : minQ b (m :: ms) = minQ (if m < b then m else b) ms := rfl
    rw [e]
    by_cases c : m < b
    · simp only [c, if_true] at h1 h2 h3 ⊢
      refine ⟨?_, by grind, fun x hx => ?_⟩
      · rcases h1 with h | h
        · rw [h]; exact .inr (List.mem_cons_self ..)
        · exact .inr (List.mem_cons_of_mem _ h)
      · rcases List.mem_cons.mp hx with rfl | hx
        · exact h2
        · exact h3 x hx
    · simp only [c, if_false] at h1 h2 h3 ⊢
      refine ⟨?_, h2, fun x hx => ?_⟩
      · rcases h1 with h | h
        · exact .inl h
        · exact .inr (List.mem_cons_of_mem _ h)
      · rcases List.mem_cons.mp hx with rfl | hx
        · grind
        · exact h3 x hx
/-- the law's lower marks -/
def lowR (s t : Tr) : List Rat := (marksR (capsR s) (capsR t)).filter fun m => decide (rst (capsR s) m - rst (capsR t) m < 0)
theorem mem_low {s t : Tr} (hs : s.ok) (ht : t.ok) {m : Rat} : m ∈ lowR s t ↔ m ∈ placesR (tableR s) (tableR t) ∧ decide (rst (tableR s) m < rst (tableR t) m) = true := by
  unfold lowR
  rw [List.mem_filter, places_marks hs ht, rst_same hs, rst_same ht, decide_eq_true_iff, decide_eq_true_iff]
  constructor
  · rintro ⟨a, b⟩; exact ⟨a, by grind⟩
  · rintro ⟨a, b⟩; exact ⟨a, by grind⟩
theorem low_nil {s t : Tr} (hs : s.ok) (ht : t.ok) : lowR s t = [] ↔ partR s t = none := by
  unfold partR
  rw [List.find?_eq_none, List.eq_nil_iff_forall_not_mem]
  constructor
  · intro h m hm c
    exact h m ((mem_low hs ht).mpr ⟨hm, by simpa using c⟩)
  · intro h m hm
    have := (mem_low hs ht).mp hm
    exact h m this.1 (by simpa using this.2)
theorem low_min {s t : Tr} (hs : s.ok) (ht : t.ok) {x : Rat} {ms : List Rat} (e : lowR s t = x :: ms) : partR s t = some (minQ x (x :: ms)) := by
  cases c : partR s t with
  | none => rw [(low_nil hs ht).mpr c] at e; cases e
  | some m =>
    unfold partR at c
    obtain ⟨h1, h2, h3⟩ := find_min (sortQ_sorted (places_nd (tableR s) (tableR t))) c
    obtain ⟨q1, q2, q3⟩ := minQ_ok (x :: ms) x
    have mm : minQ x (x :: ms) ∈ lowR s t := by
      rw [e]
      rcases q1 with q | q
      · rw [q]; exact List.mem_cons_self ..
      · exact q
    obtain ⟨p1, p2⟩ := (mem_low hs ht).mp mm
    have l1 := h3 _ p1 p2
    have l2 := q3 m (by rw [← e]; exact (mem_low hs ht).mpr ⟨h1, h2⟩)
    rw [show m = minQ x (x :: ms) by grind]
theorem all_alike {s t : Tr} (hs : s.ok) (ht : t.ok) : (marksR (capsR s) (capsR t)).all (fun m => decide (rst (capsR s) m - rst (capsR t) m = 0)) = dAlike s t := by
  rw [alike_eq hs ht, Bool.eq_iff_iff]
  unfold alikeL gapsL
  rw [filter_empty, List.all_eq_true]
  constructor
  · intro h x hx
    obtain ⟨m, hm, rfl⟩ := List.mem_map.mp hx
    have := h m hm
    rw [this]
    rfl
  · intro h m hm
    have := h _ (List.mem_map.mpr ⟨m, hm, rfl⟩)
    simpa using this
section
variable {W : Nat}
theorem c_check_offer {k : Nat} {h : MH} {t : Tr} (hk : 1 ≤ k) : callD GG (runF GG W k) j_check_offer [offM t] h = .ok .non h := by
  obtain ⟨k, rfl⟩ : ∃ m, k = m + 1 := ⟨k - 1, by omega⟩
  refine Pc.call (Pc.mk (h := []) ?_ rfl) g_check_offer rfl (fixL1 (fix_offM t) fixL0) h
  rw [r_check_offer, b_check_offer]
  have cm : clsM [] (offM t) = some q_Offer := rfl
  have cl : (GG.cls[q_Offer]?).isSome = true := rfl
  simp only [evSs, evS, evE, evL, evO, evTs, List.getElem?_cons_zero, List.getElem?_cons_succ, List.set_cons_zero, List.set_cons_succ, truth, cltI, cleI, cgtI, cgeI, ceqI, cneI, gt0, gt1, gt2, gt3, gl0, gl1, addI, subI, fin_rt, fin_nx, cm, cl, decide_true, Bool.and_self, if_true, Bool.not_true]
theorem c_tables {k : Nat} {h : MH} {s t : Tr} (hs : Nr s) (ht : Nr t) (hW : 20000 ≤ W) (hk : 18 ≤ k) : callD GG (runF GG W k) j_tables [offM s, offM t] h = .ok (.tup [enT (tableR s), enT (tableR t)]) h := by
  obtain ⟨k, rfl⟩ : ∃ m, k = m + 1 := ⟨k - 1, by omega⟩
  refine Pc.call (Pc.mk (h := []) ?_ (fixT (fixL1 (fix_enT _) (fixL1 (fix_enT _) fixL0)))) g_tables rfl (fixL1 (fix_offM s) (fixL1 (fix_offM t) fixL0)) h
  have cm : ∀ (h : MH) (t : Tr), clsM h (offM t) = some q_Offer := fun _ _ => rfl
  have pf : prF GG q_Offer p_tree = some j_Offer_tree := rfl
  have ds := hs.dp
  have dt := ht.dp
  have C1 := c_table_of (W := W) s k [] hs.ok hs.sz hW (by omega)
  have C2 := c_table_of (W := W) t k [] ht.ok ht.sz hW (by omega)
  rw [r_tables, b_tables]
  simp only [evSs, evS, evE, evL, evO, evTs, List.getElem?_cons_zero, List.getElem?_cons_succ, List.set_cons_zero, List.set_cons_succ, truth, cltI, cleI, cgtI, cgeI, ceqI, cneI, gt0, gt1, gt2, gt3, gl0, gl1, addI, subI, fin_rt, fin_nx, c_check_offer (W := W) (k := k) (h := []) (show 1 ≤ k by omega), cm, pf, c_offer_tree (W := W) (k := k) (h := []) (show 1 ≤ k by omega), C1, C2]
theorem c_certify {k : Nat} {h : MH} {s t : Tr} (hs : Nr s) (ht : Nr t) (hW : 20000 ≤ W) (hk : 19 ≤ k) : callD GG (runF GG W k) j_certify_pair [offM s, offM t] h = .ok (.tup [claimR s t, .non]) h := by
  obtain ⟨k, rfl⟩ : ∃ m, k = m + 1 := ⟨k - 1, by omega⟩
  refine Pc.call (Pc.mk (h := []) ?_ (fixT (fixL1 (fix_claimR s t) (fixL1 rfl fixL0)))) g_certify_pair rfl (fixL1 (fix_offM s) (fixL1 (fix_offM t) fixL0)) h
  have cm : ∀ (h : MH) (t : Tr), clsM h (offM t) = some q_Offer := fun _ _ => rfl
  have pf : prF GG q_Offer p_tree = some j_Offer_tree := rfl
  have T := c_tables (W := W) (k := k) (h := []) hs ht hW (by omega)
  obtain ⟨V, M, X⟩ := tabd hs.ok
  obtain ⟨V', M', Y⟩ := tabd ht.ok
  have U := c_first_unlike (W := W) (k := k) (h := []) (X.tb hs.ok hs.sz).1 (Y.tb ht.ok ht.sz).1 hW (by omega)
  have L := c_first_less (W := W) (k := k) (h := []) (X.tb hs.ok hs.sz).1 (Y.tb ht.ok ht.sz).1 hW (by omega)
  have st : ∀ a b : MV, stT (.tup [.nm 3, .nm 4]) (.tup [a, b]) [some (offM s), some (offM t), none, none, none] [] = some [some (offM s), some (offM t), none, some a, some b] := fun _ _ => rfl
  rw [r_certify_pair, b_certify_pair]
  unfold claimR dAlike partR
  cases e : (placesR (tableR s) (tableR t)).find? fun m => !decide (rst (tableR s) m = rst (tableR t) m) with
  | none =>
    rw [e] at U
    simp only [optM] at U
    simp only [evSs, evS, evE, evL, evO, evTs, List.getElem?_cons_zero, List.getElem?_cons_succ, List.set_cons_zero, List.set_cons_succ, truth, cltI, cleI, cgtI, cgeI, ceqI, cneI, gt0, gt1, gt2, gt3, gl0, gl1, addI, subI, fin_rt, fin_nx, T, st, U, cm, pf, c_offer_tree (W := W) (k := k) (h := []) (show 1 ≤ k by omega)]
    rfl
  | some q =>
    rw [e] at U
    simp only [optM, fr] at U
    cases e2 : (placesR (tableR s) (tableR t)).find? fun m => decide (rst (tableR s) m < rst (tableR t) m) with
    | none =>
      rw [e2] at L
      simp only [optM] at L
      simp only [evSs, evS, evE, evL, evO, evTs, List.getElem?_cons_zero, List.getElem?_cons_succ, List.set_cons_zero, List.set_cons_succ, truth, cltI, cleI, cgtI, cgeI, ceqI, cneI, gt0, gt1, gt2, gt3, gl0, gl1, addI, subI, fin_rt, fin_nx, T, st, U, L, cm, pf, c_offer_tree (W := W) (k := k) (h := []) (show 1 ≤ k by omega)]
      rfl
    | some m =>
      rw [e2] at L
      simp only [optM, fr] at L
      simp only [evSs, evS, evE, evL, evO, evTs, List.getElem?_cons_zero, List.getElem?_cons_succ, List.set_cons_zero, List.set_cons_succ, truth, cltI, cleI, cgtI, cgeI, ceqI, cneI, gt0, gt1, gt2, gt3, gl0, gl1, addI, subI, fin_rt, fin_nx, T, st, U, L, cm, pf, c_offer_tree (W := W) (k := k) (h := []) (show 1 ≤ k by omega)]
      rfl
end
end Lw

namespace Lw
open PySem L2 Mi
/-! T4: the claim that is due, by the law. -/
theorem num_neg {g : Rat} : decide (g.num < (0 : Int)) = decide (g < 0) := decide_eq_decide.mpr ⟨fun z => by
    have := Rat.num_nonneg (q := g)
    apply Classical.byContradiction
    intro z2
    have := this.mpr (by grind)
    omega, fun z => by
    have := Rat.num_nonneg (q := g)
    apply Classical.byContradiction
    intro z2
    have := this.mp (by omega)
    grind⟩
theorem num_nul {g : Rat} : decide (g.num = (0 : Int)) = decide (g = 0) := decide_eq_decide.mpr Rat.num_eq_zero
theorem due_fold (P Z : Rat → Bool) (G : Rat → MV) : ∀ (ms l : List Rat) (a : Bool) (x y : Option MV), ∃ x' y', ms.foldl (fun (s : List Rat × Bool × Option MV × Option MV) m => (s.1 ++ (if P m then [m] else []), s.2.1 && Z m, some (fr m), some (G m))) (l, a, x, y) = (l ++ ms.filter P, a && ms.all Z, x', y')
  | [], l, a, x, y => ⟨x, y, by simp⟩
  | m :: ms, l, a, x, y => by
    obtain ⟨x', y', e⟩ := due_fold P Z G ms (l ++ (if P m then [m] else [])) (a && Z m) (some (fr m)) (some (G m))
    refine ⟨x', y', ?_⟩
    rw [List.foldl_cons, e]
    cases c : P m <;> simp [c, Bool.and_assoc]
section
variable {W : Nat}
theorem c_due {k : Nat} {h : MH} {s t : Tr} (hs : Nr s) (ht : Nr t) (hW : 20000 ≤ W) (hk : 16 ≤ k) : callD GG (runF GG W k) j_l_due [enc s, enc t] h = .ok (claimR s t) h := by
  obtain ⟨k, rfl⟩ : ∃ m, k = m + 1 := ⟨k - 1, by omega⟩
  refine Pc.call (Pc.mk (h := []) ?_ (fix_claimR s t)) g_l_due rfl (fixL1 (fix_enc s) (fixL1 (fix_enc t) fixL0)) h
  have ds := hs.dp
  have dt := ht.dp
  have C1 := c_l_caps (W := W) s k [] hs.ok hs.sz hW (by omega)
  have C2 := c_l_caps (W := W) t k [] ht.ok ht.sz hW (by omega)
  obtain ⟨V, M, X⟩ := tabd hs.ok
  obtain ⟨V', M', Y⟩ := tabd ht.ok
  have TX := (X.tb hs.ok hs.sz).2
  have TY := (Y.tb ht.ok ht.sz).2
  have l1 := X.c.ln
  have l2 := Y.c.ln
  have l3 := hs.sz
  have l4 := ht.sz
  have lm := len_marks hs ht
  have aj : bop .add (enL (capsR s)) (enL (capsR t)) [] = .ok (.lst ((capsR s ++ capsR t).map enP)) [] := by
    rw [List.map_append]
    exact addL (by simp; omega)
  have L1 := loopC_fm (α := Rat × Rat) (t := .tup [.nm 8, .nm 9]) (tt := fun σ h => evTs GG (runF GG W k) ct_l_due σ h) (e := fun σ h => evE GG (runF GG W k) ce_l_due σ h) (enc := enP)
    (σ := [some (enc s), some (enc t), none, none, some (.lst [enL (capsR s), enL (capsR t)]), some (.lst []), some (.bl true), none, none, none, none]) (h := [])
    (fun e => decide (0 < e.1)) (fun e => fr e.1) (capsR s ++ capsR t) [] (fun e he => ⟨_, st_enP, by
      have g : getIx GG (fr e.1) (.int 0) [] = .ok (.int e.1.num) [] := gt0
      have dn : decide ((0 : Int) < e.1.num) = decide (0 < e.1) := decide_eq_decide.mpr ⟨fun z => by
        have := Rat.num_nonneg (q := e.1)
        apply Rat.lt_of_le_of_ne (this.mp (by omega))
        intro z2
        rw [← z2] at z
        exact absurd z (by decide), num_pos'⟩
      simp only [ct_l_due, evSs, evS, evE, evL, evO, evTs, List.getElem?_cons_zero, List.getElem?_cons_succ, List.set_cons_zero, List.set_cons_succ, truth, cltI, cleI, cgtI, cgeI, ceqI, cneI, gt0, gt1, gt2, gt3, gl0, gl1, addI, subI, fin_rt, fin_nx, g, dn], fun _ => by simp only [ce_l_due, evSs, evS, evE, evL, evO, evTs, List.getElem?_cons_zero, List.getElem?_cons_succ, List.set_cons_zero, List.set_cons_succ, truth, cltI, cleI, cgtI, cgeI, ceqI, cneI, gt0, gt1, gt2, gt3, gl0, gl1, addI, subI, fin_rt, fin_nx]⟩) (by simp; omega)
  rw [List.nil_append] at L1
  have am : bop .add (.lst [.tup [.int 0, .int 1]]) (.lst (((capsR s ++ capsR t).filter fun e => decide (0 < e.1)).map fun e => fr e.1)) [] = .ok (.lst ((marksR (capsR s) (capsR t)).map fr)) [] := by
    have e : (marksR (capsR s) (capsR t)).map fr = [.tup [.int 0, .int 1]] ++ ((capsR s ++ capsR t).filter fun e => decide (0 < e.1)).map fun e => fr e.1 := by
      unfold marksR
      rw [List.map_cons, List.map_map]
      rfl
    rw [e]
    refine addL ?_
    have := List.length_filter_le (fun e : Rat × Rat => decide (0 < e.1)) (capsR s ++ capsR t)
    simp only [List.length_cons, List.length_nil, List.length_map, List.length_append] at this ⊢
    omega
  have L := loopF_fold (α := Rat) (S := List Rat × Bool × Option MV × Option MV) (t := .nm 2) (b := fun σ h => evSs GG (runF GG W k) W fb_l_due σ h) (enc := fr)
    (fun s' m => (s'.1 ++ (if decide (rst (capsR s) m - rst (capsR t) m < 0) then [m] else []), s'.2.1 && decide (rst (capsR s) m - rst (capsR t) m = 0), some (fr m), some (fr (rst (capsR s) m - rst (capsR t) m))))
    (fun s' => [some (enc s), some (enc t), s'.2.2.1, none, some (.lst [enL (capsR s), enL (capsR t)]), some (.lst (s'.1.map fr)), some (.bl s'.2.1), s'.2.2.2, none, none, none]) (fun _ => [])
    (fun xs s' => (∀ m ∈ xs, m ∈ marksR (capsR s) (capsR t)) ∧ s'.1.length + xs.length ≤ 1000)
    (fun m xs s' i => by
      obtain ⟨i1, i2⟩ := i
      obtain ⟨ls, al, x0, y0⟩ := s'
      have hm := i1 m (List.mem_cons_self ..)
      simp only [List.length_cons] at i2
      refine ⟨⟨fun x hx => i1 x (List.mem_cons_of_mem _ hx), by dsimp only; rw [List.length_append]; split <;> simp <;> omega⟩, _, st_nm, ?_⟩
      obtain ⟨D, bx, D0, D1, _, _⟩ := marks_bd hs ht hm
      have A1 := c_l_above (W := W) (k := k) (h := []) TX bx D0 (pow1400 D1) hW (by omega)
      have A2 := c_l_above (W := W) (k := k) (h := []) TY bx D0 (pow1400 D1) hW (by omega)
      have A3 := c_l_gap (W := W) (k := k) (h := []) (TX.rs bx D0 (pow1400 D1)).2 (TY.rs bx D0 (pow1400 D1)).2 hW (by omega)
      generalize rst (capsR s) m - rst (capsR t) m = g at *
      have gg : getIx GG (fr g) (.int 0) [] = .ok (.int g.num) [] := gt0
      have ei : ∀ σ : MS, evI GG (runF GG W k) (.rng1 (.int 1)) σ [] = .ok [.int 0] [] := fun σ => by
        unfold evI
        dsimp only [specB]
        rw [evR]
        simp only [evE, show mid 1 = true from by decide +kernel, if_true]
        rfl
      have E1 : evS GG (runF GG W k) W (.set 7 (.call j_l_gap [.call j_l_above [.idx (.var 4) (.int 0), .var 2], .call j_l_above [.idx (.var 4) (.int 1), .var 2]])) [some (enc s), some (enc t), some (fr m), none, some (.lst [enL (capsR s), enL (capsR t)]), some (.lst (ls.map fr)), some (.bl al), y0, none, none, none] [] =
          .nx [some (enc s), some (enc t), some (fr m), none, some (.lst [enL (capsR s), enL (capsR t)]), some (.lst (ls.map fr)), some (.bl al), some (fr g), none, none, none] [] := by
        simp only [evSs, evS, evE, evL, evO, evTs, List.getElem?_cons_zero, List.getElem?_cons_succ, List.set_cons_zero, List.set_cons_succ, truth, cltI, cleI, cgtI, cgeI, ceqI, cneI, gt0, gt1, gt2, gt3, gl0, gl1, addI, subI, fin_rt, fin_nx, A1, A2, A3]
      have E2 : evS GG (runF GG W k) W (.set 6 (.and (.var 6) (.cmp .eq (.idx (.var 7) (.int 0)) (.int 0)))) [some (enc s), some (enc t), some (fr m), none, some (.lst [enL (capsR s), enL (capsR t)]), some (.lst (ls.map fr)), some (.bl al), some (fr g), none, none, none] [] =
          .nx [some (enc s), some (enc t), some (fr m), none, some (.lst [enL (capsR s), enL (capsR t)]), some (.lst (ls.map fr)), some (.bl (al && decide (g = 0))), some (fr g), none, none, none] [] := by
        cases al
        · simp only [evSs, evS, evE, evL, evO, evTs, List.getElem?_cons_zero, List.getElem?_cons_succ, List.set_cons_zero, List.set_cons_succ, truth, cltI, cleI, cgtI, cgeI, ceqI, cneI, gt0, gt1, gt2, gt3, gl0, gl1, addI, subI, fin_rt, fin_nx, Bool.false_and]
        · simp only [evSs, evS, evE, evL, evO, evTs, List.getElem?_cons_zero, List.getElem?_cons_succ, List.set_cons_zero, List.set_cons_succ, truth, cltI, cleI, cgtI, cgeI, ceqI, cneI, gt0, gt1, gt2, gt3, gl0, gl1, addI, subI, fin_rt, fin_nx, gg, num_nul, Bool.true_and]
      have LC : loopC (.nm 10) (fun σ h => evTs GG (runF GG W k) ct_l_due_1 σ h) (fun σ h => evE GG (runF GG W k) ce_l_due_1 σ h) [some (enc s), some (enc t), some (fr m), none, some (.lst [enL (capsR s), enL (capsR t)]), some (.lst (ls.map fr)), some (.bl (al && decide (g = 0))), some (fr g), none, none, none] [.int 0] [] [] =
          .ok ((if decide (g < 0) then [m] else []).map fr) [] := by
        have := loopC_fm (α := Int) (t := .nm 10) (tt := fun σ h => evTs GG (runF GG W k) ct_l_due_1 σ h) (e := fun σ h => evE GG (runF GG W k) ce_l_due_1 σ h) (enc := .int)
          (σ := [some (enc s), some (enc t), some (fr m), none, some (.lst [enL (capsR s), enL (capsR t)]), some (.lst (ls.map fr)), some (.bl (al && decide (g = 0))), some (fr g), none, none, none]) (h := [])
          (fun _ => decide (g < 0)) (fun _ => fr m) [0] [] (fun _ _ => ⟨_, st_nm, by simp only [ct_l_due_1, evSs, evS, evE, evL, evO, evTs, List.getElem?_cons_zero, List.getElem?_cons_succ, List.set_cons_zero, List.set_cons_succ, truth, cltI, cleI, cgtI, cgeI, ceqI, cneI, gt0, gt1, gt2, gt3, gl0, gl1, addI, subI, fin_rt, fin_nx, gg, num_neg], fun _ => by simp only [ce_l_due_1, evSs, evS, evE, evL, evO, evTs, List.getElem?_cons_zero, List.getElem?_cons_succ, List.set_cons_zero, List.set_cons_succ, truth, cltI, cleI, cgtI, cgeI, ceqI, cneI, gt0, gt1, gt2, gt3, gl0, gl1, addI, subI, fin_rt, fin_nx]⟩) (by simp)
        rw [List.nil_append] at this
        refine this.trans ?_
        cases decide (g < 0) <;> rfl
      have AD : bop .add (.lst (ls.map fr)) (.lst ((if decide (g < 0) then [m] else []).map fr)) [] = .ok (.lst ((ls ++ (if decide (g < 0) then [m] else [])).map fr)) [] := by
        rw [List.map_append]
        refine addL ?_
        rw [List.length_map, List.length_map]
        split <;> simp <;> omega
      have E3 : evS GG (runF GG W k) W (.set 5 (.bin .add (.var 5) (.comp false (.nm 10) (.rng1 (.int 1)) ct_l_due_1 ce_l_due_1 [10]))) [some (enc s), some (enc t), some (fr m), none, some (.lst [enL (capsR s), enL (capsR t)]), some (.lst (ls.map fr)), some (.bl (al && decide (g = 0))), some (fr g), none, none, none] [] =
          .nx [some (enc s), some (enc t), some (fr m), none, some (.lst [enL (capsR s), enL (capsR t)]), some (.lst ((ls ++ (if decide (g < 0) then [m] else [])).map fr)), some (.bl (al && decide (g = 0))), some (fr g), none, none, none] [] := by
        have ec := e_compF (G := GG) (F := runF GG W k) (σ := [some (enc s), some (enc t), some (fr m), none, some (.lst [enL (capsR s), enL (capsR t)]), some (.lst (ls.map fr)), some (.bl (al && decide (g = 0))), some (fr g), none, none, none]) (h := []) (tg := .nm 10) (ifs := ct_l_due_1) (elt := ce_l_due_1) (own := [10]) (ei _) LC
        have v5 : evE GG (runF GG W k) (.var 5) [some (enc s), some (enc t), some (fr m), none, some (.lst [enL (capsR s), enL (capsR t)]), some (.lst (ls.map fr)), some (.bl (al && decide (g = 0))), some (fr g), none, none, none] [] = .ok (.lst (ls.map fr)) [] := rfl
        refine y_set ?_
        rw [evE, v5]
        dsimp only
        rw [ec]
        exact AD
      rw [fb_l_due]
      exact (ss_nx E1).trans ((ss_nx E2).trans (y_last E3)))
    (marksR (capsR s) (capsR t)) ([], true, none, none) ⟨fun _ z => z, by simp only [List.length_nil]; omega⟩
  obtain ⟨x', y', ef⟩ := due_fold (fun m => decide (rst (capsR s) m - rst (capsR t) m < 0)) (fun m => decide (rst (capsR s) m - rst (capsR t) m = 0)) (fun m => fr (rst (capsR s) m - rst (capsR t) m)) (marksR (capsR s) (capsR t)) [] true none none
  have LF := L.1
  rw [ef, all_alike hs.ok ht.ok, Bool.true_and, List.nil_append] at LF
  have el : (marksR (capsR s) (capsR t)).filter (fun m => decide (rst (capsR s) m - rst (capsR t) m < 0)) = lowR s t := rfl
  rw [el] at LF
  dsimp only at LF
  simp only [List.map_nil] at LF
  rw [r_l_due, b_l_due]
  simp only [evSs, evS, evE, evL, List.getElem?_cons_zero, List.getElem?_cons_succ, List.set_cons_zero, List.set_cons_succ, C1, C2, gl0, gl1, aj, evI, specB, seqOf, wipeM, L1, am, LF, truth]
  unfold claimR
  cases ea : dAlike s t with
  | true => rfl
  | false =>
    cases ew : lowR s t with
    | nil =>
      rw [(low_nil hs.ok ht.ok).mp ew]
      simp only [evSs, evS, evE, evL, evO, evTs, List.getElem?_cons_zero, List.getElem?_cons_succ, List.set_cons_zero, List.set_cons_succ, truth, cltI, cleI, cgtI, cgeI, ceqI, cneI, gt0, gt1, gt2, gt3, gl0, gl1, addI, subI, fin_rt, fin_nx, eqNil, List.isEmpty_nil]
      rfl
    | cons x ms =>
      rw [low_min hs.ok ht.ok ew]
      have all_ : ∀ m ∈ x :: ms, fits m := fun m hm => by
        have h2 : m ∈ marksR (capsR s) (capsR t) := (List.mem_filter.mp (show m ∈ (marksR (capsR s) (capsR t)).filter (fun m => decide (rst (capsR s) m - rst (capsR t) m < 0)) by rw [el, ew]; exact hm)).1
        obtain ⟨D, bx, D0, D1, _, _⟩ := marks_bd hs ht h2
        exact bx.fits D0 D1 (Nat.le_refl _) (by decide)
      have L5 := loopF_fold (α := Rat) (S := Rat × Option MV) (t := .nm 2) (b := fun σ h => evSs GG (runF GG W k) W fb_l_due_1 σ h) (enc := fr)
        (fun s' m => (if m < s'.1 then m else s'.1, some (fr m)))
        (fun s' => [some (enc s), some (enc t), s'.2, some (fr s'.1), some (.lst [enL (capsR s), enL (capsR t)]), some (.lst ((x :: ms).map fr)), some (.bl false), y', none, none, none]) (fun _ => [])
        (fun xs s' => (∀ m ∈ xs, m ∈ x :: ms) ∧ fits s'.1)
        (fun m xs s' i => by
          obtain ⟨i1, i2⟩ := i
          have fm := all_ m (i1 m (List.mem_cons_self ..))
          refine ⟨⟨fun z hz => i1 z (List.mem_cons_of_mem _ hz), by dsimp only; split <;> assumption⟩, _, st_nm, ?_⟩
          by_cases c : m < s'.1
          · simp only [fb_l_due_1, evSs, evS, evE, evL, evO, evTs, List.getElem?_cons_zero, List.getElem?_cons_succ, List.set_cons_zero, List.set_cons_succ, truth, cltI, cleI, cgtI, cgeI, ceqI, cneI, gt0, gt1, gt2, gt3, gl0, gl1, addI, subI, fin_rt, fin_nx, c_l_under fm i2 (show 1 ≤ k by omega), c, decide_true, if_true]
          · simp only [fb_l_due_1, evSs, evS, evE, evL, evO, evTs, List.getElem?_cons_zero, List.getElem?_cons_succ, List.set_cons_zero, List.set_cons_succ, truth, cltI, cleI, cgtI, cgeI, ceqI, cneI, gt0, gt1, gt2, gt3, gl0, gl1, addI, subI, fin_rt, fin_nx, c_l_under fm i2 (show 1 ≤ k by omega), c, decide_false, if_false])
        (x :: ms) (x, x') ⟨fun _ z => z, all_ x (List.mem_cons_self ..)⟩
      have LM := L5.1
      dsimp only at LM
      rw [foldl_fst (g := fun (b : Rat) (m : Rat) => if m < b then m else b) (fun _ _ => rfl)] at LM
      have g0 : getIx GG (.lst ((x :: ms).map fr)) (.int 0) [] = .ok (fr x) [] := by
        unfold getIx
        dsimp only [asSeq]
        have : atI ((x :: ms).map fr) 0 = some (fr x) := by
          unfold atI ixN
          simp
        rw [this]
      simp only [evSs, evS, evE, evL, evO, evTs, List.getElem?_cons_zero, List.getElem?_cons_succ, List.set_cons_zero, List.set_cons_succ, truth, cltI, cleI, cgtI, cgeI, ceqI, cneI, gt0, gt1, gt2, gt3, gl0, gl1, addI, subI, fin_rt, fin_nx, eqNil, List.isEmpty_cons, g0, evI, specB, seqOf, LM]
      rfl
end
end Lw

namespace Lw
open PySem L2 Mi
/-! T5: the law about pairs certified. -/
theorem sh_claim {s t : Tr} (hs : Nr s) (ht : Nr t) : Sh 20000 40 (.tup [claimR s t, .non]) := by
  have a := (sh_enc s hs.ok).weak (m := 3000) (j := 30) (by have := hs.sz; omega) (by have := hs.dp; omega)
  have b := (sh_enc t ht.ok).weak (m := 3000) (j := 30) (by have := ht.sz; omega) (by have := ht.dp; omega)
  have key : Sh 10000 31 (claimR s t) := by
    unfold claimR
    split
    · have c : Sh 10 30 (.str sAlike) := Sh.str (by decide +kernel) (by decide +kernel) (by decide +kernel)
      exact (Sh.tup (ShL.cons c (ShL.cons a (ShL.cons b ShL.nil)))).weak (by omega) (by omega)
    · split
      · have c : Sh 10 30 (.str sNever) := Sh.str (by decide +kernel) (by decide +kernel) (by decide +kernel)
        exact (Sh.tup (ShL.cons c (ShL.cons a (ShL.cons b ShL.nil)))).weak (by omega) (by omega)
      · rename_i m e
        have c : Sh 10 30 (.str sApart) := Sh.str (by decide +kernel) (by decide +kernel) (by decide +kernel)
        have hm := (places_marks hs.ok ht.ok m).mp (List.mem_of_find?_eq_some e)
        obtain ⟨D, bx, D0, D1, _, _⟩ := marks_bd hs ht hm
        have q := (sh_fr (k := 29) bx D0 (pow1400 D1))
        exact (Sh.tup (ShL.cons c (ShL.cons a (ShL.cons b (ShL.cons q ShL.nil))))).weak (by omega) (by omega)
  exact (Sh.tup (ShL.cons key (ShL.cons Sh.non ShL.nil))).weak (by omega) (by omega)
section
variable {W : Nat}
theorem a_claim {k : Nat} {h : MH} {s t : Tr} (hs : Nr s) (ht : Nr t) (hW : 20000 ≤ W) (hk : 18 ≤ k) : callD GG (runF GG W k) j_accepts [claimR s t, .non] h = .ok (.bl true) h := by
  unfold claimR
  cases ea : dAlike s t with
  | true =>
    have A := a_alike (W := W) (k := k) (h := h) hs.fit ht.fit hW (by omega)
    rw [ea] at A
    exact A
  | false =>
    cases ep : partR s t with
    | none =>
      have A := a_never (W := W) (k := k) (h := h) hs.fit ht.fit hW (by omega)
      have e : dNever s t = true := by
        unfold dNever
        unfold partR at ep
        rw [ep]
        rfl
      rw [e] at A
      exact A
    | some m =>
      have hm := (places_marks hs.ok ht.ok m).mp (List.mem_of_find?_eq_some ep)
      obtain ⟨D, bx, D0, D1, m0, _⟩ := marks_bd hs ht hm
      have A := a_apart (W := W) (k := k) (h := h) hs.fit ht.fit bx D0 (pow1400 D1) hW (by omega)
      have lt := List.find?_some ep
      have n0 : ¬ m < 0 := by grind
      rw [lt, decide_eq_false n0] at A
      exact A
theorem c_turn {k : Nat} {h : MH} {s t : Tr} (hs : Nr s) (ht : Nr t) (hW : 20000 ≤ W) (hk : 18 ≤ k) (s0 s1 s2 s3 s4 s5 s8 s9 : Option MV) :
    evSs GG (runF GG W k) W fb_l_right [s0, s1, s2, s3, s4, s5, some (claimR s t), some (.tup [claimR s t, .non]), s8, s9] h = .nx [s0, s1, s2, s3, s4, s5, some (claimR s t), some (.tup [claimR s t, .non]), s8, s9] h := by
  obtain ⟨z, oz, ez⟩ := (sh_claim hs ht).repr (h := h) (by decide) (by decide)
  have A := a_claim (W := W) (k := k) (h := h) hs ht hW hk
  generalize claimR s t = c at *
  have g0 : getIx GG (.tup [c, .non]) (.int 0) h = .ok c h := gt0
  have g1 : getIx GG (.tup [c, .non]) (.int 1) h = .ok .non h := gt1
  simp only [fb_l_right, evSs, evS, evE, evL, evO, evTs, List.getElem?_cons_zero, List.getElem?_cons_succ, List.set_cons_zero, List.set_cons_succ, truth, cltI, cleI, cgtI, cgeI, ceqI, cneI, gt0, gt1, gt2, gt3, gl0, gl1, addI, subI, fin_rt, fin_nx, ez, neSame oz, g0, g1, A, decide_true, Bool.not_true]
theorem c_pair {k : Nat} {h : MH} {s t : Tr} (hs : Nr s) (ht : Nr t) (hW : 20000 ≤ W) (hk : 20 ≤ k) (s0 s1 s2 s3 s6 s7 s8 s9 : Option MV) : ∃ (t6 t7 t8 t9 : Option MV),
    evSs GG (runF GG W k) W fb_l_right_1 [s0, s1, s2, s3, some (enc s), some (enc t), s6, s7, s8, s9] h = .nx [s0, s1, s2, s3, some (enc s), some (enc t), t6, t7, t8, t9] h := by
  have D := c_due (W := W) (k := k) (h := h) hs ht hW (by omega)
  have N1 := new_offer (W := W) (k := k) (h := h) hs.ok hs.sz (by have := hs.dp; omega) hW (by omega)
  have N2 := new_offer (W := W) (k := k) (h := h) ht.ok ht.sz (by have := ht.dp; omega) hW (by omega)
  have C := c_certify (W := W) (k := k) (h := h) hs ht hW (by omega)
  have aK : argK GG j_certify_pair [1, 0] [offM t, offM s] = [offM s, offM t] := rfl
  refine ⟨some (claimR s t), some (.tup [claimR s t, .non]), some (offM s), some (offM t), ?_⟩
  rw [fb_l_right_1]
  refine (ss_nx (σ' := [s0, s1, s2, s3, some (enc s), some (enc t), some (claimR s t), s7, s8, s9]) (h' := h) ?_).trans ?_
  · simp only [evSs, evS, evE, evL, evO, evTs, List.getElem?_cons_zero, List.getElem?_cons_succ, List.set_cons_zero, List.set_cons_succ, truth, cltI, cleI, cgtI, cgeI, ceqI, cneI, gt0, gt1, gt2, gt3, gl0, gl1, addI, subI, fin_rt, fin_nx, D]
  refine (ss_nx (σ' := [s0, s1, s2, s3, some (enc s), some (enc t), some (claimR s t), s7, some (offM s), some (offM t)]) (h' := h) ?_).trans ?_
  · simp only [evSs, evS, evE, evL, evO, evTs, List.getElem?_cons_zero, List.getElem?_cons_succ, List.set_cons_zero, List.set_cons_succ, truth, cltI, cleI, cgtI, cgeI, ceqI, cneI, gt0, gt1, gt2, gt3, gl0, gl1, addI, subI, fin_rt, fin_nx, N1, N2]
  refine y_last ?_
  have ei : evI GG (runF GG W k) (.lst false [.call j_certify_pair [.var 8, .var 9], .callK j_certify_pair [1, 0] [.var 9, .var 8]]) [s0, s1, s2, s3, some (enc s), some (enc t), some (claimR s t), s7, some (offM s), some (offM t)] h = .ok [.tup [claimR s t, .non], .tup [claimR s t, .non]] h := by
    unfold evI
    dsimp only [specB]
    simp only [evSs, evS, evE, evL, evO, evTs, List.getElem?_cons_zero, List.getElem?_cons_succ, List.set_cons_zero, List.set_cons_succ, truth, cltI, cleI, cgtI, cgeI, ceqI, cneI, gt0, gt1, gt2, gt3, gl0, gl1, addI, subI, fin_rt, fin_nx, C, aK, seqOf]
  rw [w_for ei]
  have T := c_turn (W := W) (k := k) (h := h) hs ht hW (by omega) s0 s1 s2 s3 (some (enc s)) (some (enc t)) (some (offM s)) (some (offM t))
  simp only [loopF, st_nm, List.set_cons_zero, List.set_cons_succ, T]
theorem c_lap {k i n : Nat} {h : MH} (d : Dr h i (n + 100)) (hW : 20000 ≤ W) (hk : 20 ≤ k) (s1 s2 s3 s4 s5 s6 s7 s8 s9 : Option MV) : ∃ (t2 t3 t4 t5 t6 t7 t8 t9 : Option MV) (h' : MH), Dr h' i n ∧ Ot i h h' ∧
    evSs GG (runF GG W k) W fb_l_right_2 [some (.loc i), s1, s2, s3, s4, s5, s6, s7, s8, s9] h = .nx [some (.loc i), s1, t2, t3, t4, t5, t6, t7, t8, t9] h' := by
  have n2 : need 2 = 42 := rfl
  obtain ⟨t, h1, ts, td, tz, d1, o1, e1⟩ := c_bush (W := W) 2 k i (n + 58) h (d.mono (by omega)) (by omega)
  have tz9 : t.size ≤ 9 := tz
  obtain ⟨u1, h2, m1, d2, o2, e2⟩ := c_near (W := W) (k := k) (i := i) (n := n + 56) ts tz9 td (d1.mono (by omega)) (by omega)
  obtain ⟨u2, h3, m2, d3, o3, e3⟩ := c_near (W := W) (k := k) (i := i) (n := n + 54) ts tz9 td (d2.mono (by omega)) (by omega)
  obtain ⟨u3, h4, us, ud, uz, d4, o4, e4⟩ := c_bush (W := W) 2 k i (n + 12) h3 (d3.mono (by omega)) (by omega)
  have uz9 : u3.size ≤ 9 := uz
  have m3 : Nr u3 := ⟨Tr.sm_ok us, by omega, by omega⟩
  have m0 : Nr t := ⟨Tr.sm_ok ts, by omega, by omega⟩
  obtain ⟨v, h5, hv, d5, o5, e5⟩ := c_pick (W := W) (k := k) (l := [enc u1, enc u2, enc u3]) (n := n + 11) d4 (by simp) (by simp) (by omega)
  obtain ⟨u, mu, rfl⟩ : ∃ u, Nr u ∧ v = enc u := by
    simp only [List.mem_cons, List.not_mem_nil, or_false] at hv
    rcases hv with rfl | rfl | rfl
    · exact ⟨u1, m1, rfl⟩
    · exact ⟨u2, m2, rfl⟩
    · exact ⟨u3, m3, rfl⟩
  obtain ⟨a6, a7, a8, a9, e6⟩ := c_pair (W := W) (k := k) (h := h5) m0 mu hW (by omega) (some (.loc i)) s1 (some (enc t)) (some (enc u)) s6 s7 s8 s9
  obtain ⟨b6, b7, b8, b9, e7⟩ := c_pair (W := W) (k := k) (h := h5) mu m0 hW (by omega) (some (.loc i)) s1 (some (enc t)) (some (enc u)) a6 a7 a8 a9
  refine ⟨some (enc t), some (enc u), some (enc u), some (enc t), b6, b7, b8, b9, h5, d5.mono (by omega), (((o1.trans o2).trans o3).trans o4).trans o5, ?_⟩
  rw [fb_l_right_2]
  refine (ss_nx (σ' := [some (.loc i), s1, some (enc t), s3, s4, s5, s6, s7, s8, s9]) (h' := h1) ?_).trans ?_
  · have e1' : callD GG (runF GG W k) j_l_bush [.loc i, .int 2] h = .ok (enc t) h1 := e1
    simp only [evSs, evS, evE, evL, evO, evTs, List.getElem?_cons_zero, List.getElem?_cons_succ, List.set_cons_zero, List.set_cons_succ, truth, cltI, cleI, cgtI, cgeI, ceqI, cneI, gt0, gt1, gt2, gt3, gl0, gl1, addI, subI, fin_rt, fin_nx, e1']
  refine (ss_nx (σ' := [some (.loc i), s1, some (enc t), some (enc u), s4, s5, s6, s7, s8, s9]) (h' := h5) ?_).trans ?_
  · have e4' : callD GG (runF GG W k) j_l_bush [.loc i, .int 2] h3 = .ok (enc u3) h4 := e4
    simp only [evSs, evS, evE, evL, evO, evTs, List.getElem?_cons_zero, List.getElem?_cons_succ, List.set_cons_zero, List.set_cons_succ, truth, cltI, cleI, cgtI, cgeI, ceqI, cneI, gt0, gt1, gt2, gt3, gl0, gl1, addI, subI, fin_rt, fin_nx, e2, e3, e4', e5]
  refine y_last ?_
  have ei : evI GG (runF GG W k) (.lst false [.tup [.var 2, .var 3], .tup [.var 3, .var 2]]) [some (.loc i), s1, some (enc t), some (enc u), s4, s5, s6, s7, s8, s9] h5 = .ok [.tup [enc t, enc u], .tup [enc u, enc t]] h5 := rfl
  rw [w_for ei]
  simp only [loopF, st_pair, List.set_cons_zero, List.set_cons_succ, e6, e7]
theorem c_laps {k i : Nat} (hW : 20000 ≤ W) (hk : 20 ≤ k) : ∀ (c : Nat) (lo : Int) (n : Nat) (h : MH) (s1 s2 s3 s4 s5 s6 s7 s8 s9 : Option MV), Dr h i (n + 100 * c) → ∃ (σ' : MS) (h' : MH), Ot i h h' ∧
    loopF (.nm 1) (fun σ h => evSs GG (runF GG W k) W fb_l_right_2 σ h) (rngM lo c) [some (.loc i), s1, s2, s3, s4, s5, s6, s7, s8, s9] h = .nx σ' h' := by
  intro c
  induction c with
  | zero => intro lo n h s1 s2 s3 s4 s5 s6 s7 s8 s9 d; exact ⟨_, h, Ot.refl, rfl⟩
  | succ c ih =>
    intro lo n h s1 s2 s3 s4 s5 s6 s7 s8 s9 d
    obtain ⟨t2, t3, t4, t5, t6, t7, t8, t9, h1, d1, o1, e1⟩ := c_lap (W := W) (k := k) (n := n + 100 * c) (d.mono (by omega)) hW hk (some (.int lo)) s2 s3 s4 s5 s6 s7 s8 s9
    obtain ⟨σ', h2, o2, e2⟩ := ih (lo + 1) n h1 (some (.int lo)) t2 t3 t4 t5 t6 t7 t8 t9 d1
    refine ⟨σ', h2, o1.trans o2, ?_⟩
    rw [rngM, loopF]
    dsimp only [st_nm]
    have e1' : evSs GG (runF GG W k) W fb_l_right_2 (([some (.loc i), s1, s2, s3, s4, s5, s6, s7, s8, s9] : MS).set 1 (some (.int lo))) h = _ := e1
    rw [e1']
    exact e2
theorem c_right {k i : Nat} {h : MH} (d : Dr h i 1000000) (hW : 20000 ≤ W) (hk : 21 ≤ k) : ∃ h', Ot i h h' ∧ callD GG (runF GG W k) j_l_right [.loc i] h = .ok (.bl true) h' := by
  obtain ⟨k, rfl⟩ : ∃ m, k = m + 1 := ⟨k - 1, by omega⟩
  obtain ⟨σ', h1, o1, e1⟩ := c_laps (W := W) (k := k) (i := i) hW (by omega) 4 0 0 h none none none none none none none none none (d.mono (by omega))
  refine ⟨h1, o1, ?_⟩
  have m4 : mid 4 = true := by decide +kernel
  have ei : evI GG (runF GG W k) (.rng1 (.int 4)) [some (.loc i), none, none, none, none, none, none, none, none, none] h = .ok (rngM 0 4) h := by
    unfold evI
    dsimp only [specB]
    rw [evR]
    simp only [evE, m4, if_true]
    rfl
  rw [i_l_right, r_l_right, b_l_right]
  rw [ss_nx ((w_for ei).trans e1)]
  rfl
end
end Lw

namespace Lw
open PySem L2 Mi
/-! E1: the law's trays, the law. -/
section
variable {W : Nat}
theorem tray_loop {F : Fn} {h : MH} {s0 s1 s2 : Option MV} : ∀ (ms : List Int) (y : Int) (s4 : Option MV), 0 ≤ y → y < 2147483033 → ∃ y' s4', 0 ≤ y' ∧ y' < 2147483033 ∧
    loopF (.nm 4) (fun σ h => evSs GG F W fb_l_tray σ h) (ms.map .int) [s0, s1, s2, some (.int y), s4] h = .nx [s0, s1, s2, some (.int y'), s4'] h
  | [], y, s4, h0, h1 => ⟨y, s4, h0, h1, rfl⟩
  | m :: ms, y, s4, h0, h1 => by
    have sy : small y = true := sm100 (by omega)
    have sk : small 31019 = true := sm100 (by decide)
    have p2 : (0 : Int) < 2147483033 := by decide
    obtain ⟨y', s4', q0, q1, q2⟩ := tray_loop (F := F) (h := h) (s0 := s0) (s1 := s1) (s2 := s2) ms ((y * 31019 + m) % 2147483033) (some (.int m)) (Int.emod_nonneg _ (by decide)) (Int.emod_lt_of_pos _ (by decide))
    refine ⟨y', s4', q0, q1, ?_⟩
    rw [← q2]
    simp only [List.map_cons, loopF, st_nm, fb_l_tray, evSs, evS, evE, evL, evO, evTs, List.getElem?_cons_zero, List.getElem?_cons_succ, List.set_cons_zero, List.set_cons_succ, truth, cltI, cleI, cgtI, cgeI, ceqI, cneI, gt0, gt1, gt2, gt3, gl0, gl1, addI, subI, fin_rt, fin_nx, bop, sy, sk, Bool.and_self, if_true, blt, bInt, p2, decide_true]
theorem c_tray {k : Nat} {h : MH} {i : Nat} {ns : List Int} (hi : i < 100) (hn : ns.length ≤ 63) (hk : 1 ≤ k) : ∃ o : MO, Dr (h ++ [o]) h.length 1000000 ∧ callD GG (runF GG W k) j_l_tray [.scr (ns.map .int), .int i] h = .ok (.loc h.length) (h ++ [o]) := by
  obtain ⟨k, rfl⟩ : ∃ m, k = m + 1 := ⟨k - 1, by omega⟩
  have s463 : small 463 = true := sm100 (by decide)
  have s2417 : small 2417 = true := sm100 (by decide)
  have si : small (i : Int) = true := sm100 (by omega)
  have first : ∃ z : Int, evE GG (runF GG W k) (.ife (.cmp .lt (.var 1) (.blt .len [.var 0])) (.blt .int [.idx (.var 0) (.var 1)]) (.bin .add (.bin .mul (.int 2417) (.var 1)) (.int 89))) [some (.scr (ns.map .int)), some (.int i), none, none, none] h = .ok (.int z) h := by
    by_cases lt : (i : Int) < ((ns.map MV.int).length : Int)
    · have lt' : i < (ns.map MV.int).length := by omega
      have e : atI (ns.map MV.int) (i : Int) = some (.int (ns[i]'(by simpa using lt'))) := by
        unfold atI ixN
        rw [if_pos (by omega), if_pos lt]
        simp
      refine ⟨ns[i]'(by simpa using lt'), ?_⟩
      simp only [evSs, evS, evE, evL, evO, evTs, List.getElem?_cons_zero, List.getElem?_cons_succ, List.set_cons_zero, List.set_cons_succ, truth, cltI, cleI, cgtI, cgeI, ceqI, cneI, gt0, gt1, gt2, gt3, gl0, gl1, addI, subI, fin_rt, fin_nx, blt, bLen, asSeq, lt, decide_true, getIx, e, bInt]
    · refine ⟨2417 * i + 89, ?_⟩
      simp only [evSs, evS, evE, evL, evO, evTs, List.getElem?_cons_zero, List.getElem?_cons_succ, List.set_cons_zero, List.set_cons_succ, truth, cltI, cleI, cgtI, cgeI, ceqI, cneI, gt0, gt1, gt2, gt3, gl0, gl1, addI, subI, fin_rt, fin_nx, blt, bLen, asSeq, lt, decide_false, bop, s2417, si, Bool.and_self, if_true]
  obtain ⟨z, hz⟩ := first
  have cut : cutM (ns.map MV.int) none (some 5) = (ns.take 5).map .int := by
    unfold cutM
    have e0 : HT.sIx (ns.map MV.int).length 0 none = 0 := rfl
    have e5 : HT.sIx (ns.map MV.int).length (ns.map MV.int).length (some 5) = min 5 (ns.map MV.int).length := HT.sIx_nat _ _ 5
    rw [e0, e5]
    simp only [List.drop_zero, Nat.sub_zero, List.map_take]
    rw [List.take_eq_take_iff]
    omega
  have join : bop .add (.lst ((ns.take 5).map .int)) (.lst [.int z]) h = .ok (.lst ((ns.take 5 ++ [z]).map .int)) h := by
    rw [List.map_append]
    exact addL (by simp; omega)
  obtain ⟨y, s4, q0, q1, q2⟩ := tray_loop (W := W) (F := runF GG W k) (h := h) (s0 := some (.scr (ns.map .int))) (s1 := some (.int i)) (s2 := some (.int z)) (ns.take 5 ++ [z]) (70001 + 463 * i) none (by omega) (by omega)
  have p18 : (10 : Int) ^ (18 : Int).toNat = 1000000000000000000 := by decide
  have c18 : (decide ((0 : Int) ≤ 18) && decide ((18 : Int) ≤ 1000) && decide ((10 : Int).natAbs < 1000)) = true := by decide
  have e1 : evS GG (runF GG W k) W (.set 2 (.ife (.cmp .lt (.var 1) (.blt .len [.var 0])) (.blt .int [.idx (.var 0) (.var 1)]) (.bin .add (.bin .mul (.int 2417) (.var 1)) (.int 89)))) [some (.scr (ns.map .int)), some (.int i), none, none, none] h = .nx [some (.scr (ns.map .int)), some (.int i), some (.int z), none, none] h := by
    rw [evS, hz]
    rfl
  have e2 : evS GG (runF GG W k) W (.set 3 (.bin .add (.int 70001) (.bin .mul (.int 463) (.var 1)))) [some (.scr (ns.map .int)), some (.int i), some (.int z), none, none] h = .nx [some (.scr (ns.map .int)), some (.int i), some (.int z), some (.int (70001 + 463 * i)), none] h := by
    simp only [evSs, evS, evE, evL, evO, evTs, List.getElem?_cons_zero, List.getElem?_cons_succ, List.set_cons_zero, List.set_cons_succ, truth, cltI, cleI, cgtI, cgeI, ceqI, cneI, gt0, gt1, gt2, gt3, gl0, gl1, addI, subI, fin_rt, fin_nx, bop, s463, si, Bool.and_self, if_true]
  have hI : evI GG (runF GG W k) (.bin .add (.slc (.var 0) none (some (.int 5))) (.lst false [.var 2])) [some (.scr (ns.map .int)), some (.int i), some (.int z), some (.int (70001 + 463 * i)), none] h = .ok ((ns.take 5 ++ [z]).map .int) h := by
    unfold evI
    dsimp only [specB]
    simp only [evSs, evS, evE, evL, evO, evTs, List.getElem?_cons_zero, List.getElem?_cons_succ, List.set_cons_zero, List.set_cons_succ, truth, cltI, cleI, cgtI, cgeI, ceqI, cneI, gt0, gt1, gt2, gt3, gl0, gl1, addI, subI, fin_rt, fin_nx, slcV, cut, join, seqOf]
  have e3 : evS GG (runF GG W k) W (.for_ (.nm 4) (.bin .add (.slc (.var 0) none (some (.int 5))) (.lst false [.var 2])) fb_l_tray) [some (.scr (ns.map .int)), some (.int i), some (.int z), some (.int (70001 + 463 * i)), none] h = .nx [some (.scr (ns.map .int)), some (.int i), some (.int z), some (.int y), s4] h := (w_for hI).trans q2
  refine ⟨.lst [.int (if z < 0 ∨ 1000000000000000000 ≤ z then (if z < 0 then -z else z) else 0), .int y, .int 0], ⟨if z < 0 ∨ 1000000000000000000 ≤ z then (if z < 0 then -z else z) else 0, y, 0, by rw [List.getElem?_append_right (Nat.le_refl _), Nat.sub_self]; rfl, q0, q1, by omega⟩, ?_⟩
  rw [i_l_tray, r_l_tray, b_l_tray, ss_nx e1, ss_nx e2, ss_nx e3]
  have pw : bop .pow (.int 10) (.int 18) h = .ok (.int 1000000000000000000) h := by
    unfold bop
    simp only [c18, if_true, p18]
  by_cases zn : z < 0
  · simp only [evSs, evS, evE, evL, evO, evTs, List.getElem?_cons_zero, List.getElem?_cons_succ, List.set_cons_zero, List.set_cons_succ, truth, cltI, cleI, cgtI, cgeI, ceqI, cneI, gt0, gt1, gt2, gt3, gl0, gl1, addI, subI, fin_rt, fin_nx, pw, zn, decide_true, blt, bAbs, if_true, true_or]
  · by_cases zl : 1000000000000000000 ≤ z
    · simp only [evSs, evS, evE, evL, evO, evTs, List.getElem?_cons_zero, List.getElem?_cons_succ, List.set_cons_zero, List.set_cons_succ, truth, cltI, cleI, cgtI, cgeI, ceqI, cneI, gt0, gt1, gt2, gt3, gl0, gl1, addI, subI, fin_rt, fin_nx, pw, zn, zl, decide_true, decide_false, blt, bAbs, if_true, if_false, or_true]
    · simp only [evSs, evS, evE, evL, evO, evTs, List.getElem?_cons_zero, List.getElem?_cons_succ, List.set_cons_zero, List.set_cons_succ, truth, cltI, cleI, cgtI, cgeI, ceqI, cneI, gt0, gt1, gt2, gt3, gl0, gl1, addI, subI, fin_rt, fin_nx, pw, zn, zl, decide_true, decide_false, blt, bAbs, if_true, if_false, or_self]
def locs (b : Nat) : Nat → List MV
  | 0 => []
  | k + 1 => .loc b :: locs (b + 1) k
theorem trays {k : Nat} {ns : List Int} (hn : ns.length ≤ 63) (hk : 1 ≤ k) {a c : Option MV} : ∀ (m lo : Nat) (acc : List MV) (h : MH), lo + m < 100 → acc.length + m < 1000 →
    ∃ h', loopC (.nm 2) (fun _ h => .ok (.bl true) h) (fun σ h => evE GG (runF GG W k) ce_law σ h) [some (.scr (ns.map .int)), a, none, c] (rngM lo m) acc h = .ok (acc ++ locs h.length m) h' ∧
      h'.length = h.length + m ∧ (∀ j, j < h.length → h'[j]? = h[j]?) ∧ ∀ t, t < m → Dr h' (h.length + t) 1000000
  | 0, lo, acc, h, _, _ => ⟨h, by simp [rngM, loopC, locs], by simp, fun _ _ => rfl, fun t ht => by omega⟩
  | m + 1, lo, acc, h, h1, h2 => by
    obtain ⟨o, dr, e⟩ := c_tray (W := W) (k := k) (h := h) (i := lo) (by omega) hn hk
    obtain ⟨h', q1, q2, q3, q4⟩ := trays hn hk (a := a) (c := c) m (lo + 1) (acc ++ [.loc h.length]) (h ++ [o]) (by omega) (by simp; omega)
    refine ⟨h', ?_, by rw [q2]; simp; omega, fun j hj => ?_, fun t ht => ?_⟩
    · have al : decide (acc.length < 100000) = true := decide_eq_true (by omega)
      have el : evE GG (runF GG W k) ce_law [some (.scr (ns.map .int)), a, some (.int lo), c] h = .ok (.loc h.length) (h ++ [o]) := by
        simp only [ce_law, evSs, evS, evE, evL, evO, evTs, List.getElem?_cons_zero, List.getElem?_cons_succ, List.set_cons_zero, List.set_cons_succ, truth, cltI, cleI, cgtI, cgeI, ceqI, cneI, gt0, gt1, gt2, gt3, gl0, gl1, addI, subI, fin_rt, fin_nx, e]
      have cast : ((lo : Int) + 1) = ((lo + 1 : Nat) : Int) := by omega
      rw [rngM, loopC]
      dsimp only [st_nm]
      simp only [evSs, evS, evE, evL, evO, evTs, List.getElem?_cons_zero, List.getElem?_cons_succ, List.set_cons_zero, List.set_cons_succ, truth, cltI, cleI, cgtI, cgeI, ceqI, cneI, gt0, gt1, gt2, gt3, gl0, gl1, addI, subI, fin_rt, fin_nx]
      rw [el]
      dsimp only
      rw [if_pos al, cast, q1]
      simp [locs, List.append_assoc]
    · rw [q3 j (by simp; omega), List.getElem?_append_left hj]
    · cases t with
      | zero =>
        obtain ⟨x, y, c', r1, r2⟩ := dr
        refine ⟨x, y, c', ?_, r2⟩
        rw [Nat.add_zero, q3 h.length (by simp)]
        exact r1
      | succ t =>
        have := q4 t (by omega)
        rw [List.length_append, List.length_singleton] at this
        rw [show h.length + (t + 1) = h.length + 1 + t by omega]
        exact this
theorem rights {k : Nat} {l : List MV} {a b : Option MV} (R : ∀ (i : Nat) (h : MH), Dr h i 1000000 → ∃ h', Ot i h h' ∧ callD GG (runF GG W k) j_l_right [.loc i] h = .ok (.bl true) h') : ∀ (m s : Nat) (acc : List MV) (h : MH), acc.length + m < 1000 → (∀ t, t < m → Dr h (s + t) 1000000) →
    ∃ h', loopC (.nm 3) (fun _ h => .ok (.bl true) h) (fun σ h => evE GG (runF GG W k) ce_law_1 σ h) [some (.scr l), a, b, none] (locs s m) acc h = .ok (acc ++ List.replicate m (.bl true)) h'
  | 0, s, acc, h, _, _ => ⟨h, by simp [locs, loopC]⟩
  | m + 1, s, acc, h, h2, tr => by
    obtain ⟨h1, ot, e⟩ := R s h (tr 0 (by omega))
    obtain ⟨h', q⟩ := rights R (l := l) (a := a) (b := b) m (s + 1) (acc ++ [.bl true]) h1 (by simp; omega) fun t ht => by
      have dd := tr (t + 1) (by omega)
      have lt := dd.lt
      obtain ⟨x, y, c, q1, q2⟩ := dd
      refine ⟨x, y, c, ?_, q2⟩
      rw [show s + 1 + t = s + (t + 1) by omega, ot.2 _ (by omega) lt]
      exact q1
    refine ⟨h', ?_⟩
    have al : decide (acc.length < 100000) = true := decide_eq_true (by omega)
    have el : evE GG (runF GG W k) ce_law_1 [some (.scr l), a, b, some (.loc s)] h = .ok (.bl true) h1 := by
      simp only [ce_law_1, evSs, evS, evE, evL, evO, evTs, List.getElem?_cons_zero, List.getElem?_cons_succ, List.set_cons_zero, List.set_cons_succ, truth, cltI, cleI, cgtI, cgeI, ceqI, cneI, gt0, gt1, gt2, gt3, gl0, gl1, addI, subI, fin_rt, fin_nx, e]
    rw [locs, loopC]
    dsimp only [st_nm]
    simp only [evSs, evS, evE, evL, evO, evTs, List.getElem?_cons_zero, List.getElem?_cons_succ, List.set_cons_zero, List.set_cons_succ, truth, cltI, cleI, cgtI, cgeI, ceqI, cneI, gt0, gt1, gt2, gt3, gl0, gl1, addI, subI, fin_rt, fin_nx]
    rw [el]
    dsimp only
    rw [if_pos al, q]
    simp [List.replicate_succ]
theorem bools_rep : ∀ n : Nat, boolsM (List.replicate n (.bl true)) = some (List.replicate n true)
  | 0 => rfl
  | n + 1 => by
    show (boolsM (List.replicate n (.bl true))).map (true :: ·) = _
    rw [bools_rep n]
    rfl
theorem runs_of {k : Nat} (hk : 1 ≤ k) (R : ∀ (i : Nat) (h : MH), Dr h i 1000000 → ∃ h', Ot i h h' ∧ callD GG (runF GG W k) j_l_right [.loc i] h = .ok (.bl true) h') (ns : List Int) (hn : ns.length ≤ 63) : ∃ hm, runF GG W (k + 1) j_law [.scr (ns.map .int)] [] = .ok (.bl true) hm := by
  generalize hm1 : (if (5 : Int) < ((ns.map MV.int).length : Int) then (5 : Int) else ((ns.map MV.int).length : Int)) = m1
  generalize hm2 : (if (2 : Int) < m1 then m1 else (2 : Int)) = m2
  have b2 : 2 ≤ m2 ∧ m2 ≤ 5 := by
    rw [← hm2, ← hm1]
    split <;> split <;> (try split at *) <;> omega
  have md : mid m2 = true := by
    unfold mid
    rw [Bool.and_eq_true, decide_eq_true_eq, decide_eq_true_eq]
    omega
  obtain ⟨h1, p1, p2, _, p4⟩ := trays (W := W) (k := k) hn hk (a := none) (c := none) m2.toNat 0 [] [] (by omega) (by simp; omega)
  obtain ⟨h2, p5⟩ := rights (W := W) (k := k) R (l := ns.map .int) (a := some (.lst (locs 0 m2.toNat))) (b := none) m2.toNat 0 [] h1 (by simp; omega) p4
  rw [List.nil_append] at p1 p5
  have p1' : loopC (.nm 2) (fun _ h => .ok (.bl true) h) (fun σ h => evE GG (runF GG W k) ce_law σ h) [some (.scr (ns.map .int)), none, none, none] (rngM 0 m2.toNat) [] [] = .ok (locs 0 m2.toNat) h1 := p1
  have e1 : evS GG (runF GG W k) W (.set 1 (.comp false (.nm 2) (.rng1 (.blt .max [.int 2, .blt .min [.blt .len [.var 0], .int 5]])) [] ce_law [2])) [some (.scr (ns.map .int)), none, none, none] [] = .nx [some (.scr (ns.map .int)), some (.lst (locs 0 m2.toNat)), none, none] h1 := by
    have ei : evI GG (runF GG W k) (.rng1 (.blt .max [.int 2, .blt .min [.blt .len [.var 0], .int 5]])) [some (.scr (ns.map .int)), none, none, none] [] = .ok (rngM 0 m2.toNat) [] := by
      unfold evI
      dsimp only [specB]
      rw [evR]
      simp only [evSs, evS, evE, evL, evO, evTs, List.getElem?_cons_zero, List.getElem?_cons_succ, List.set_cons_zero, List.set_cons_succ, truth, cltI, cleI, cgtI, cgeI, ceqI, cneI, gt0, gt1, gt2, gt3, gl0, gl1, addI, subI, fin_rt, fin_nx, blt, bLen, asSeq, bMin, bMax, hm1, hm2, md, if_true]
    rw [evS, e_compF ei (by simp only [evSs, evS, evE, evL, evO, evTs, List.getElem?_cons_zero, List.getElem?_cons_succ, List.set_cons_zero, List.set_cons_succ, truth, cltI, cleI, cgtI, cgeI, ceqI, cneI, gt0, gt1, gt2, gt3, gl0, gl1, addI, subI, fin_rt, fin_nx, wipeM]; exact p1')]
    rfl
  have al : bAll [.lst (List.replicate m2.toNat (.bl true))] h2 = .ok (.bl true) h2 := by
    simp [bAll, bools_rep]
  have e2 : evS GG (runF GG W k) W (.ret (.blt .all [.comp false (.nm 3) (.var 1) [] ce_law_1 [3]])) [some (.scr (ns.map .int)), some (.lst (locs 0 m2.toNat)), none, none] h1 = .rt (.bl true) h2 := by
    have ei : evI GG (runF GG W k) (.var 1) [some (.scr (ns.map .int)), some (.lst (locs 0 m2.toNat)), none, none] h1 = .ok (locs 0 m2.toNat) h1 := by
      unfold evI
      dsimp only [specB]
      simp only [evSs, evS, evE, evL, evO, evTs, List.getElem?_cons_zero, List.getElem?_cons_succ, List.set_cons_zero, List.set_cons_succ, truth, cltI, cleI, cgtI, cgeI, ceqI, cneI, gt0, gt1, gt2, gt3, gl0, gl1, addI, subI, fin_rt, fin_nx, seqOf]
    have ec := e_compF (tg := .nm 3) (elt := ce_law_1) (ifs := []) (own := [3]) (ws := List.replicate m2.toNat (.bl true)) (h'' := h2) ei (by simp only [evSs, evS, evE, evL, evO, evTs, List.getElem?_cons_zero, List.getElem?_cons_succ, List.set_cons_zero, List.set_cons_succ, truth, cltI, cleI, cgtI, cgeI, ceqI, cneI, gt0, gt1, gt2, gt3, gl0, gl1, addI, subI, fin_rt, fin_nx, wipeM]; exact p5)
    rw [evS, evE, evL, ec]
    dsimp only [evL]
    show (match bAll [.lst (List.replicate m2.toNat (.bl true))] h2 with | .ok v h1 => SR.rt v h1 | .bad => .bad) = _
    rw [al]
  refine ⟨h2, ?_⟩
  rw [r_law, b_law, ss_nx e1, ss_rt e2]
  rfl
end
end Lw

namespace Lw
open PySem L2 Mi
theorem runs (ns : List Int) (hn : ns.length ≤ 63) : ∃ hm, runF GG 20000 30 j_law [.scr (ns.map .int)] [] = .ok (.bl true) hm :=
  runs_of (k := 29) (by decide) (fun i h d => c_right d (by decide) (by decide)) ns hn
end Lw

open PySem PySem.W PySem.Calls PyProof.Rows
theorem PySem.Challenge.cw_lookcosts_k80_whole_pairs_certified_holds : PySem.Challenge.rw_lookcosts_k80_whole_pairs_certified.Holds := by
  w_on; o_law
  refine HandSHeadRun.head_any (r := Lw.R) (q := view Lw.R.prog [107]) (H := Lw.hk) (ob := Lw.ob) (M := 6000) (loose := Lw.loose) (d := HandSHeadRun.topDef Lw.R.prog 107) (kwd := []) Lw.ob_eq
    (by kernel_rfl) (fun s => by kernel_rfl) Lw.run (by kernel_rfl) (by kernel_rfl) (by kernel_rfl) (by rfl) (by first | assumption | decide +kernel) (by decide +kernel) ⟨rfl, rfl, rfl, rfl, rfl, by decide +kernel⟩ ?hw ?hc
  case hw => w_witness2
  case hc =>
    refine Mi.walkG (l := PySem.Challenge.rw_lookcosts_k80_whole_pairs_certified) (n := 63) (k := 2 * 30) rfl (by decide) (by kernel_rfl) ⟨⟨rfl, by decide, by decide⟩, rfl⟩ ?_
    intro w mg fa h Y G named
    have e : (HandSHeadRun.topDef Lw.R.prog 107).name = ("law" : PySem.Str) := by kernel_rfl
    rw [e] at named
    exact Mi.law_end Lw.okLw Lw.bnAll Lw.kwAll (j := 76) (W := 20000) (k := 30) (d := Lw.dfs.getD 76 ⟨0, 0, true, [], []⟩) rfl rfl (by kernel_rfl) rfl Lw.runs Y G named
