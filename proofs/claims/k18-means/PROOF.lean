import PyProof.Rows.All
import Wide.All
import OpenK.AllK
import Wide.FinOn
import PySem.Challenge.RW_wordforword_k18_whole_means
import HandS.ForMost
import HandS.Deep
import KE.SortData
import KE.SortKeyHeap
import KE.KDictKeyed
import HandS.Lambda
import HandS.TupAny
import HandS.TupMul
import HandS.IsInst
import KE.KDictSum
import KE.KDictItemsList
import KE.KeyNested
import HandS.DictTup
import HandS.Dict
import HandS.Style
import PyProof.Rows.TupDisplay
import HandS.Iter
import HandS.Zip
import HandS.DictComp
import KE.KDictZip
import KE.KItemsList
import HandS.Conv
import HandS.Defaults
import HandS.CallLocal
import HandS.Codes
import HandS.HeadEnd
import HandS.HeadHook1
import HandS.HeadHook2
import KE.KStateDown
import HandS.Head0
import HandS.Head1
import HandS.Head2
set_option Elab.async false
set_option linter.all false
set_option maxRecDepth 100000
section
/-! the data trees, the small language, its evaluator -/
namespace WW
open PySem

/-- data without a heap -/
inductive D where
  | non | bl (b : Bool) | int (i : Int) | str (s : Str)
  | tup (l : List D) | lst (l : List D) | dct (l : List (D × D))
  | fn (x : Str) | clo (c : Nat) (caps : List D) | pend (c : Nat) | strm | scr (l : List Int)
  | dcl (l : List (D × List D))
  deriving Inhabited

mutual
def D.py : D → Option PyData
  | .non => some .none
  | .bl b => some (.bool b)
  | .int i => some (.int i)
  | .str s => if PyData.strOk s then some (.str s) else none
  | .tup l => (pys l).map .tuple
  | .lst l => (pys l).map .list
  | .dct _ => none
  | .fn _ => none
  | .clo _ _ => none
  | .pend _ => none
  | .strm => none
  | .scr _ => none
  | .dcl _ => none
def pys : List D → Option (List PyData)
  | [] => some []
  | x :: xs => (D.py x).bind fun p => (pys xs).map fun ps => p :: ps
end

mutual
/-- no function made here within -/
def plainD : D → Bool
  | .clo _ _ => false
  | .pend _ => false
  | .tup l => plainDs l
  | .lst l => plainDs l
  | .dct l => plainDd l
  | .dcl _ => false
  | _ => true
def plainDs : List D → Bool
  | [] => true
  | d :: ds => plainD d && plainDs ds
def plainDd : List (D × D) → Bool
  | [] => true
  | (a, b) :: ds => plainD a && plainD b && plainDd ds
end
mutual
/-- the same key -/
def D.same : D → D → Bool
  | .non, .non => true
  | .int a, .int b => decide (a = b)
  | .str a, .str b => decide (a = b)
  | .tup a, .tup b => sames a b
  | _, _ => false
def sames : List D → List D → Bool
  | [], [] => true
  | a :: as, b :: bs => D.same a b && sames as bs
  | _, _ => false
end
/-- what may be a key: whole numbers, texts, None, tuples of such -/
def keyOk : Nat → D → Bool
  | _, .non => true
  | _, .int _ => true
  | _, .str _ => true
  | n + 1, .tup l => l.all (keyOk n)
  | _, _ => false

def isTup : D → Bool
  | .tup _ => true
  | _ => false
/-- k may be asked of, or put into, a dict of these entries -/
def kOk (l : List (D × D)) (k : D) : Bool := keyOk 8 k && (match l with
  | [] => true
  | (a, _) :: _ => isTup a == isTup k)
def dget : List (D × D) → D → Option D
  | [], _ => none
  | (a, v) :: r, k => if a.same k then some v else dget r k
def dput : List (D × D) → D → D → List (D × D)
  | [], k, v => [(k, v)]
  | (a, w) :: r, k, v => if a.same k then (a, v) :: r else (a, w) :: dput r k v
def dputs : List (D × D) → List (D × D) → Option (List (D × D))
  | a, [] => some a
  | a, (k, v) :: r => if kOk a k then dputs (dput a k v) r else none

def truth : D → Option Bool
  | .non => some false
  | .bl b => some b
  | .int i => some (i != 0)
  | .str s => if s.length ≤ sizeLine then some ((s.length : Int) != 0) else none
  | .tup l => some (!l.isEmpty)
  | .lst l => some (!l.isEmpty)
  | .dct l => some (!l.isEmpty)
  | _ => none

/-- == -/
def eqF (a b : D) : Option Bool := match a, b with
  | .int i, .int j => some (decide (i = j))
  | _, _ => a.py.bind fun p => b.py.bind fun q => if p.depth ≤ 64 ∧ q.depth ≤ 64 then some (PyData.eqv p q) else none
/-- < -/
def ltF (a b : D) : Option Bool := match a, b with
  | .int i, .int j => some (decide (i < j))
  | _, _ => a.py.bind fun p => b.py.bind fun q => match p with
    | .none => none
    | _ => if p.depth ≤ 64 ∧ q.depth ≤ 64 ∧ W.alike p q = true then some (W.dataLt p q) else none
def leI (a b : D) : Option Bool := match a, b with
  | .int i, .int j => some (decide (i ≤ j))
  | _, _ => none

def sortable : List PyData → Bool
  | ps => (ps.all fun p => match p with | .tuple (_ :: _) => true | _ => false) || (ps.all fun p => match p with | .none => false | .tuple _ => false | _ => true)
def leP (p q : PyData) : Bool := !W.dataLt q p
def insS (x : Int) : List Int → List Int
  | [] => [x]
  | y :: r => if x ≤ y then x :: y :: r else y :: insS x r
def isortI : List Int → List Int
  | [] => []
  | x :: r => insS x (isortI r)
/-- whole numbers alone -/
def pInts : List (PyData × D) → Option (List Int)
  | [] => some []
  | (.int i, .int j) :: r => if i = j then (pInts r).map (i :: ·) else none
  | _ :: _ => none
/-- sorted by keys -/
def sortF (l : List (PyData × D)) : Option (List D) :=
  match pInts l with
  | some ns => if l.length ≤ sizeLine then some ((isortI ns).map .int) else none
  | none => if (l.all fun p => l.all fun q => W.alike p.1 q.1) && (sortable (l.map (·.1)) && ((l.all fun p => decide (p.1.depth ≤ 64)) && decide (l.length ≤ sizeLine))) then
    some ((l.mergeSort fun p q => leP p.1 q.1).map (·.2)) else none

mutual
def keyN : D → NestedKey
  | .int i => .num i
  | .str x => .text x
  | .tup l => .tup (keyNs l)
  | _ => .none
def keyNs : List D → List NestedKey
  | [] => []
  | d :: ds => keyN d :: keyNs ds
end
mutual
/-- the hash of a key without texts -/
def hash0 : NestedKey → Option Int
  | .none => some (reduceHash 0xFCA86420)
  | .num i => some (hashInt i)
  | .text _ => none
  | .tup ks => (hashs0 ks).map fun hs => reduceHash (Builtin.Tuple.tupleHashOf hs)
def hashs0 : List NestedKey → Option (List Int)
  | [] => some []
  | k :: ks => (hash0 k).bind fun h => (hashs0 ks).map fun hs => h :: hs
end
/-- no two keys are of one hash -/
def apart (l : List (D × D)) : Bool := (l.all fun p => isTup p.1) && match hashs0 (l.map fun p => keyN p.1) with
  | some hs => decide hs.Nodup
  | none => false
/-- what is walked -/
def itemsOf : D → Option (List D)
  | .lst l => some l
  | .tup l => some l
  | .dct l => some (l.map (·.1))
  | _ => none
def seqOf : D → Option (List D)
  | .lst l => some l
  | .tup l => some l
  | _ => none

/-- kinds that isinstance asks for -/
inductive Ty where
  | int | bool | str | list | tuple | dict
  deriving DecidableEq
def isTy : D → Ty → Option Bool
  | .non, _ => some false
  | .bl _, t => some (t == .bool || t == .int)
  | .int _, t => some (t == .int)
  | .str _, t => some (t == .str)
  | .tup _, t => some (t == .tuple)
  | .lst _, t => some (t == .list)
  | .dct _, t => some (t == .dict)
  | _, _ => none

inductive U where
  | neg | tru | len | abs | int | list | tuple | dict | sorted | sum | all | any | rev | isN | notN | items | vals | sitems | setl | rng | isi (t : List Ty)
inductive B where
  | add | sub | mul | fdiv | mod | idx | eq | ne | lt | le | gt | ge | isin | notin | get | index | sla | slb | max | min | zipl
inductive B3 where
  | get | slc

def sumD : List D → Int → Option Int
  | [], a => some a
  | .int i :: r, a => sumD r (a + i)
  | _ :: _, _ => none
def bools : List D → Option (List Bool)
  | [] => some []
  | .bl b :: r => (bools r).map (b :: ·)
  | _ :: _ => none
def pairs : List D → Option (List (D × D))
  | [] => some []
  | .tup [k, v] :: r => (pairs r).map ((k, v) :: ·)
  | _ :: _ => none
def cutD (l : List D) (lo hi : Option Int) : List D := (l.drop (HT.sIx l.length 0 lo)).take (HT.sIx l.length l.length hi - HT.sIx l.length 0 lo)
def wints : List D → Option (List Int)
  | [] => some []
  | .int i :: r => (wints r).map (i :: ·)
  | _ :: _ => none
def insI (x : Int) : List Int → List Int
  | [] => [x]
  | y :: r => if x < y then x :: y :: r else if x = y then y :: r else y :: insI x r

def lenD : D → Option Nat
  | .lst l => some l.length
  | .tup l => some l.length
  | .dct l => some l.length
  | .str s => if s.length ≤ sizeLine then some s.length else none
  | _ => none

def uF (o : U) (d : D) : Option (D × Bool) := match o with
  | .neg => match d with | .int i => some (.int (-i), false) | _ => none
  | .tru => (truth d).map fun b => (.bl b, false)
  | .len => (lenD d).map fun (n : Nat) => (.int (n : Int), false)
  | .abs => match d with | .int i => some (.int (if i < 0 then -i else i), false) | _ => none
  | .int => match d with
    | .int i => some (.int i, false)
    | .bl b => some (.int (if b then 1 else 0), false)
    | _ => none
  | .list => (itemsOf d).bind fun l => if l.length ≤ sizeLine then some (.lst l, true) else none
  | .tuple => (seqOf d).bind fun l => if l.length ≤ sizeLine then some (.tup l, false) else none
  | .dict => match d with
    | .lst l => (pairs l).bind fun ps => if l.length ≤ sizeLine then (dputs [] ps).map fun e => (.dct e, true) else none
    | .dct l => if apart l = true then some (.dct l, true) else none
    | _ => none
  | .sorted => (itemsOf d).bind fun l => (pys l).bind fun ps => (sortF (ps.zip l)).map fun s => (.lst s, true)
  | .sum => match d with | .lst l => (sumD l 0).map fun n => (.int n, false) | _ => none
  | .all => match d with | .lst l => (bools l).map fun b => (.bl (b.all id), false) | _ => none
  | .any => match d with | .lst l => (bools l).map fun b => (.bl (b.any id), false) | _ => none
  | .rev => match d with
    | .lst l => some (.lst l.reverse, true)
    | _ => none
  | .isN => match d with
    | .non => some (.bl true, false)
    | _ => some (.bl false, false)
  | .notN => match d with
    | .non => some (.bl false, false)
    | _ => some (.bl true, false)
  | .items => match d with | .dct l => if l.length ≤ sizeLine then some (.lst (l.map fun p => .tup [p.1, p.2]), true) else none | _ => none
  | .vals => match d with | .dct l => if l.length ≤ sizeLine then some (.lst (l.map (·.2)), true) else none | _ => none
  | .sitems => match d with | .dct l => if l.length ≤ sizeLine then (pys (l.map fun p => D.tup [p.1, p.2])).bind fun ps => (sortF (ps.zip (l.map fun p => D.tup [p.1, p.2]))).map fun s => (.lst s, true) else none | _ => none
  | .setl => match d with | .lst l => (wints l).bind fun ns => if l.length < 4096 then some (.lst ((ns.foldl (fun a n => insI n a) []).map .int), true) else none | _ => none
  | .rng => match d with | .int n => if -16777216 ≤ n ∧ n ≤ 16777216 then some (.lst ((List.range n.toNat).map fun (m : Nat) => .int (m : Int)), true) else none | _ => none
  | .isi ts => if ts = [] then none else (ts.mapM (isTy d)).map fun bs => (.bl (bs.any id), false)

def small (i : Int) : Bool := decide (-(2 ^ 64) < i) && decide (i < 2 ^ 64)
def anyEq (d : D) (l : List D) : Option Bool := (pys l).bind fun ps => d.py.bind fun p => if (PyData.list ps).depth ≤ 64 ∧ p.depth ≤ 64 then some (ps.any fun z => PyData.eqv z p) else none
def indexD (d : D) (l : List D) : Option Nat := (pys l).bind fun ps => d.py.bind fun p => if (PyData.list ps).depth ≤ 64 ∧ p.depth ≤ 64 then ps.findIdx? fun z => PyData.eqv z p else none
def zip2 : List D → List D → List D
  | a :: as, b :: bs => .tup [a, b] :: zip2 as bs
  | _, _ => []

def bF (o : B) (a b : D) : Option (D × Bool) := match o with
  | .add => match a, b with
    | .int i, .int j => some (.int (i + j), false)
    | .lst x, .lst y => if x.length + y.length ≤ sizeLine then some (.lst (x ++ y), true) else none
    | .tup x, .tup y => if x.length + y.length ≤ sizeLine then some (.tup (x ++ y), false) else none
    | .str x, .str y => if x.length + y.length ≤ sizeLine then some (.str (x ++ y), false) else none
    | _, _ => none
  | .sub => match a, b with | .int i, .int j => some (.int (i - j), false) | _, _ => none
  | .mul => match a, b with
    | .int i, .int j => if small i || small j then some (.int (i * j), false) else none
    | .lst x, .int k => if x.length * k.toNat ≤ sizeLine ∧ -(2 ^ 63) ≤ k ∧ k < 2 ^ 63 then some (.lst (List.replicate k.toNat x).flatten, true) else none
    | .tup x, .int k => if x.isEmpty = false ∧ 0 ≤ k ∧ k ≤ 1000 ∧ x.length ≤ 1000 then some (.tup (List.replicate k.toNat x).flatten, false) else none
    | _, _ => none
  | .fdiv => match a, b with | .int i, .int j => if 0 < j ∧ j < 1073741824 then some (.int (i / j), false) else none | _, _ => none
  | .mod => match a, b with | .int i, .int j => if 0 < j then some (.int (i % j), false) else none | _, _ => none
  | .idx => match a, b with
    | .lst l, .int i => (L2.atI l i).map fun d => (d, false)
    | .tup l, .int i => (L2.atI l i).map fun d => (d, false)
    | .dct l, k => if kOk l k then (dget l k).map fun d => (d, false) else none
    | _, _ => none
  | .eq => (eqF a b).map fun c => (.bl c, false)
  | .ne => (eqF a b).map fun c => (.bl (!c), false)
  | .lt => (ltF a b).map fun c => (.bl c, false)
  | .le => (leI a b).map fun c => (.bl c, false)
  | .gt => match a, b with | .int i, .int j => some (.bl (decide (j < i)), false) | _, _ => none
  | .ge => match a, b with | .int i, .int j => some (.bl (decide (j ≤ i)), false) | _, _ => none
  | .isin => match b with
    | .dct l => if kOk l a then some (.bl (dget l a).isSome, false) else none
    | .lst l => (anyEq a l).map fun c => (.bl c, false)
    | .tup l => (anyEq a l).map fun c => (.bl c, false)
    | _ => none
  | .notin => match b with
    | .dct l => if kOk l a then some (.bl (!(dget l a).isSome), false) else none
    | .lst l => (anyEq a l).map fun c => (.bl (!c), false)
    | .tup l => (anyEq a l).map fun c => (.bl (!c), false)
    | _ => none
  | .get => match a with | .dct l => if kOk l b then some ((dget l b).getD .non, false) else none | _ => none
  | .index => match a with | .lst l => (indexD b l).map fun (n : Nat) => (.int (n : Int), false) | _ => none
  | .sla => match a, b with
    | .lst l, .int i => some (.lst (cutD l (some i) none), true)
    | .tup l, .int i => some (.tup (cutD l (some i) none), false)
    | _, _ => none
  | .slb => match a, b with
    | .lst l, .int i => some (.lst (cutD l none (some i)), true)
    | .tup l, .int i => some (.tup (cutD l none (some i)), false)
    | _, _ => none
  | .max => match a, b with | .int i, .int j => some (.int (if j > i then j else i), false) | _, _ => none
  | .min => match a, b with | .int i, .int j => some (.int (if j < i then j else i), false) | _, _ => none
  | .zipl => match a, b with
    | .lst l, .lst m => if l.length ≤ sizeLine then some (.lst (zip2 l m), true) else none
    | _, _ => none

def b3F (o : B3) (a b c : D) : Option (D × Bool) := match o with
  | .get => match a with | .dct l => if kOk l b then some ((dget l b).getD c, false) else none | _ => none
  | .slc => match a, b, c with
    | .lst l, .int i, .int j => some (.lst (cutD l (some i) (some j)), true)
    | .tup l, .int i, .int j => some (.tup (cutD l (some i) (some j)), false)
    | _, _, _ => none

/-- targets -/
inductive T where
  | n (i : Nat) | t (l : List T)
inductive E where
  | c (d : D) | v (i : Nat) | p (i : Nat) | fn (x : Str)
  | u (o : U) (a : E) | b (o : B) (a b : E) | b3 (o : B3) (a b c : E) | m (o : B) (a b : E) | m3 (a b c : E)
  | and (a b : E) | or (a b : E) | not (a : E) | ite (c a b : E)
  | ch (o q : B) (a b c : E)
  | tup (l : List E) | lst (l : List E) | dnew | dct (l : List E)
  | call (f : Str) (l : List E) | app (i : Nat) (l : List E) | callx (f : Str) (l : List E)
  | lam (i : Option Nat) (c : Nat) (js : List Nat)
  | lc (e : E) (k : Nat) (t : T) (a : List E) (ifs : List E) (own : List Nat)
  | lc2 (e : E) (k : Nat) (t : T) (a : List E) (ifs : List E) (k2 : Nat) (t2 : T) (a2 : List E) (ifs2 : List E) (own : List Nat)
  | dc (x y : E) (k : Nat) (t : T) (a : List E) (ifs : List E) (own : List Nat)
  | pop (i : Nat) | popAt (i : Nat) (a : E) | setd (i : Nat) (a b : E)
  | sortk (c : Nat) (a : E)
/-- a target that may be a thing's item -/
inductive TX where
  | n (i : Nat) | s (i : Nat) (k : E)
inductive S where
  | asgx (ts : List TX) (e : E)
  | asg (t : T) (e : E) | par (ts : List Nat) (es : List E)
  | sub (i : Nat) (k e : E) | aug (i : Nat) (o : B) (e : E) | augs (i : Nat) (k : E) (o : B) (e : E)
  | app (i : Nat) (e : E) | ext (i : Nat) (e : E) | sapp (i : Nat) (k e : E)
  | ex (e : E) | ret (e : E) | retN
  | ite (c : E) (a b : List S) | whl (c : E) (b : List S) | for_ (k : Nat) (t : T) (a : List E) (b : List S)
  | brk | cnt | pass | rai | def_ (i c : Nat)

structure Strm where
  cells : List Int
  cur : Int
  cnt : Int
  mix : Int
structure G where
  s : Option Strm
abbrev Env := List (Option (D × Bool))
structure St where
  r : Env
  g : G
structure Cl where
  f : Str → List D → G → Option (D × Bool × G)
  c : Nat → List D → List D → G → Option (D × Bool × G)

/-- a dict of lists that it alone holds, told as any other -/
def norm : D → D
  | .dcl l => .dct (l.map fun p => (p.1, .lst p.2))
  | d => d
def isPend : D → Bool
  | .pend _ => true
  | _ => false
def look (r : Env) (i : Nat) : Option D := match r[i]? with
  | some (some (d, _)) => if isPend d = true then none else some d
  | _ => none
def owned (r : Env) (i : Nat) : Option D := match r[i]? with
  | some (some (d, true)) => some d
  | _ => none
/-- what is looked at holds no lists of its own any more -/
def inn (r : Env) (i : Nat) : Env := match r[i]? with
  | some (some (.dcl l, true)) => r.set i (some (norm (.dcl l), true))
  | _ => r
def frz (r : Env) (i : Nat) : Env := match r[i]? with
  | some (some (d, true)) => r.set i (some (norm d, false))
  | _ => r
def wip (r : Env) : List Nat → Env
  | [] => r
  | v :: vs => (wip r vs).set v none
/-- the slots vs as in r0 -/
def keepS : Option (Option (D × Bool)) → Option (D × Bool)
  | some (some (d, false)) => some (d, false)
  | _ => none
def back (r r0 : Env) : List Nat → Env
  | [] => r
  | v :: vs => (back r r0 vs).set v (keepS r0[v]?)

mutual
def asgT : T → D → Bool → Env → Option Env
  | .n i, d, f, r => some (r.set i (some (d, f)))
  | .t l, .tup ds, _, r => asgTs l ds r
  | .t _, _, _, _ => none
def asgTs : List T → List D → Env → Option Env
  | [], [], r => some r
  | t :: ts, d :: ds, r => (asgT t d false r).bind fun r1 => asgTs ts ds r1
  | _, _, _ => none
end

/-- what a walk's words give: 0 the thing, 1 range, 2 enumerate, 3 zip, 4 items, 5 values -/
def walk (k : Nat) (ds : List D) : Option (List D) := match k, ds with
  | 0, [d] => itemsOf d
  | 1, [.int j] => if -(2 ^ 62) ≤ j ∧ j < 2 ^ 62 then some ((List.range j.toNat).map fun (n : Nat) => D.int (n : Int)) else none
  | 1, [.int i, .int j] => if -(2 ^ 62) ≤ i ∧ i < 2 ^ 62 ∧ -(2 ^ 62) ≤ j ∧ j < 2 ^ 62 then some ((List.range (j - i).toNat).map fun (n : Nat) => D.int (i + (n : Int))) else none
  | 2, [.lst l] => some ((l.zipIdx).map fun p => .tup [.int (p.2 : Int), p.1])
  | 3, [.lst a, .lst b] => some (zip2 a b)
  | 3, [.tup a, .tup b] => some (zip2 a b)
  | 3, [.lst a, .tup b] => some (zip2 a b)
  | 3, [.tup a, .lst b] => some (zip2 a b)
  | 4, [.dct l] => some (l.map fun p => .tup [p.1, p.2])
  | 5, [.dct l] => some (l.map (·.2))
  | _, _ => none


/-- a value: not a slot that is only looked at -/
def toE : Option (Sum Nat D × Bool × St) → Option (D × Bool × St)
  | some (.inr d, f, s) => some (d, f, s)
  | _ => none
def rsl (r : Env) : Sum Nat D → Option D
  | .inl i => look r i
  | .inr d => some d
def ok (d : D) (f : Bool) (s : St) : Sum Nat D × Bool × St := (.inr d, f, s)
def pairUp : List D → Option (List (D × D))
  | [] => some []
  | k :: v :: r => (pairUp r).map ((k, v) :: ·)
  | _ => none
def frzL (r : Env) : List Nat → Env
  | [] => r
  | j :: js => frzL (frz r j) js
def looks (r : Env) : List Nat → Option (List D)
  | [] => some []
  | j :: js => (look r j).bind fun d => (looks r js).map (norm d :: ·)

/-- whose method it is -/
def mOk (o : B) (d : D) : Bool := match o, d with
  | .get, .dct _ => true
  | .index, .lst _ => true
  | _, _ => false
mutual
def ev (C : Cl) : E → St → Option (Sum Nat D × Bool × St)
  | .c d, st => some (ok d false st)
  | .v i, st => (look st.r i).map fun d => ok (norm d) false { st with r := frz st.r i }
  | .p i, st => (look st.r i).map fun _ => (.inl i, false, { st with r := inn st.r i })
  | .fn x, st => some (ok (.fn x) false st)
  | .u o a, st => (ev C a st).bind fun (t, _, s1) => (rsl s1.r t).bind fun d => (uF o d).map fun (z, f) => ok z f s1
  | .b o a b, st => (ev C a st).bind fun (t, _, s1) => (ev C b s1).bind fun (u, _, s2) => (rsl s2.r t).bind fun d => (rsl s2.r u).bind fun e => (bF o d e).map fun (z, f) => ok z f s2
  | .b3 o a b c, st => (ev C a st).bind fun (t, _, s1) => (toE (ev C b s1)).bind fun (e, _, s2) => (toE (ev C c s2)).bind fun (x, _, s3) =>
      (rsl s3.r t).bind fun d => (b3F o d e x).map fun (z, f) => ok z f s3
  | .m o a b, st => (ev C a st).bind fun (t, _, s1) => (rsl s1.r t).bind fun d0 => (toE (ev C b s1)).bind fun (e, _, s2) => (rsl s2.r t).bind fun d => if mOk o d0 = true then (bF o d e).map fun (z, f) => ok z f s2 else none
  | .m3 a b c, st => (ev C a st).bind fun (t, _, s1) => (rsl s1.r t).bind fun d0 => (toE (ev C b s1)).bind fun (e, _, s2) => (toE (ev C c s2)).bind fun (x, _, s3) =>
      (rsl s3.r t).bind fun d => if mOk .get d0 = true then (b3F .get d e x).map fun (z, f) => ok z f s3 else none
  | .and a b, st => (toE (ev C a st)).bind fun (d, _, s1) => match d with
    | .bl true => (toE (ev C b s1)).map fun (e, _, s2) => ok e false s2
    | .bl false => some (ok (.bl false) false s1)
    | _ => none
  | .or a b, st => (toE (ev C a st)).bind fun (d, _, s1) => match d with
    | .bl true => some (ok (.bl true) false s1)
    | .bl false => (toE (ev C b s1)).map fun (e, _, s2) => ok e false s2
    | _ => none
  | .not a, st => (toE (ev C a st)).bind fun (d, _, s1) => match d with
    | .bl b => some (ok (.bl (!b)) false s1)
    | _ => none
  | .ite c a b, st => (toE (ev C c st)).bind fun (d, _, s1) => match d with
    | .bl true => (toE (ev C a s1)).map fun (e, f, s2) => ok e f s2
    | .bl false => (toE (ev C b s1)).map fun (e, f, s2) => ok e f s2
    | _ => none
  | .ch o q a b c, st => (ev C a st).bind fun (t, _, s1) => (ev C b s1).bind fun (u, _, s2) => (rsl s2.r t).bind fun d => (rsl s2.r u).bind fun e => (bF o d e).bind fun (z, _) => match z with
    | .bl true => (ev C c s2).bind fun (w, _, s3) => (rsl s3.r u).bind fun e' => (rsl s3.r w).bind fun x => (bF q e' x).map fun (y, f) => ok y f s3
    | .bl false => some (ok (.bl false) false s2)
    | _ => none
  | .tup l, st => (evs C l st).bind fun (ds, s1) => if ds.length ≤ sizeLine then some (ok (.tup ds) false s1) else none
  | .lst l, st => (evs C l st).bind fun (ds, s1) => if ds.length ≤ sizeLine then some (ok (.lst ds) true s1) else none
  | .dnew, st => some (ok (.dct []) true st)
  | .dct l, st => (evs C l st).bind fun (ds, s1) => (pairUp ds).bind fun ps => if ps.length ≤ 15 then (dputs [] ps).map fun e => ok (.dct e) true s1 else none
  | .call f l, st => (evs C l st).bind fun (ds, s1) => (C.f f ds s1.g).map fun (d, fr, g) => ok d fr { s1 with g := g }
  | .app i l, st => (look st.r i).bind fun h => (evs C l st).bind fun (ds, s1) => match h with
    | .fn x => (C.f x ds s1.g).map fun (d, fr, g) => ok d fr { s1 with g := g }
    | .clo c caps => if plainDs ds = true then (C.c c caps ds s1.g).map fun (d, fr, g) => ok d fr { s1 with g := g } else none
    | _ => none
  | .callx f l, st => (evx C l st).bind fun (ds, s1) => (C.f f ds s1.g).bind fun (d, fr, g) => if plainD d = true then some (ok d fr { s1 with g := g }) else none
  | .lam _ _ _, _ => none
  | .lc e k t a ifs own, st => (evs C a st).bind fun (ds, s1) => (walk k ds).bind fun xs =>
      (xs.foldlM (fun (acc : List D × St) x =>
        (asgT t x false (wip acc.2.r own)).bind fun r1 => (evTs C ifs { acc.2 with r := r1 }).bind fun (b, s2) =>
          if b = true then (toE (ev C e s2)).bind fun (d, _, s3) => if acc.1.length < sizeLine then some (acc.1 ++ [d], s3) else none else some (acc.1, s2)) ([], s1)).map fun (acc, s4) =>
        ok (.lst acc) true { s4 with r := back s4.r s1.r own }
  | .lc2 e k t a ifs k2 t2 a2 ifs2 own, st => (evs C a st).bind fun (ds, s1) => (walk k ds).bind fun xs =>
      (xs.foldlM (fun (acc : List D × St) x =>
        (asgT t x false (wip acc.2.r own)).bind fun r1 => (evTs C ifs { acc.2 with r := r1 }).bind fun (b, s2) =>
          if b = true then
            (evs C a2 s2).bind fun (ds2, s3) => (walk k2 ds2).bind fun ys =>
              ys.foldlM (fun (acc : List D × St) y => (asgT t2 y false acc.2.r).bind fun r2 => (evTs C ifs2 { acc.2 with r := r2 }).bind fun (b2, s4) =>
                if b2 = true then (toE (ev C e s4)).bind fun (d, _, s5) => if acc.1.length < sizeLine then some (acc.1 ++ [d], s5) else none else some (acc.1, s4)) (acc.1, s3)
          else some (acc.1, s2)) ([], s1)).map fun (acc, s6) =>
        ok (.lst acc) true { s6 with r := back s6.r s1.r own }
  | .dc x y k t a ifs own, st => (evs C a st).bind fun (ds, s1) => (walk k ds).bind fun xs =>
      (xs.foldlM (fun (acc : List (D × D) × St) z =>
        (asgT t z false (wip acc.2.r own)).bind fun r1 => (evTs C ifs { acc.2 with r := r1 }).bind fun (b, s2) =>
          if b = true then (toE (ev C x s2)).bind fun (kd, _, s3) => (toE (ev C y s3)).bind fun (vd, _, s4) =>
            if kOk acc.1 kd ∧ acc.1.length < sizeLine then some (dput acc.1 kd vd, s4) else none else some (acc.1, s2)) ([], s1)).map fun (acc, s5) =>
        ok (.dct acc) true { s5 with r := back s5.r s1.r own }
  | .pop i, st => (owned st.r i).bind fun d => match d with
    | .lst l => (l[l.length - 1]?).map fun x => ok x false { st with r := st.r.set i (some (.lst l.dropLast, true)) }
    | _ => none
  | .popAt i a, st => (owned st.r i).bind fun d0 => (toE (ev C a st)).bind fun (k, _, s1) => (owned s1.r i).bind fun d => match d0, d, k with
    | .lst _, .lst l, .int n => if 0 ≤ n ∧ n < l.length ∧ n < 2 ^ 63 then (l[n.toNat]?).map fun x => ok x false { s1 with r := s1.r.set i (some (.lst (l.eraseIdx n.toNat), true)) } else none
    | _, _, _ => none
  | .setd i a b, st => (owned st.r i).bind fun d0 => (toE (ev C a st)).bind fun (k, _, s1) => (toE (ev C b s1)).bind fun (v, _, s2) => (owned s2.r i).bind fun d => match d0, d with
    | .dct _, .dct l => if kOk l k ∧ l.length < sizeLine then match dget l k with
        | some w => some (ok w false s2)
        | none => some (ok v false { s2 with r := s2.r.set i (some (.dct (l ++ [(k, v)]), true)) })
      else none
    | _, _ => none
  | .sortk c a, st => (ev C a st).bind fun (t, _, s1) => (rsl s1.r t).bind fun d => (itemsOf d).bind fun l =>
      (l.mapM fun x => (C.c c [] [x] s1.g).bind fun (z, _, _) => z.py).bind fun ps => (sortF (ps.zip l)).map fun s => ok (.lst s) true s1
def evs (C : Cl) : List E → St → Option (List D × St)
  | [], st => some ([], st)
  | e :: es, st => (toE (ev C e st)).bind fun (d, _, s1) => (evs C es s1).map fun (ds, s2) => (d :: ds, s2)
def evx (C : Cl) : List E → St → Option (List D × St)
  | [], st => some ([], st)
  | .lam io c js :: es, st => if (match io with
      | none => true
      | some i => match st.r[i]? with
        | some (some (.pend c', _)) => decide (c = c')
        | _ => false) = true then (looks st.r js).bind fun ds => (evx C es { st with r := frzL st.r js }).map fun (es', s2) => (.clo c ds :: es', s2) else none
  | e :: es, st => (toE (ev C e st)).bind fun (d, _, s1) => (evx C es s1).map fun (ds, s2) => (d :: ds, s2)
def evTs (C : Cl) : List E → St → Option (Bool × St)
  | [], st => some (true, st)
  | e :: es, st => (toE (ev C e st)).bind fun (d, _, s1) => match d with
    | .bl true => evTs C es s1
    | .bl false => some (false, s1)
    | _ => none
end
def evE (C : Cl) (e : E) (st : St) : Option (D × Bool × St) := toE (ev C e st)

inductive Out where
  | nx (s : St) | ret (d : D) (f : Bool) (g : G) | brk (s : St) | cnt (s : St)

def forL (body : St → Option Out) (t : T) : List D → St → Option Out
  | [], st => some (.nx st)
  | x :: xs, st => (asgT t x false st.r).bind fun r1 => (body { st with r := r1 }).bind fun o => match o with
    | .nx s => forL body t xs s
    | .cnt s => forL body t xs s
    | .brk s => some (.nx s)
    | .ret d f g => some (.ret d f g)
def whlN (c : St → Option (D × Bool × St)) (body : St → Option Out) : Nat → St → Option Out
  | 0, _ => none
  | n + 1, st => (c st).bind fun (d, _, s1) => match d with
    | .bl false => some (.nx s1)
    | .bl true => (body s1).bind fun o => match o with
      | .nx s => whlN c body n s
      | .cnt s => whlN c body n s
      | .brk s => some (.nx s)
      | .ret d f g => some (.ret d f g)
    | _ => none
def isCont : D → Bool
  | .lst _ => true
  | .dct _ => true
  | _ => false
def asgN (is : List Nat) (vs : List (D × Bool)) (r : Env) : Option Env := match is, vs with
  | [], [] => some r
  | i :: is, v :: vs => asgN is vs (r.set i (some v))
  | _, _ => none
def evP (C : Cl) : List E → St → Option (List (D × Bool) × St)
  | [], st => some ([], st)
  | e :: es, st => (evE C e st).bind fun (d, f, s1) => (evP C es s1).map fun (ds, s2) => ((d, f) :: ds, s2)

/-- a key with an empty list, where it is not yet there -/
def lput0 (l : List (D × List D)) (k : D) : List (D × List D) := if l.any (fun p => p.1.same k) then l else l ++ [(k, [])]
/-- x behind the list of a key that is there -/
def lapp : List (D × List D) → D → D → Option (List (D × List D))
  | [], _, _ => none
  | (a, w) :: r, k, v => if a.same k then (if w.length < sizeLine then some ((a, w ++ [v]) :: r) else none) else (lapp r k v).map fun r' => (a, w) :: r'
/-- a dict of lists that it alone holds -/
def lnew : D → Option (List (D × List D))
  | .dct [] => some []
  | .dcl l => some l
  | _ => none
def asgX (C : Cl) : TX → D → St → Option St
  | .n i, d, st => some { st with r := st.r.set i (some (d, false)) }
  | .s i k, v, st => (owned st.r i).bind fun _ => (evE C k st).bind fun (x, _, s2) => (owned s2.r i).bind fun d => match d with
    | .dct l => if kOk l x ∧ l.length < sizeLine then some { s2 with r := s2.r.set i (some (.dct (dput l x v), true)) } else none
    | .lst l => match x with
      | .int n => if 0 ≤ n ∧ n < l.length then some { s2 with r := s2.r.set i (some (.lst (l.set n.toNat v), true)) } else none
      | _ => none
    | _ => none
def asgXs (C : Cl) : List TX → List D → St → Option St
  | [], [], st => some st
  | t :: ts, d :: ds, st => (asgX C t d st).bind fun s1 => asgXs C ts ds s1
  | _, _, _ => none
mutual
def evS (C : Cl) (w : Nat) : S → St → Option Out
  | .asgx ts e, st => (evE C e st).bind fun (d, _, s1) => match d with
    | .tup ds => (asgXs C ts ds s1).map .nx
    | _ => none
  | .asg t e, st => (evE C e st).bind fun (d, f, s1) => (asgT t d f s1.r).map fun r => .nx { s1 with r := r }
  | .par is es, st => (evP C es st).bind fun (vs, s1) => (asgN is vs s1.r).map fun r => .nx { s1 with r := r }
  | .sub i k e, st => (evE C e st).bind fun (v, _, s1) => (owned s1.r i).bind fun _ => (evE C k s1).bind fun (x, _, s2) => (owned s2.r i).bind fun d => match d with
    | .dct l => if kOk l x ∧ l.length < sizeLine then some (.nx { s2 with r := s2.r.set i (some (.dct (dput l x v), true)) }) else none
    | .lst l => match x with
      | .int n => if 0 ≤ n ∧ n < l.length then some (.nx { s2 with r := s2.r.set i (some (.lst (l.set n.toNat v), true)) }) else none
      | _ => none
    | _ => none
  | .aug i o e, st => (look st.r i).bind fun d => (evE C e st).bind fun (x, _, s1) => match o, d, x with
    | .add, .int a, .int b => some (.nx { s1 with r := s1.r.set i (some (.int (a + b), false)) })
    | .sub, .int a, .int b => some (.nx { s1 with r := s1.r.set i (some (.int (a - b), false)) })
    | _, _, _ => none
  | .augs i k o e, st => (evE C k st).bind fun (x, _, s1) => (look s1.r i).bind fun d => (bF .idx d x).bind fun (y, _) => (evE C e s1).bind fun (v, _, s2) => match y, v with
    | .int a, .int b => (bF o (.int a) (.int b)).bind fun (z, _) => (owned s2.r i).bind fun d => match d with
      | .dct l => if kOk l x ∧ l.length < sizeLine then some (.nx { s2 with r := s2.r.set i (some (.dct (dput l x z), true)) }) else none
      | .lst l => match x with
        | .int n => if 0 ≤ n ∧ n < l.length then some (.nx { s2 with r := s2.r.set i (some (.lst (l.set n.toNat z), true)) }) else none
        | _ => none
      | _ => none
    | _, _ => none
  | .app i e, st => (owned st.r i).bind fun d0 => (evE C e st).bind fun (x, _, s1) => (owned s1.r i).bind fun d => match d0, d with
    | .lst _, .lst l => if l.length < sizeLine then some (.nx { s1 with r := s1.r.set i (some (.lst (l ++ [x]), true)) }) else none
    | _, _ => none
  | .ext i e, st => (owned st.r i).bind fun d0 => (evE C e st).bind fun (x, _, s1) => (owned s1.r i).bind fun d => match d0, d, x with
    | .lst _, .lst l, .lst m => if l.length + m.length ≤ sizeLine then some (.nx { s1 with r := s1.r.set i (some (.lst (l ++ m), true)) }) else none
    | _, _, _ => none
  | .sapp i k e, st => (owned st.r i).bind fun d0 => (evE C k st).bind fun (x, _, s1) => (owned s1.r i).bind fun d => match lnew d0, lnew d with
    | some _, some l => if kOk (l.map fun p => (p.1, D.non)) x ∧ l.length < sizeLine then
        (evE C e { s1 with r := s1.r.set i none }).bind fun (v, _, s2) => (lapp (lput0 l x) x v).map fun l' => .nx { s2 with r := s2.r.set i (some (.dcl l', true)) }
      else none
    | _, _ => none
  | .ex e, st => (evE C e st).map fun (_, _, s1) => .nx s1
  | .ret e, st => match e with
    | .v i => match st.r[i]? with
      | some (some (d, f)) => if isPend d = true then none else some (.ret (norm d) f st.g)
      | _ => none
    | e => (evE C e st).map fun (d, f, s1) => .ret d f s1.g
  | .retN, st => some (.ret .non false st.g)
  | .ite c a b, st => (evE C c st).bind fun (d, _, s1) => match d with
    | .bl true => evSs C w a s1
    | .bl false => evSs C w b s1
    | _ => none
  | .whl c b, st => whlN (evE C c) (evSs C w b) w st
  | .for_ k t a b, st => (evs C a st).bind fun (ds, s1) => (walk k ds).bind fun xs => forL (evSs C w b) t xs s1
  | .brk, st => some (.brk st)
  | .cnt, st => some (.cnt st)
  | .pass, st => some (.nx st)
  | .rai, _ => none
  | .def_ i c, st => some (.nx { st with r := st.r.set i (some (.pend c, false)) })
def evSs (C : Cl) (w : Nat) : List S → St → Option Out
  | [], st => some (.nx st)
  | s :: ss, st => (evS C w s st).bind fun o => match o with
    | .nx s1 => evSs C w ss s1
    | o => some o
end

/-- a def: its parameters' number (behind the captured ones), its slots' number, its body -/
structure Fn where
  np : Nat
  n : Nat
  body : List S
def begin_ (F : Fn) (ds : List D) (g : G) : St := ⟨ds.map (fun d => some (d, false)) ++ List.replicate (F.n - ds.length) none, g⟩
def runF (C : Cl) (w : Nat) (F : Fn) (ds : List D) (g : G) : Option (D × Bool × G) :=
  if ds.length = F.np ∧ F.np ≤ F.n then (evSs C w F.body (begin_ F ds g)).bind fun o => match o with
    | .nx s => some (.non, false, s.g)
    | .ret d f g => some (d, f, g)
    | _ => none
  else none

/-- the stream of draws -/
def fill : List Int → Int → Int → List Int × Int × Int
  | [], cur, mix => ([], cur, mix)
  | c :: cs, cur, mix => if cur = 0 then fill cs (if 1000000000000000000 ≤ (if c < 0 then -c else c) then (if c < 0 then -c else c) else 0) ((mix * 8191 + (if c < 0 then -c else c) + 3) % 2147483647) else (c :: cs, cur, mix)
def drawF (s : Strm) (m : Int) : Option (Int × Strm) :=
  let z := fill s.cells s.cur s.mix
  let n := s.cnt + 1
  if 0 < m ∧ m < 1073741824 ∧ 0 ≤ s.cnt ∧ s.cnt < 1000000000000 ∧ 0 ≤ s.mix ∧ s.mix < 2147483647 ∧ 0 ≤ s.cur then
    if 0 < z.2.1 then some (z.2.1 % m, ⟨z.1, z.2.1 / m, n, z.2.2⟩)
    else some ((((z.2.2 + 7919 * n + 104729) ^ 5 % 2147483629) * 48271 + 30011 * n + 29) ^ 3 % 1000000007 % m, ⟨z.1, z.2.1, n, z.2.2⟩)
  else none

/-- a text: its defs by name, its closures' bodies (what they capture first) by number -/
structure Tab where
  f : Str → Option Fn
  c : Nat → Option Fn
def prim (x : Str) (ds : List D) (g : G) : Option (Option (D × Bool × G)) :=
  if x = "_law_draw" then some (match ds, g.s with
    | [.strm, .int m], some s => (drawF s m).map fun (r, s') => (.int r, false, ⟨some s'⟩)
    | _, _ => none)
  else if x = "_law_stream" then some (match ds, g.s with
    | [.scr ns], none => some (.strm, false, ⟨some ⟨ns, 0, 0, 17⟩⟩)
    | _, _ => none)
  else none
def callN (T : Tab) (w : Nat) : Nat → Cl
  | 0 => ⟨fun _ _ _ => none, fun _ _ _ _ => none⟩
  | k + 1 => ⟨fun x ds g => match prim x ds g with
      | some r => r
      | none => (T.f x).bind fun F => runF (callN T w k) w F ds g,
    fun c caps ds g => (T.c c).bind fun F => runF (callN T w k) w F (caps ++ ds) g⟩
end WW
end
section
/-! what a value stands for: data over the part of the heap that does not change any more; what a body's state stands for -/
namespace WW
open PySem L2

/-- a closure's text -/
structure CTx where
  name : Str
  qual : Str
  params : Arguments
  body : FuncBody
  scope : Scope
/-- what is known of the text -/
structure Ctx where
  K : PySem.W.Frag
  w : World
  mg : Str → Option Value
  cf : Nat → Option CTx
  own : List (Str × Addr)
  tabs : List (Addr × (Nat → Nat → Str))
/-- the part that stays: objects, and where the stream and its cells stand -/
structure Fz where
  m : Hp
  s : Option (Addr × Addr)
  c : Addr → Option Value
structure Fz.Le (F F' : Fz) : Prop where
  m : ∀ a o, F.m a = some o → F'.m a = some o
  s : ∀ p, F.s = some p → F'.s = some p
  c : ∀ a u, F.c a = some u → F'.c a = some u
theorem Fz.Le.rfl {F : Fz} : F.Le F := ⟨fun _ _ h => h, fun _ h => h, fun _ _ h => h⟩
theorem Fz.Le.trans {F G H : Fz} (a : F.Le G) (b : G.Le H) : F.Le H := ⟨fun c o h => b.m c o (a.m c o h), fun p h => b.s p (a.s p h), fun c o h => b.c c o (a.c c o h)⟩

/-- a dict's entries are right: keys that may be, of one sort, each once -/
structure DWf (l : List (D × D)) : Prop where
  ok : ∀ p ∈ l, keyOk 8 p.1 = true
  one : ∀ p ∈ l, ∀ q ∈ l, isTup p.1 = isTup q.1
  nd : (l.map fun p => keyN p.1).Nodup
/-- a dict's entries by hash, key, value -/
def EntR : List (Int × V × V) → List DictEntry → Prop := Paired fun p e => e.hash = p.1 ∧ RelV p.2.1 e.key ∧ RelV p.2.2 e.val
/-- a dict's entries: by values, as they stand, the count of its turns -/
abbrev DS := List (Int × V × V) × Array DictEntry × Nat
def DicO (a : Addr) (es : DS) : HO := .ext fun h => (a == sysModules) = false ∧ es.1.length ≤ sizeLine ∧ h.DictRaw a es.2.1 es.2.2 ∧ EntR es.1 es.2.1.toList
/-- a captured variable's cell -/
def CelO (c : Addr) (v : V) : HO := .ext fun h => ∃ u, RelV v u ∧ h.IsCell c (some u)
/-- without these addresses -/
def Fz.cut (F : Fz) (S : List Addr) : Fz := ⟨fun a => if a ∈ S then none else F.m a, F.s, F.c⟩
theorem Fz.Le.cut {F F' : Fz} (h : F.Le F') (S : List Addr) : (F.cut S).Le (F'.cut S) := ⟨fun a o e => by
  have e : (if a ∈ S then none else F.m a) = some o := e
  show (if a ∈ S then none else F'.m a) = some o
  split at e
  · cases e
  · rename_i z
    rw [if_neg z]
    exact h.m _ _ e, h.s, h.c⟩
theorem Fz.cut_le (F : Fz) (S : List Addr) : (F.cut S).Le F := ⟨fun a o e => by
  have e : (if a ∈ S then none else F.m a) = some o := e
  split at e
  · cases e
  · exact e, fun _ h => h, fun _ _ h => h⟩
def FunO (f : Addr) (t : CTx) (cl : List (Str × Addr)) (c : Addr) : HO := .ext fun h => (∃ (od : Option Addr) (sl : Array (Option Value)) (doc pm ctv : Value),
  h.get? f = some (⟨.type "function", od, .func { name := t.name, qualname := t.qual, params := t.params, body := t.body, scope := t.scope, globals := mainGlobals, closure := cl, defaults := .none, kwdefaults := .none, doc, pyModule := pm, annotations := none, code := .ref c, closureTuple := ctv, builtins := builtinsNs }, sl⟩ : Obj))

section
variable (κ : Ctx)
mutual
inductive Rep : Fz → V → D → Prop
  | non {F : Fz} : Rep F .non .non
  | bl {F : Fz} (b : Bool) : Rep F (.bl b) (.bl b)
  | int {F : Fz} (i : Int) : Rep F (.int i) (.int i)
  | str {F : Fz} (x : Str) : Rep F (.str x) (.str x)
  | tup {F : Fz} {a : Addr} {xs : List V} {ds : List D} : SqT κ.K F.m a xs → RepL F xs ds → Rep F (.ref a) (.tup ds)
  | lst {F : Fz} {a : Addr} {xs : List V} {ds : List D} : F.m a = some (.lst xs) → RepL F xs ds → Rep F (.ref a) (.lst ds)
  | dct {F : Fz} {a : Addr} {es : DS} {l : List (D × D)} : F.m a = some (DicO a es) → RepD F es.1 l → DWf l → Rep F (.ref a) (.dct l)
  | scr {F : Fz} {a : Addr} {l : List Int} : SqL κ.K F.m a (l.map .int) → Rep F (.ref a) (.scr l)
  | strm {F : Fz} {a b : Addr} : F.s = some (a, b) → Rep F (.ref a) .strm
  | fn {F : Fz} {a : Addr} {x : Str} : κ.mg x = some (.ref a) → Rep F (.ref a) (.fn x)
  | clo {F : Fz} {f c' : Addr} {c : Nat} {t : CTx} {cl : List (Str × Addr)} {xs : List V} {ds : List D} : κ.cf c = some t → F.m f = some (FunO f t cl c') → F.m c' = some (LamX.CodeO c' t.qual) → RepC F cl xs → RepL (F.cut (cl.map (·.2))) xs ds → Rep F (.ref f) (.clo c ds)
inductive RepL : Fz → List V → List D → Prop
  | nil {F : Fz} : RepL F [] []
  | cons {F : Fz} {v : V} {vs : List V} {d : D} {ds : List D} : Rep F v d → RepL F vs ds → RepL F (v :: vs) (d :: ds)
inductive RepD : Fz → List (Int × V × V) → List (D × D) → Prop
  | nil {F : Fz} : RepD F [] []
  | cons {F : Fz} {k v : V} {es : List (Int × V × V)} {x y : D} {l : List (D × D)} : Rep F k x → Rep F v y → RepD F es l → RepD F (((keyN x).hash κ.w, k, v) :: es) ((x, y) :: l)
/-- the captured cells hold the values -/
inductive RepC : Fz → List (Str × Addr) → List V → Prop
  | nil {F : Fz} : RepC F [] []
  | cons {F : Fz} {x : Str} {c : Addr} {v : V} {cl : List (Str × Addr)} {vs : List V} : F.m c = some (CelO c v) → RepC F cl vs → RepC F ((x, c) :: cl) (v :: vs)
end
end

section
variable {κ : Ctx} {F F' : Fz}
theorem sqT_le (h : F.Le F') {a : Addr} {xs : List V} (q : SqT κ.K F.m a xs) : SqT κ.K F'.m a xs := by
  rcases q with q | q
  · refine .inl ?_
    rcases q with q | ⟨o, q⟩
    · exact .inl (h.m _ _ q)
    · exact .inr ⟨o, h.m _ _ q⟩
  · exact .inr q
theorem sqL_le (h : F.Le F') {a : Addr} {xs : List V} (q : SqL κ.K F.m a xs) : SqL κ.K F'.m a xs := by
  rcases q with q | q
  · refine .inl ?_
    rcases q with q | ⟨o, q⟩
    · exact .inl (h.m _ _ q)
    · exact .inr ⟨o, h.m _ _ q⟩
  · exact .inr q
mutual
theorem Rep.le : ∀ {F F' : Fz} (h : F.Le F') {v : V} {d : D}, Rep κ F v d → Rep κ F' v d
  | _, _, h, _, _, .non => .non
  | _, _, h, _, _, .bl b => .bl b
  | _, _, h, _, _, .int i => .int i
  | _, _, h, _, _, .str x => .str x
  | _, _, h, _, _, .tup q r => .tup (sqT_le h q) (RepL.le h r)
  | _, _, h, _, _, .lst q r => .lst (h.m _ _ q) (RepL.le h r)
  | _, _, h, _, _, .scr q => .scr (sqL_le h q)
  | _, _, h, _, _, .dct q r w => .dct (h.m _ _ q) (RepD.le h r) w
  | _, _, h, _, _, .strm q => .strm (h.s _ q)
  | _, _, h, _, _, .fn q => .fn q
  | _, _, h, _, _, .clo q1 q2 q3 q4 q5 => .clo q1 (h.m _ _ q2) (h.m _ _ q3) (RepC.le h q4) (RepL.le (h.cut _) q5)
theorem RepL.le : ∀ {F F' : Fz} (h : F.Le F') {v : List V} {d : List D}, RepL κ F v d → RepL κ F' v d
  | _, _, h, _, _, .nil => .nil
  | _, _, h, _, _, .cons a b => .cons (Rep.le h a) (RepL.le h b)
theorem RepD.le : ∀ {F F' : Fz} (h : F.Le F') {v : List (Int × V × V)} {d : List (D × D)}, RepD κ F v d → RepD κ F' v d
  | _, _, h, _, _, .nil => .nil
  | _, _, h, _, _, .cons a b c => .cons (Rep.le h a) (Rep.le h b) (RepD.le h c)
theorem RepC.le : ∀ {F F' : Fz} (h : F.Le F') {cl : List (Str × Addr)} {v : List V}, RepC κ F cl v → RepC κ F' cl v
  | _, _, h, _, _, .nil => .nil
  | _, _, h, _, _, .cons a c => .cons (h.m _ _ a) (RepC.le h c)
end
theorem RepL.length : ∀ {v : List V} {d : List D}, RepL κ F v d → v.length = d.length
  | _, _, .nil => rfl
  | _, _, .cons _ b => by simp [RepL.length b]
theorem RepL.append : ∀ {v w : List V} {d e : List D}, RepL κ F v d → RepL κ F w e → RepL κ F (v ++ w) (d ++ e)
  | _, _, _, _, .nil, q => q
  | _, _, _, _, .cons a b, q => .cons a (RepL.append b q)
theorem RepL.get : ∀ {v : List V} {d : List D} {i : Nat} {x : D}, RepL κ F v d → d[i]? = some x → ∃ y, v[i]? = some y ∧ Rep κ F y x
  | _, _, _, _, .nil, e => by simp at e
  | _, _, 0, _, .cons a _, e => by simp at e; subst e; exact ⟨_, rfl, a⟩
  | _, _, i + 1, _, .cons _ b, e => by
    obtain ⟨y, h1, h2⟩ := RepL.get (i := i) b (by simpa using e)
    exact ⟨y, by simpa using h1, h2⟩
theorem RepL.getV : ∀ {v : List V} {d : List D} {i : Nat} {y : V}, RepL κ F v d → v[i]? = some y → ∃ x, d[i]? = some x ∧ Rep κ F y x
  | _, _, _, _, .nil, e => by simp at e
  | _, _, 0, _, .cons a _, e => by simp at e; subst e; exact ⟨_, rfl, a⟩
  | _, _, i + 1, _, .cons _ b, e => by
    obtain ⟨y, h1, h2⟩ := RepL.getV (i := i) b (by simpa using e)
    exact ⟨y, by simpa using h1, h2⟩
theorem RepL.take : ∀ {v : List V} {d : List D} (n : Nat), RepL κ F v d → RepL κ F (v.take n) (d.take n)
  | _, _, 0, _ => by simp; exact .nil
  | _, _, _ + 1, .nil => .nil
  | _, _, n + 1, .cons a b => .cons a (RepL.take n b)
theorem RepL.drop : ∀ {v : List V} {d : List D} (n : Nat), RepL κ F v d → RepL κ F (v.drop n) (d.drop n)
  | _, _, 0, q => q
  | _, _, _ + 1, .nil => .nil
  | _, _, n + 1, .cons _ b => RepL.drop n b
theorem RepL.reverse : ∀ {v : List V} {d : List D}, RepL κ F v d → RepL κ F v.reverse d.reverse
  | _, _, .nil => .nil
  | _, _, .cons a b => by
    rw [List.reverse_cons, List.reverse_cons]
    exact (RepL.reverse b).append (.cons a .nil)
theorem RepL.set {x : D} {y : V} (r : Rep κ F y x) : ∀ {v : List V} {d : List D} (i : Nat), RepL κ F v d → RepL κ F (v.set i y) (d.set i x)
  | _, _, _, .nil => .nil
  | _, _, 0, .cons _ b => .cons r b
  | _, _, i + 1, .cons a b => .cons a (RepL.set r i b)
theorem RepL.eraseIdx : ∀ {v : List V} {d : List D} (i : Nat), RepL κ F v d → RepL κ F (v.eraseIdx i) (d.eraseIdx i)
  | _, _, _, .nil => .nil
  | _, _, 0, .cons _ b => b
  | _, _, i + 1, .cons a b => .cons a (RepL.eraseIdx i b)
theorem RepL.dropLast {v : List V} {d : List D} (h : RepL κ F v d) : RepL κ F v.dropLast d.dropLast := by
  rw [List.dropLast_eq_take, List.dropLast_eq_take, h.length]
  exact h.take _
theorem RepL.ofInts : ∀ ns : List Int, RepL κ F (ns.map V.int) (ns.map D.int)
  | [] => .nil
  | n :: ns => .cons (.int n) (RepL.ofInts ns)
theorem RepD.length : ∀ {v : List (Int × V × V)} {d : List (D × D)}, RepD κ F v d → v.length = d.length
  | _, _, .nil => rfl
  | _, _, .cons _ _ b => by simp [RepD.length b]

/-! ### data without dicts, by the layer's own -/
mutual
theorem Rep.dp : ∀ {v : V} {d : D} {p : PyData}, Rep κ F v d → d.py = some p → Dp κ.K F.m v p
  | _, .non, _, .non, e => by simp [D.py] at e; subst e; exact .non
  | _, .bl b, _, .bl _, e => by simp [D.py] at e; subst e; exact .bl b
  | _, .int b, _, .int _, e => by simp [D.py] at e; subst e; exact .int b
  | _, .str b, _, .str _, e => by simp [D.py] at e; obtain ⟨_, rfl⟩ := e; exact .str b
  | _, .tup l, _, .tup q r, e => by
    simp only [D.py, Option.map_eq_some_iff] at e
    obtain ⟨ps, e, rfl⟩ := e
    exact .tup q (RepL.dp r e)
  | _, .lst l, _, .lst q r, e => by
    simp only [D.py, Option.map_eq_some_iff] at e
    obtain ⟨ps, e, rfl⟩ := e
    exact .lst (.inl (.inl q)) (RepL.dp r e)
  | _, .dct _, _, _, e => by simp [D.py] at e
  | _, .fn _, _, _, e => by simp [D.py] at e
  | _, .clo _ _, _, _, e => by simp [D.py] at e
  | _, .pend _, _, _, e => by simp [D.py] at e
  | _, .strm, _, _, e => by simp [D.py] at e
  | _, .scr _, _, _, e => by simp [D.py] at e
  | _, .dcl _, _, _, e => by simp [D.py] at e
theorem RepL.dp : ∀ {v : List V} {d : List D} {p : List PyData}, RepL κ F v d → pys d = some p → DpAll κ.K F.m v p
  | _, [], _, .nil, e => by simp [pys] at e; subst e; exact .nil
  | _, x :: xs, _, .cons a b, e => by
    simp only [pys, Option.bind_eq_some_iff, Option.map_eq_some_iff] at e
    obtain ⟨p, e1, ps, e2, rfl⟩ := e
    exact .cons (Rep.dp a e1) (RepL.dp b e2)
end
theorem Fz.Le.dp {H : Hp} (h : ∀ a o, F.m a = some o → H a = some o) {v : V} {p : PyData} (q : Dp κ.K F.m v p) : Dp κ.K H v p := by
  have hs : ∀ {a xs}, SqL κ.K F.m a xs → SqL κ.K H a xs := fun q => sqL_le (κ := κ) (F := F) (F' := ⟨H, F.s, F.c⟩) ⟨h, fun _ x => x, fun _ _ x => x⟩ q
  have ht : ∀ {a xs}, SqT κ.K F.m a xs → SqT κ.K H a xs := fun q => sqT_le (κ := κ) (F := F) (F' := ⟨H, F.s, F.c⟩) ⟨h, fun _ x => x, fun _ _ x => x⟩ q
  exact Dp.rec (motive_1 := fun v p _ => Dp κ.K H v p) (motive_2 := fun v p _ => DpAll κ.K H v p) .non .bl .int .str (fun q _ r => .lst (hs q) r) (fun q _ r => .tup (ht q) r) .nil (fun _ _ a b => .cons a b) q
end

/-! ### the state -/
/-- the stream's own objects -/
def Fz.isS (F : Fz) (a : Addr) : Prop := ∃ p, F.s = some p ∧ (a = p.1 ∨ a = p.2)
def StrR (H : Hp) (F : Fz) (g : G) : Prop := match g.s, F.s with
  | none, none => True
  | some s, some (a, b) => a ≠ b ∧ H a = some (.lst [.ref b, .int s.cur, .int s.cnt, .int s.mix]) ∧ H b = some (.lst (s.cells.map .int)) ∧ F.m a = none ∧ F.m b = none
  | _, _ => False
section
variable (κ : Ctx)
/-- the entries of a dict of lists that it alone holds, at bs -/
inductive RepE (H : Hp) (F : Fz) : List (Int × V × V) → List Addr → List (D × List D) → Prop
  | nil : RepE H F [] [] []
  | cons {k : V} {b : Addr} {es : List (Int × V × V)} {bs : List Addr} {x : D} {ds : List D} {xs : List V} {l : List (D × List D)} : Rep κ F k x → H b = some (.lst xs) → RepL κ F xs ds → RepE H F es bs l → RepE H F (((keyN x).hash κ.w, k, .ref b) :: es) (b :: bs) ((x, ds) :: l)
/-- a list or a dict that one slot alone holds, by all that it holds -/
def Root (H : Hp) (F : Fz) (a : Addr) (as : List Addr) : D → Prop
  | .lst ds => as = [a] ∧ ∃ xs, H a = some (.lst xs) ∧ RepL κ F xs ds
  | .dct l => as = [a] ∧ ∃ es, H a = some (DicO a es) ∧ RepD κ F es.1 l ∧ DWf l
  | .dcl l => ∃ es bs, as = a :: bs ∧ as.Nodup ∧ H a = some (DicO a es) ∧ RepE κ H F es.1 bs l ∧ DWf (l.map fun p => (p.1, D.lst p.2))
  | _ => False
/-- the tables of code objects, each code object of those that stay -/
def TabF (T : List (Addr × (Nat → Nat → Str))) (F : Fz) (H : Hp) : Prop := ∀ p ∈ T, ∃ ps : Array Value, H p.1 = some (.tbl ps) ∧ TriplesOk ps.toList ∧ ∀ (pos : Pos) (cv : Value), codeAmong pos ps.toList = some cv → ∃ c, cv = .ref c ∧ F.m c = some (LamX.CodeO c (p.2 pos.line pos.col))
theorem TabF.le {T : List (Addr × (Nat → Nat → Str))} {F F' : Fz} {H H' : Hp} (t : TabF T F H) (l : F.Le F') (h : ∀ p ∈ T, ∀ o, H p.1 = some o → H' p.1 = some o) : TabF T F' H' := fun p hp => by
  obtain ⟨ps, h1, h2, h3⟩ := t p hp
  refine ⟨ps, h p hp _ h1, h2, fun pos cv hc => ?_⟩
  obtain ⟨c, e, hc⟩ := h3 pos cv hc
  exact ⟨c, e, l.m _ _ hc⟩
/-- an address that nothing else tells of -/
structure Own (Gd : Hp) (H : Hp) (F : Fz) (b : Addr) : Prop where
  f : F.m b = none
  g : Gd b = none
  s : ¬ F.isS b
  h : ∃ o, H b = some o ∧ ∀ ps, o ≠ .tbl ps
/-- a slot's thing: a value, or a function made in this very body -/
def SRep (F : Fz) (v : V) : D → Prop
  | .pend c => ∃ (f c' : Addr) (t : CTx), v = .ref f ∧ κ.cf c = some t ∧ F.m f = some (FunO f t (cloFrom κ.own t.scope.names []) c') ∧ F.m c' = some (LamX.CodeO c' t.qual)
  | d => Rep κ F v d
structure R (Gd : Hp) (A : Nat → List Addr) (r : Env) (g : G) (σ : L2.St) (H : Hp) (F : Fz) : Prop where
  gk : ∀ a o, Gd a = some o → H a = some o
  fk : ∀ a o, F.m a = some o → H a = some o
  st : StrR H F g
  gs : ∀ a, F.isS a → Gd a = none
  gt : ∀ p ∈ κ.tabs, Gd p.1 = none
  tb : TabF κ.tabs F H
  len : σ.length = r.length
  sh : ∀ (i : Nat) (d : D), r[i]? = some (some (d, false)) → ∃ v, σ[i]? = some (some v) ∧ SRep κ F v d
  ow : ∀ (i : Nat) (d : D), r[i]? = some (some (d, true)) → ∃ a, σ[i]? = some (some (.ref a)) ∧ Root κ H F a (A i) d
  oa : ∀ (i : Nat) (d : D) (b : Addr), r[i]? = some (some (d, true)) → b ∈ A i → Own Gd H F b
  sep : ∀ (i j : Nat) (d e : D) (b : Addr), r[i]? = some (some (d, true)) → r[j]? = some (some (e, true)) → b ∈ A i → b ∈ A j → i = j
/-- a value as it is told: shared, or a new thing that nothing else holds -/
def VR (Gd : Hp) (A : Nat → List Addr) (r : Env) (H : Hp) (F : Fz) (v : V) (d : D) : Bool → Prop
  | false => Rep κ F v d
  | true => ∃ a, v = .ref a ∧ Root κ H F a [a] d ∧ Own Gd H F a ∧ norm d = d ∧ ∀ (i : Nat) (e : D), r[i]? = some (some (e, true)) → a ∉ A i
/-- the part that stays grows, but not at what is guarded -/
structure Grow (Gd : Hp) (F F' : Fz) : Prop where
  le : F.Le F'
  c : F'.c = F.c
  gd : ∀ a, Gd a ≠ none → F'.m a = F.m a
end
theorem Grow.rfl {Gd : Hp} {F : Fz} : Grow Gd F F := ⟨.rfl, Eq.refl _, fun _ _ => Eq.refl _⟩
theorem Grow.trans {Gd : Hp} {F G H : Fz} (a : Grow Gd F G) (b : Grow Gd G H) : Grow Gd F H := ⟨a.le.trans b.le, b.c.trans a.c, fun c h => (b.gd c h).trans (a.gd c h)⟩
end WW
end
section
/-! pure operations: what they leave, their rules -/
namespace WW
open PySem PySem.Spec PyProof.Rows L2

theorem SRep.le {κ : Ctx} {F F' : Fz} {v : V} {d : D} (h : SRep κ F v d) (l : F.Le F') : SRep κ F' v d := by
  cases d with
  | pend c => obtain ⟨f, c', t, h1, h2, h3, h4⟩ := h; exact ⟨f, c', t, h1, h2, l.m _ _ h3, l.m _ _ h4⟩
  | _ => exact Rep.le l h
theorem Rep.srep {κ : Ctx} {F : Fz} {v : V} {d : D} (h : Rep κ F v d) : SRep κ F v d := by
  cases d with
  | pend c => cases h
  | _ => exact h
theorem SRep.rep {κ : Ctx} {F : Fz} {v : V} {d : D} (h : SRep κ F v d) (n : isPend d = false) : Rep κ F v d := by
  cases d with
  | pend c => cases n
  | _ => exact h
/-- a step that makes new things alone -/
structure Pure (H : Hp) (F : Fz) (H' : Hp) (F' : Fz) : Prop where
  h : ∀ a o, H a = some o → H' a = some o
  le : F.Le F'
  fk : ∀ a o, F'.m a = some o → H' a = some o
  s : F'.s = F.s
  c : F'.c = F.c
  new : ∀ a, F'.m a ≠ F.m a → H a = none
abbrev Fk (F : Fz) (H : Hp) : Prop := ∀ a o, F.m a = some o → H a = some o

theorem Pure.ident {H : Hp} {F : Fz} (k : Fk F H) : Pure H F H F := ⟨fun _ _ h => h, .rfl, k, Eq.refl _, Eq.refl _, fun _ h => absurd (Eq.refl _) h⟩
theorem Pure.made {H : Hp} {F : Fz} {p : Addr} {o : HO} (k : Fk F H) (n : H p = none) : Pure H F (upd H p o) F :=
  ⟨fun a u h => by rw [upd_ne (ne_of_none h n)]; exact h, .rfl, fun a u h => by rw [upd_ne (ne_of_none (k _ _ h) n)]; exact k _ _ h, Eq.refl _, Eq.refl _, fun _ h => absurd (Eq.refl _) h⟩
theorem Pure.kept {H : Hp} {F : Fz} {p : Addr} {o : HO} (k : Fk F H) (n : H p = none) : Pure H F (upd H p o) ⟨upd F.m p o, F.s, F.c⟩ := by
  have nf : F.m p = none := by
    cases e : F.m p with
    | none => exact Eq.refl _
    | some u => exact absurd (k _ _ e) (by rw [n]; simp)
  refine ⟨fun a u h => by rw [upd_ne (ne_of_none h n)]; exact h, ⟨fun a u h => ?_, fun _ h => h, fun _ _ h => h⟩, fun a u h => ?_, Eq.refl _, Eq.refl _, fun a h => ?_⟩
  · show upd F.m p o a = some u
    rw [upd_ne (ne_of_none h nf)]
    exact h
  · have h : upd F.m p o a = some u := h
    by_cases e : a = p
    · subst e
      rw [upd_same] at h ⊢
      exact h
    · rw [upd_ne e] at h ⊢
      exact k _ _ h
  · have h : upd F.m p o a ≠ F.m a := h
    by_cases e : a = p
    · rw [e]; exact n
    · rw [upd_ne e] at h
      exact absurd (Eq.refl _) h
theorem Pure.trans {H H1 H2 : Hp} {F F1 F2 : Fz} (a : Pure H F H1 F1) (b : Pure H1 F1 H2 F2) : Pure H F H2 F2 :=
  ⟨fun c o h => b.h c o (a.h c o h), a.le.trans b.le, b.fk, b.s.trans a.s, b.c.trans a.c, fun c h => by
    by_cases e : F2.m c = F1.m c
    · exact a.new c (by rw [← e]; exact h)
    · cases q : H c with
      | none => exact Eq.refl _
      | some o => exact absurd (a.h _ _ q) (by rw [b.new c e]; simp)⟩

section
variable {κ : Ctx} {Gd : Hp} {A : Nat → List Addr} {r : Env} {g : G} {σ : L2.St} {H H' : Hp} {F F' : Fz}

theorem RepE.keep (h : ∀ b o, (∃ xs, o = HO.lst xs) → H b = some o → H' b = some o) (l : F.Le F') : ∀ {es : List (Int × V × V)} {bs : List Addr} {d : List (D × List D)}, RepE κ H F es bs d → RepE κ H' F' es bs d
  | _, _, _, .nil => .nil
  | _, _, _, .cons a b c t => .cons (a.le l) (h _ _ ⟨_, rfl⟩ b) (c.le l) (RepE.keep h l t)
theorem RepE.keepIn (l : F.Le F') : ∀ {es : List (Int × V × V)} {bs : List Addr} {d : List (D × List D)}, (∀ b ∈ bs, ∀ o, H b = some o → H' b = some o) → RepE κ H F es bs d → RepE κ H' F' es bs d
  | _, _, _, _, .nil => .nil
  | _, _, _, h, .cons a b c t => .cons (a.le l) (h _ List.mem_cons_self _ b) (c.le l) (RepE.keepIn l (fun b hb => h b (List.mem_cons_of_mem _ hb)) t)
/-- what a root leans on: its own addresses -/
theorem Root.keep {a : Addr} {as : List Addr} {d : D} (q : Root κ H F a as d) (h : ∀ b ∈ as, ∀ o, H b = some o → H' b = some o) (l : F.Le F') : Root κ H' F' a as d := by
  cases d with
  | lst ds => obtain ⟨rfl, xs, e, q⟩ := q; exact ⟨rfl, xs, h _ (by simp) _ e, q.le l⟩
  | dct ds => obtain ⟨rfl, xs, e, q, w⟩ := q; exact ⟨rfl, xs, h _ (by simp) _ e, q.le l, w⟩
  | dcl ds =>
    obtain ⟨es, bs, rfl, nd, e, q, w⟩ := q
    exact ⟨es, bs, rfl, nd, h _ (by simp) _ e, q.keepIn l (fun b hb => h b (List.mem_cons_of_mem _ hb)), w⟩
  | _ => exact q.elim
theorem Root.le {a : Addr} {as : List Addr} {d : D} (q : Root κ H F a as d) (h : ∀ a o, H a = some o → H' a = some o) (l : F.Le F') : Root κ H' F' a as d := q.keep (fun b _ o => h b o) l
theorem Root.mem {a : Addr} {as : List Addr} {d : D} (q : Root κ H F a as d) : a ∈ as := by
  cases d with
  | lst ds => obtain ⟨rfl, _⟩ := q; simp
  | dct ds => obtain ⟨rfl, _⟩ := q; simp
  | dcl ds => obtain ⟨es, bs, rfl, _⟩ := q; simp
  | _ => exact q.elim
theorem Pure.grow (p : Pure H F H' F') (gk : ∀ a o, Gd a = some o → H a = some o) : Grow Gd F F' := by
  refine ⟨p.le, p.c, fun a h => ?_⟩
  by_cases e : F'.m a = F.m a
  · exact e
  · have n := p.new a e
    cases q : Gd a with
    | none => exact absurd q h
    | some o => exact absurd (gk _ _ q) (by rw [n]; simp)
theorem StrR.there (q : StrR H F g) {a : Addr} (i : F.isS a) : ∃ o, H a = some o := by
  obtain ⟨p, e, z⟩ := i
  unfold StrR at q
  rw [e] at q
  cases eg : g.s with
  | none => rw [eg] at q; exact q.elim
  | some s =>
    rw [eg] at q
    obtain ⟨_, h1, h2, _⟩ := q
    rcases z with z | z
    · rw [z]; exact ⟨_, h1⟩
    · rw [z]; exact ⟨_, h2⟩
theorem StrR.off (q : StrR H F g) {a : Addr} (i : F.isS a) : F.m a = none := by
  obtain ⟨p, e, z⟩ := i
  unfold StrR at q
  rw [e] at q
  cases eg : g.s with
  | none => rw [eg] at q; exact q.elim
  | some s =>
    rw [eg] at q
    obtain ⟨_, _, _, h1, h2⟩ := q
    rcases z with z | z
    · rw [z]; exact h1
    · rw [z]; exact h2
theorem StrR.keep (q : StrR H F g) (hs : F'.s = F.s) (h : ∀ a, F.isS a → ∀ o, H a = some o → H' a = some o) (t : ∀ a, F.isS a → F'.m a = none) : StrR H' F' g := by
  unfold StrR at q ⊢
  rw [hs]
  cases eg : g.s with
  | none =>
    rw [eg] at q
    cases es : F.s with
    | none => trivial
    | some ab => rw [es] at q; exact q.elim
  | some s =>
    rw [eg] at q
    cases es : F.s with
    | none => rw [es] at q; exact q.elim
    | some ab =>
      rw [es] at q
      obtain ⟨a, b⟩ := ab
      obtain ⟨h0, h1, h2, _, _⟩ := q
      exact ⟨h0, h a ⟨_, es, .inl rfl⟩ _ h1, h b ⟨_, es, .inr rfl⟩ _ h2, t a ⟨_, es, .inl rfl⟩, t b ⟨_, es, .inr rfl⟩⟩
theorem Pure.str (p : Pure H F H' F') (q : StrR H F g) : StrR H' F' g := q.keep p.s (fun a _ o e => p.h a o e) fun a i => by
  obtain ⟨o, e⟩ := q.there i
  by_cases z : F'.m a = F.m a
  · rw [z]; exact q.off i
  · exact absurd (p.new a z) (by rw [e]; simp)
theorem isS_of {a : Addr} (h : F'.s = F.s) : F'.isS a ↔ F.isS a := by unfold Fz.isS; rw [h]
theorem Pure.isS (p : Pure H F H' F') {a : Addr} : F'.isS a ↔ F.isS a := isS_of p.s
theorem Pure.own (p : Pure H F H' F') {b : Addr} (q : Own Gd H F b) : Own Gd H' F' b := by
  obtain ⟨o, e, nt⟩ := q.h
  refine ⟨?_, q.g, fun z => q.s (p.isS.mp z), ⟨o, p.h _ _ e, nt⟩⟩
  by_cases z : F'.m b = F.m b
  · rw [z]; exact q.f
  · exact absurd (p.new b z) (by rw [e]; simp)
theorem Pure.keepR (p : Pure H F H' F') (q : R κ Gd A r g σ H F) : R κ Gd A r g σ H' F' := by
  refine ⟨fun a o h => p.h _ _ (q.gk _ _ h), p.fk, p.str q.st, fun a i => q.gs a (p.isS.mp i), q.gt, q.tb.le p.le (fun t _ o e => p.h _ _ e), q.len, fun i d e => ?_, fun i d e => ?_, fun i d b e m => p.own (q.oa i d b e m), q.sep⟩
  · obtain ⟨v, h1, h2⟩ := q.sh i d e
    exact ⟨v, h1, h2.le p.le⟩
  · obtain ⟨a, h1, h2⟩ := q.ow i d e
    exact ⟨a, h1, h2.le p.h p.le⟩

/-- what an operation tells -/
def VP (κ : Ctx) (H H' : Hp) (F' : Fz) (v : V) (d : D) : Bool → Prop
  | false => Rep κ F' v d
  | true => ∃ a, v = .ref a ∧ H a = none ∧ F'.m a = none ∧ Root κ H' F' a [a] d ∧ norm d = d
theorem Root.there {a : Addr} {as : List Addr} {d : D} (q : Root κ H F a as d) : ∃ o, H a = some o ∧ ∀ ps, o ≠ .tbl ps := by
  cases d with
  | lst ds => obtain ⟨_, xs, e, _⟩ := q; exact ⟨_, e, fun _ z => nomatch z⟩
  | dct ds => obtain ⟨_, xs, e, _⟩ := q; exact ⟨_, e, fun _ z => by unfold DicO at z; cases z⟩
  | dcl ds => obtain ⟨es, bs, _, _, e, _⟩ := q; exact ⟨_, e, fun _ z => by unfold DicO at z; cases z⟩
  | _ => exact q.elim
theorem Pure.vr (p : Pure H F H' F') (q : R κ Gd A r g σ H F) {v : V} {d : D} : ∀ {f : Bool}, VP κ H H' F' v d f → VR κ Gd A r H' F' v d f
  | false, h => h
  | true, h => by
    obtain ⟨a, rfl, n, nf, rt, nd⟩ := h
    refine ⟨a, rfl, rt, ⟨nf, ?_, fun i => ?_, rt.there⟩, nd, fun i e w z => ?_⟩
    · cases w : Gd a with
      | none => exact rfl
      | some o => exact absurd (q.gk _ _ w) (by rw [n]; simp)
    · obtain ⟨o, e⟩ := q.st.there (p.isS.mp i)
      rw [n] at e; cases e
    · obtain ⟨o, e, _⟩ := (q.oa i e a w z).h
      rw [n] at e; cases e

/-- a thing that is looked at: shared, or what a slot alone holds -/
def RO (κ : Ctx) (H : Hp) (F : Fz) (v : V) (d : D) : Prop := Rep κ F v d ∨ ∃ a as, v = .ref a ∧ Root κ H F a as d
theorem RO.int {v : V} {i : Int} (h : RO κ H F v (.int i)) : v = .int i := by
  rcases h with h | ⟨a, _, _, h⟩
  · cases h; rfl
  · exact h.elim
theorem RO.bl {v : V} {i : Bool} (h : RO κ H F v (.bl i)) : v = .bl i := by
  rcases h with h | ⟨a, _, _, h⟩
  · cases h; rfl
  · exact h.elim
theorem RO.str {v : V} {i : Str} (h : RO κ H F v (.str i)) : v = .str i := by
  rcases h with h | ⟨a, _, _, h⟩
  · cases h; rfl
  · exact h.elim
theorem RO.non {v : V} (h : RO κ H F v .non) : v = .non := by
  rcases h with h | ⟨a, _, _, h⟩
  · cases h; rfl
  · exact h.elim
theorem RO.lst {v : V} {l : List D} (k : Fk F H) (h : RO κ H F v (.lst l)) : ∃ a xs, v = .ref a ∧ H a = some (.lst xs) ∧ RepL κ F xs l := by
  rcases h with h | ⟨a, _, rfl, _, xs, h1, h2⟩
  · cases h with
    | lst q r => exact ⟨_, _, rfl, k _ _ q, r⟩
  · exact ⟨a, xs, rfl, h1, h2⟩
theorem sqT_fk (k : Fk F H) {a : Addr} {xs : List V} (q : SqT κ.K F.m a xs) : SqT κ.K H a xs := sqT_le (κ := κ) (F := F) (F' := ⟨H, F.s, F.c⟩) ⟨k, fun _ x => x, fun _ _ x => x⟩ q
theorem RO.tup {v : V} {l : List D} (k : Fk F H) (h : RO κ H F v (.tup l)) : ∃ a xs, v = .ref a ∧ SqT κ.K H a xs ∧ SqT κ.K F.m a xs ∧ RepL κ F xs l := by
  rcases h with h | ⟨a, _, rfl, h⟩
  · cases h with
    | tup q r => exact ⟨_, _, rfl, sqT_fk k q, q, r⟩
  · exact h.elim
theorem RO.dct {v : V} {l : List (D × D)} (k : Fk F H) (h : RO κ H F v (.dct l)) : ∃ a es, v = .ref a ∧ H a = some (DicO a es) ∧ RepD κ F es.1 l ∧ DWf l := by
  rcases h with h | ⟨a, _, rfl, _, xs, h1, h2, h3⟩
  · cases h with
    | dct q r w => exact ⟨_, _, rfl, k _ _ q, r, w⟩
  · exact ⟨a, xs, rfl, h1, h2, h3⟩
theorem RO.dp {v : V} {d : D} {p : PyData} (k : Fk F H) (h : RO κ H F v d) (e : d.py = some p) : Dp κ.K H v p := by
  rcases h with h | ⟨a, _, rfl, h⟩
  · exact Fz.Le.dp k (h.dp e)
  · cases d with
    | lst ds =>
      obtain ⟨_, xs, h1, h2⟩ := h
      simp only [D.py, Option.map_eq_some_iff] at e
      obtain ⟨ps, e, rfl⟩ := e
      refine .lst (.inl (.inl h1)) ?_
      have hs : ∀ {a xs}, SqL κ.K F.m a xs → SqL κ.K H a xs := fun q => sqL_le (κ := κ) (F := F) (F' := ⟨H, F.s, F.c⟩) ⟨k, fun _ x => x, fun _ _ x => x⟩ q
      have ht : ∀ {a xs}, SqT κ.K F.m a xs → SqT κ.K H a xs := fun q => sqT_fk k q
      exact DpAll.rec (motive_1 := fun v p _ => Dp κ.K H v p) (motive_2 := fun v p _ => DpAll κ.K H v p) .non .bl .int .str (fun q _ r => .lst (hs q) r) (fun q _ r => .tup (ht q) r) .nil (fun _ _ a b => .cons a b) (h2.dp e)
    | dct ds => simp [D.py] at e
    | dcl ds => simp [D.py] at e
    | _ => exact h.elim
mutual
theorem py_lay : ∀ {d : D} {p : PyData}, d.py = some p → p.canLay0 = true
  | .non, _, e => by simp [D.py] at e; subst e; simp [PyData.canLay0]
  | .bl _, _, e => by simp [D.py] at e; subst e; simp [PyData.canLay0]
  | .int _, _, e => by simp [D.py] at e; subst e; simp [PyData.canLay0]
  | .str _, _, e => by simp [D.py] at e; obtain ⟨h, rfl⟩ := e; simp [PyData.canLay0, h]
  | .tup l, _, e => by
    simp only [D.py, Option.map_eq_some_iff] at e
    obtain ⟨ps, e, rfl⟩ := e
    simp only [PyData.canLay0]
    exact pys_lay e
  | .lst l, _, e => by
    simp only [D.py, Option.map_eq_some_iff] at e
    obtain ⟨ps, e, rfl⟩ := e
    simp only [PyData.canLay0]
    exact pys_lay e
  | .dct _, _, e => by simp [D.py] at e
  | .fn _, _, e => by simp [D.py] at e
  | .clo _ _, _, e => by simp [D.py] at e
  | .pend _, _, e => by simp [D.py] at e
  | .strm, _, e => by simp [D.py] at e
  | .scr _, _, e => by simp [D.py] at e
  | .dcl _, _, e => by simp [D.py] at e
theorem pys_lay : ∀ {d : List D} {p : List PyData}, pys d = some p → PyData.canLayAll0 p = true
  | [], _, e => by simp [pys] at e; subst e; simp [PyData.canLayAll0]
  | x :: xs, _, e => by
    simp only [pys, Option.bind_eq_some_iff, Option.map_eq_some_iff] at e
    obtain ⟨p, e1, ps, e2, rfl⟩ := e
    simp only [PyData.canLayAll0, Bool.and_eq_true]
    exact ⟨py_lay e1, pys_lay e2⟩
end

/-- a two-place operation's reading over data -/
def rB (κ : Ctx) (g : D → D → Option (D × Bool)) : R2 := fun x y H Q => ∃ F d e z f, Fk F H ∧ RO κ H F x d ∧ RO κ H F y e ∧ g d e = some (z, f) ∧ ∀ v H' F', Pure H F H' F' → VP κ H H' F' v z f → Q v H'
def rU (κ : Ctx) (g : D → Option (D × Bool)) : V → Hp → VK → Prop := fun x H Q => ∃ F d z f, Fk F H ∧ RO κ H F x d ∧ g d = some (z, f) ∧ ∀ v H' F', Pure H F H' F' → VP κ H H' F' v z f → Q v H'
def rC (κ : Ctx) (g : D → Option (D × Bool)) : List V → Hp → VK → Prop := fun xs H Q => ∃ x, xs = [x] ∧ rU κ g x H Q
def rC2 (κ : Ctx) (g : D → D → Option (D × Bool)) : List V → Hp → VK → Prop := fun xs H Q => ∃ x y, xs = [x, y] ∧ rB κ g x y H Q
theorem OpR.imp {X : Cx} {f : Value → Value → Sem Value} {r r' : R2} (h : OpR X f r) (i : ∀ x y H Q, r' x y H Q → r x y H Q) : OpR X f r' := fun pins s σ H x y v u Q I rx ry q => h pins s σ H x y v u Q I rx ry (i _ _ _ _ q)
theorem UnR.imp {X : Cx} {f : Value → Sem Value} {r r' : V → Hp → VK → Prop} (h : UnR X f r) (i : ∀ x H Q, r' x H Q → r x H Q) : UnR X f r' := fun pins s σ H x v Q I rx q => h pins s σ H x v Q I rx (i _ _ _ q)
theorem CallR.imp {X : Cx} {f : Value} {r r' : List V → Hp → VK → Prop} (h : CallR X f r) (i : ∀ x H Q, r' x H Q → r x H Q) : CallR X f r' := fun pins s σ H x v Q I rx q => h pins s σ H x v Q I rx (i _ _ _ q)
theorem IxR.imp {X : Cx} {r r' : R2} (h : IxR X r) (i : ∀ x y H Q, r' x y H Q → r x y H Q) : IxR X r' := fun a b pins s σ H x y v u Q I rx ry q hs => h a b pins s σ H x y v u Q I rx ry (i _ _ _ _ q) hs

/-- the ends: a value, a new list, a new tuple -/
theorem fin_val {F : Fz} {z : D} {v : V} {H : Hp} {Q : VK} (k : Fk F H) (r : Rep κ F v z) (q : ∀ v H' F', Pure H F H' F' → VP κ H H' F' v z false → Q v H') : Q v H := q v H F (.ident k) r
theorem fin_lst {F : Fz} {l : List D} {xs : List V} {H : Hp} {Q : VK} (k : Fk F H) (r : RepL κ F xs l) (q : ∀ v H' F', Pure H F H' F' → VP κ H H' F' v (.lst l) true → Q v H') : ∀ p, H p = none → Q (.ref p) (upd H p (.lst xs)) := fun p n => by
  have nf : F.m p = none := by
    cases e : F.m p with
    | none => rfl
    | some u => exact absurd (k _ _ e) (by rw [n]; simp)
  exact q _ _ F (.made k n) ⟨p, rfl, n, nf, ⟨rfl, xs, upd_same, r⟩, rfl⟩
theorem fin_tup {F : Fz} {l : List D} {xs : List V} {H : Hp} {Q : VK} (k : Fk F H) (r : RepL κ F xs l) (q : ∀ v H' F', Pure H F H' F' → VP κ H H' F' v (.tup l) false → Q v H') : ∀ p, H p = none → Q (.ref p) (upd H p (.tup xs)) := fun p n =>
  q _ _ _ (.kept k n) (.tup (.inl (.inl upd_same)) (r.le (Pure.kept (o := .tup xs) k n).le))
end

section
variable {κ : Ctx} {X : Cx}
theorem b_add (hK : X.K = κ.K) : OpR X (binaryOp .Add) (rB κ (bF .add)) := by
  refine OpR.imp (op_add.or (op_cat.or (op_catA.or op_add_str))) fun x y H Q h => ?_
  rw [hK]
  obtain ⟨F, d, e, z, f, k, hx, hy, hg, q⟩ := h
  simp only [bF] at hg
  split at hg
  · cases hg
    have e1 := hx.int; have e2 := hy.int; subst e1; subst e2
    exact .inl ⟨_, _, rfl, rfl, fin_val k (.int _) q⟩
  · split at hg
    · cases hg
      obtain ⟨a, xs, rfl, h1, r1⟩ := hx.lst k
      obtain ⟨b, ys, rfl, h2, r2⟩ := hy.lst k
      refine .inr (.inl ⟨a, b, xs, ys, rfl, rfl, h1, h2, by rw [r1.length, r2.length]; assumption, fin_lst k (r1.append r2) q⟩)
    · cases hg
  · split at hg
    · cases hg
      obtain ⟨a, xs, rfl, h1, f1, r1⟩ := hx.tup k
      obtain ⟨b, ys, rfl, h2, f2, r2⟩ := hy.tup k
      refine .inr (.inr (.inl ⟨a, b, xs, ys, rfl, rfl, h1, h2, by rw [r1.length, r2.length]; assumption, fun z => ?_, fun _ z => ?_, fun _ _ => fin_tup k (r1.append r2) q⟩))
      · subst z
        cases r1
        exact fin_val k (.tup f2 r2) q
      · subst z
        cases r2
        refine fin_val k ?_ q
        rw [List.append_nil]
        exact .tup f1 r1
    · cases hg
  · split at hg
    · cases hg
      have e1 := hx.str; have e2 := hy.str; subst e1; subst e2
      exact .inr (.inr (.inr ⟨_, _, rfl, rfl, by assumption, fin_val k (.str _) q⟩))
    · cases hg
  · cases hg
theorem b_sub : OpR X (binaryOp .Sub) (rB κ (bF .sub)) := by
  refine OpR.imp op_sub fun x y H Q h => ?_
  obtain ⟨F, d, e, z, f, k, hx, hy, hg, q⟩ := h
  simp only [bF] at hg
  split at hg
  · cases hg
    have e1 := hx.int; have e2 := hy.int; subst e1; subst e2
    exact ⟨_, _, rfl, rfl, fin_val k (.int _) q⟩
  · cases hg
theorem b_fdiv : OpR X (binaryOp .FloorDiv) (rB κ (bF .fdiv)) := by
  refine OpR.imp op_fdiv fun x y H Q h => ?_
  obtain ⟨F, d, e, z, f, k, hx, hy, hg, q⟩ := h
  simp only [bF] at hg
  split at hg
  · split at hg
    · cases hg
      have e1 := hx.int; have e2 := hy.int; subst e1; subst e2
      exact ⟨_, _, rfl, rfl, by assumption, fin_val k (.int _) q⟩
    · cases hg
  · cases hg
theorem b_mod : OpR X (binaryOp .Mod) (rB κ (bF .mod)) := by
  refine OpR.imp op_mod fun x y H Q h => ?_
  obtain ⟨F, d, e, z, f, k, hx, hy, hg, q⟩ := h
  simp only [bF] at hg
  split at hg
  · split at hg
    · cases hg
      have e1 := hx.int; have e2 := hy.int; subst e1; subst e2
      exact ⟨_, _, rfl, rfl, by assumption, fin_val k (.int _) q⟩
    · cases hg
  · cases hg
theorem small_iff {i : Int} (h : small i = true) : -(2 ^ 64) < i ∧ i < 2 ^ 64 := by
  unfold small at h
  simpa using h
theorem RepL.rep {F : Fz} {xs : List V} {l : List D} (r : RepL κ F xs l) : ∀ n : Nat, RepL κ F (List.replicate n xs).flatten (List.replicate n l).flatten
  | 0 => .nil
  | n + 1 => by
    rw [List.replicate_succ, List.replicate_succ, List.flatten_cons, List.flatten_cons]
    exact r.append (r.rep n)
/-! ### comparisons -/
theorem eqF_spec {F : Fz} {H : Hp} {x y : V} {d e : D} {c : Bool} (hu : X.A.units + 70 < cLine) (k : Fk F H) (hx : RO κ H F x d) (hy : RO κ H F y e) (h : eqF d e = some c) :
    ∃ p q, Dp κ.K H x p ∧ Dp κ.K H y q ∧ SeqAt.shaped p = true ∧ SeqAt.shaped q = true ∧ c = PyData.eqv p q := by
  unfold eqF at h
  split at h
  · cases h
    refine ⟨.int _, .int _, hx.dp k rfl, hy.dp k rfl, by rfl, by rfl, ?_⟩
    simp [PyData.eqv, Bool.beq_eq_decide_eq]
  · simp only [Option.bind_eq_some_iff] at h
    obtain ⟨p, h1, q, h2, h3⟩ := h
    split at h3
    · rename_i hd
      cases h3
      refine ⟨p, q, hx.dp k h1, hy.dp k h2, ?_, ?_, rfl⟩
      · unfold SeqAt.shaped; rw [py_lay h1, decide_eq_true hd.1]; rfl
      · unfold SeqAt.shaped; rw [py_lay h2, decide_eq_true hd.2]; rfl
    · cases h3
theorem b_eq (hK : X.K = κ.K) (hu : X.A.units + 70 < cLine) : OpR X (compareOp .Eq) (rB κ (bF .eq)) := by
  refine OpR.imp (op_eqD (by omega)) fun x y H Q h => ?_
  rw [hK]
  obtain ⟨F, d, e, z, f, k, hx, hy, hg, q⟩ := h
  simp only [bF, Option.map_eq_some_iff] at hg
  obtain ⟨c, hc, e1⟩ := hg
  cases e1
  obtain ⟨p, p', h1, h2, h3, h4, rfl⟩ := eqF_spec hu k hx hy hc
  exact ⟨p, p', h1, h2, h3, h4, fin_val k (.bl _) q⟩
theorem b_ne (hK : X.K = κ.K) (hu : X.A.units + 70 < cLine) : OpR X (compareOp .NotEq) (rB κ (bF .ne)) := by
  refine OpR.imp (op_neD (by omega)) fun x y H Q h => ?_
  rw [hK]
  obtain ⟨F, d, e, z, f, k, hx, hy, hg, q⟩ := h
  simp only [bF, Option.map_eq_some_iff] at hg
  obtain ⟨c, hc, e1⟩ := hg
  cases e1
  obtain ⟨p, p', h1, h2, h3, h4, rfl⟩ := eqF_spec hu k hx hy hc
  exact ⟨p, p', h1, h2, h3, h4, fin_val k (.bl _) q⟩
theorem b_le : OpR X (compareOp .LtE) (rB κ (bF .le)) := by
  refine OpR.imp op_le fun x y H Q h => ?_
  obtain ⟨F, d, e, z, f, k, hx, hy, hg, q⟩ := h
  simp only [bF, leI, Option.map_eq_some_iff] at hg
  obtain ⟨c, hc, e1⟩ := hg
  cases e1
  split at hc
  · cases hc
    have e1 := hx.int; have e2 := hy.int; subst e1; subst e2
    exact ⟨_, _, rfl, rfl, fin_val k (.bl _) q⟩
  · cases hc
theorem b_gt : OpR X (compareOp .Gt) (rB κ (bF .gt)) := by
  refine OpR.imp op_gt fun x y H Q h => ?_
  obtain ⟨F, d, e, z, f, k, hx, hy, hg, q⟩ := h
  simp only [bF] at hg
  split at hg
  · cases hg
    have e1 := hx.int; have e2 := hy.int; subst e1; subst e2
    exact ⟨_, _, rfl, rfl, fin_val k (.bl _) q⟩
  · cases hg
theorem b_ge : OpR X (compareOp .GtE) (rB κ (bF .ge)) := by
  refine OpR.imp op_ge fun x y H Q h => ?_
  obtain ⟨F, d, e, z, f, k, hx, hy, hg, q⟩ := h
  simp only [bF] at hg
  split at hg
  · cases hg
    have e1 := hx.int; have e2 := hy.int; subst e1; subst e2
    exact ⟨_, _, rfl, rfl, fin_val k (.bl _) q⟩
  · cases hg
theorem op_ltD (hu : X.A.units + 70 < cLine) : OpR X (compareOp .Lt) (fun x y H Q => ∃ p q, Dp X.K H x p ∧ Dp X.K H y q ∧ W.alike p q = true ∧ p ≠ .none ∧ p.depth ≤ 64 ∧ Q (.bl (W.dataLt p q)) H) := by
  intro pins s σ H x y v u Q I rx ry h
  obtain ⟨p, q, h1, h2, h3, h4, h5, hq⟩ := h
  obtain ⟨as, r1⟩ := Dp.reads I p x v h1 rx
  obtain ⟨bs, r2⟩ := Dp.reads I q y u h2 ry
  have hm := Nat.min_le_left p.depth q.depth
  exact W.rcLt_alike p q X.A s v u as bs r1 r2 h3 h4 (by omega) _ _ _ _ ⟨.bl _, H, I, rfl, hq⟩
theorem b_lt (hK : X.K = κ.K) (hu : X.A.units + 70 < cLine) : OpR X (compareOp .Lt) (rB κ (bF .lt)) := by
  refine OpR.imp (op_lt.or (op_ltD hu)) fun x y H Q h => ?_
  rw [hK]
  obtain ⟨F, d, e, z, f, k, hx, hy, hg, q⟩ := h
  simp only [bF, ltF, Option.map_eq_some_iff] at hg
  obtain ⟨c, hc, e1⟩ := hg
  cases e1
  split at hc
  · cases hc
    have e1 := hx.int; have e2 := hy.int; subst e1; subst e2
    exact .inl ⟨_, _, rfl, rfl, fin_val k (.bl _) q⟩
  · simp only [Option.bind_eq_some_iff] at hc
    obtain ⟨p, h1, p', h2, h3⟩ := hc
    refine .inr ⟨p, p', hx.dp k h1, hy.dp k h2, ?_⟩
    cases p with
    | none => cases h3
    | _ =>
      simp only at h3
      split at h3
      · rename_i hd
        cases h3
        exact ⟨hd.2.2, by simp, hd.1, fin_val k (.bl _) q⟩
      · cases h3
end
end WW
end
section
set_option maxHeartbeats 1000000
/-! dicts whose keys are data: over the heap -/
namespace WW
open PySem PySem.Spec PyProof.Rows L2

def leafy : NestedKey → Bool
  | .tup _ => false
  | _ => true
def Ents (w : World) (h : Heap) : List NestedKey → List DictEntry → Prop := Paired fun k e => e.hash = k.hash w ∧ NestedIs h k e.key

theorem Ents.xs {prog : Program} {w : World} {h : Heap} : ∀ {ks : List NestedKey} {es : List DictEntry}, Ents w h ks es → (∀ k ∈ ks, leafy k = false) →
    ∃ xs : List (NestedKey × Addr × Value), es = xs.map (entryOfKey (nestedKind prog w)) ∧ xs.map (·.1) = ks ∧ ∀ x ∈ xs, NestedIs h x.1 (.ref x.2.1)
  | _, _, .nil, _ => ⟨[], rfl, rfl, fun _ h => by simp at h⟩
  | k :: ks, e :: es, .cons ⟨e1, e2⟩ t, hl => by
    obtain ⟨xs, a1, a2, a3⟩ := Ents.xs (prog := prog) t fun k hk => hl k (List.mem_cons_of_mem _ hk)
    have hk := hl k List.mem_cons_self
    obtain ⟨eh, ek, ev⟩ := e
    simp only at e1 e2
    cases e2 with
    | @tup a o vs n l q1 q2 q3 q4 =>
      refine ⟨(.tup l, a, ev) :: xs, ?_, ?_, fun x hx => ?_⟩
      · rw [a1, e1]; rfl
      · rw [List.map_cons, a2]
      · rcases List.mem_cons.mp hx with rfl | hx
        · exact .tup q1 q2 q3 q4
        · exact a3 x hx
    | none => cases hk
    | bool _ => cases hk
    | int _ _ => cases hk
    | text _ _ => cases hk
theorem leaf_of {h : Heap} {k : NestedKey} {v : Value} (x : NestedIs h k v) (hl : leafy k = true) : ∃ l : Leaf, l.key = k ∧ Leaf.isOf l v = true := by
  cases x with
  | none => exact ⟨.none, rfl, rfl⟩
  | bool e => exact ⟨.num _, rfl, decide_eq_true e.symm⟩
  | int i t => exact ⟨.num i, rfl, decide_eq_true rfl⟩
  | text y t => exact ⟨.text y, rfl, by show Value.isStrOf y (.str y t) = true; simp [Value.isStrOf]⟩
  | tup _ _ _ _ => cases hl
theorem Ents.leafs {prog : Program} {w : World} {h : Heap} {l : Leaf} : ∀ {ks : List NestedKey} {es : List DictEntry}, Ents w h ks es → (∀ k ∈ ks, leafy k = true) →
    (∀ e ∈ es, ∃ k, (leafKind prog w).is k e.key = true ∧ e.hash = (leafKind prog w).hash k) ∧ (es.findIdx? fun e => (leafKind prog w).is l e.key) = ks.findIdx? fun k => decide (k = l.key)
  | _, _, .nil, _ => ⟨fun _ h => by simp at h, rfl⟩
  | k :: ks, e :: es, .cons ⟨e1, e2⟩ t, hl => by
    obtain ⟨a1, a2⟩ := Ents.leafs (prog := prog) (l := l) t fun k hk => hl k (List.mem_cons_of_mem _ hk)
    obtain ⟨m, m1, m2⟩ := leaf_of e2 (hl k List.mem_cons_self)
    have hm : (leafKind prog w).is m e.key = true := m2
    refine ⟨fun x hx => ?_, ?_⟩
    · rcases List.mem_cons.mp hx with rfl | hx
      · exact ⟨m, hm, by rw [e1, ← m1]; rfl⟩
      · exact a1 x hx
    · rw [List.findIdx?_cons, List.findIdx?_cons, a2, KeyKind.is_eq_decide hm l]
      have : decide (l = m) = decide (k = l.key) := by
        rw [← m1]
        by_cases q : l = m
        · subst q; simp
        · rw [decide_eq_false q, decide_eq_false fun z => q (Leaf.key_inj z).symm]
      rw [this]

theorem findIdx_none {α : Type} {p : α → Bool} {l : List α} (h : ∀ (j : Nat) (x : α), l[j]? = some x → p x = false) : l.findIdx? p = none := by
  rw [List.findIdx?_eq_none_iff]
  intro x hx
  obtain ⟨j, hj⟩ := List.mem_iff_getElem?.mp hx
  exact h j x hj
theorem findIdx_key : ∀ {ks : List NestedKey} {k : NestedKey} {j : Nat}, ks.Nodup → ks[j]? = some k → (ks.findIdx? fun x => decide (x = k)) = some j
  | [], _, _, _, h => by simp at h
  | x :: ks, k, 0, _, h => by
    simp at h
    subst h
    rw [List.findIdx?_cons]
    simp
  | x :: ks, k, j + 1, nd, h => by
    have h' : ks[j]? = some k := by simpa using h
    have hx : x ≠ k := fun e => (List.nodup_cons.mp nd).1 (e ▸ List.mem_of_getElem? h')
    rw [List.findIdx?_cons, decide_eq_false hx, findIdx_key (List.nodup_cons.mp nd).2 h']
    rfl

section
variable {prog : Program} {w : World} {A : Around} {E : Value → Shared → Prop} {s : Shared} {d : Addr} {o : Obj} {ents : Array DictEntry} {ep : Nat} {ks : List NestedKey} {kn : NestedKey} {key : Value}

/-- where a key stands -/
abbrev at_ (ks : List NestedKey) (kn : NestedKey) : Option Nat := ks.findIdx? fun k => decide (k = kn)
/-- a dict of data, and a key to ask for -/
structure Asked (w : World) (h : Heap) (ents : Array DictEntry) (ks : List NestedKey) (kn : NestedKey) (key : Value) : Prop where
  es : Ents w h ks ents.toList
  k : NestedIs h kn key
  d8 : kn.depth ≤ 8
  ds : ∀ k ∈ ks, k.depth ≤ 8
  one : ∀ k ∈ ks, leafy k = leafy kn
  nd : ks.Nodup
theorem find_N {Q : Option Nat → Shared → Prop} (hu : A.units + 8 < cLine) (ho : s.heap.get? d = some o) (hd : o.data = .dict ents ep) (K : Asked w s.heap ents ks kn key) (h : Q (at_ ks kn) s) :
    wpAny (model prog w) A (dictFind d key (kn.hash w)) Q E s := by
  cases hl : leafy kn with
  | true =>
    obtain ⟨l, l1, l2⟩ := leaf_of K.k hl
    obtain ⟨a1, a2⟩ := K.es.leafs (prog := prog) (l := l) fun k hk => (K.one k hk).trans hl
    have hh : kn.hash w = (leafKind prog w).hash l := by rw [← l1]; rfl
    rw [hh]
    refine wpAny_dictFind_of (knd := leafKind prog w) (k := l) l2 ho hd (fun e he => a1 e (Array.mem_toList_iff.mpr he)) ?_
    have : (ents.findIdx? fun e => (leafKind prog w).is l e.key) = at_ ks kn := by
      obtain ⟨l⟩ := ents
      rw [List.findIdx?_toArray, ← l1]
      exact a2
    rw [this]
    exact h
  | false =>
    obtain ⟨xs, x1, x2, x3⟩ := K.es.xs (prog := prog) fun k hk => (K.one k hk).trans hl
    have kx := K.k
    cases kx with
    | @tup a o' vs n l q1 q2 q3 q4 =>
      have hk : (nestedKind prog w).is s.heap (.tup l) a := ⟨.tup q1 q2 q3 q4, K.d8⟩
      refine wpAny_dictFind_heap (knd := nestedKind prog w) (k := .tup l) (xs := xs) hu hk ho hd x1 (fun x hx => ⟨x3 x hx, K.ds _ (by rw [← x2]; exact List.mem_map_of_mem hx)⟩) (by rw [x2]; exact K.nd) (fun hno => ?_) fun j p hj => ?_
      · have : at_ ks (.tup l) = none := findIdx_none fun j x hx => by
          refine decide_eq_false fun e => ?_
          subst e
          rw [← x2, List.getElem?_map] at hx
          cases hj : xs[j]? with
          | none => rw [hj] at hx; cases hx
          | some y =>
            rw [hj] at hx
            obtain ⟨k, p⟩ := y
            have e : k = .tup l := Option.some.inj hx
            exact hno j p (by rw [hj, e])
        rw [this] at h
        exact h
      · have : at_ ks (.tup l) = some j := findIdx_key K.nd (by rw [← x2, List.getElem?_map, hj]; rfl)
        rw [this] at h
        exact h
    | none => cases hl
    | bool _ => cases hl
    | int _ _ => cases hl
    | text _ _ => cases hl
theorem hash_N {Q : Int → Shared → Prop} (hu : A.units + 8 < cLine) (hk : NestedIs s.heap kn key) (h8 : kn.depth ≤ 8) (h : Q (kn.hash w) { s with toks := s.toks + kn.draws }) : wpAny (model prog w) A (pyHash key) Q E s :=
  pyHash_key kn key A s Q hk (by omega) h
theorem get_N {Q : Option Value → Shared → Prop} (hu : A.units + 8 < cLine) (ho : s.heap.get? d = some o) (hd : o.data = .dict ents ep) (K : Asked w s.heap ents ks kn key)
    (h : Q ((at_ ks kn).bind fun i => (ents[i]?).map (·.val)) { s with toks := s.toks + kn.draws }) : wpAny (model prog w) A (dictGet d key) Q E s := by
  unfold dictGet
  try with_reducible refine wpAny_holding ?_
  refine wpAny_bind (hash_N hu K.k K.d8 (wpAny_bind (find_N (s := { s with toks := s.toks + kn.draws }) hu ho hd K ?_)))
  cases e : at_ ks kn with
  | none =>
    rw [e] at h
    exact wpAny_pure h
  | some i =>
    rw [e] at h
    refine wpAny_bind (wpAny_dictEntries (s := { s with toks := s.toks + kn.draws }) ho hd ?_)
    exact wpAny_pure h

def esPut (ents : Array DictEntry) (hash : Int) (key v : Value) : Option Nat → Array DictEntry
  | some i => ents.modify i fun e => { e with val := v }
  | none => ents.push ⟨hash, key, v⟩
theorem set_N {v : Value} {Q : Unit → Shared → Prop} (hu : A.units + 8 < cLine) (ho : s.heap.get? d = some o) (hc : o.ExactDict) (hd : o.data = .dict ents ep) (K : Asked w s.heap ents ks kn key) (hz : ents.size ≤ sizeLine)
    (hQ : ∀ h' ep', h'.DictRaw d (esPut ents (kn.hash w) key v (at_ ks kn)) ep' → Heap.SameBut d s.heap h' → Q () { s with heap := h', toks := s.toks + kn.draws }) :
    wpAny (model prog w) A (dictSet d key v) Q E s := by
  unfold dictSet
  try with_reducible refine wpAny_holding ?_
  refine wpAny_bind (hash_N hu K.k K.d8 ?_)
  unfold dictSetHashed
  try with_reducible refine wpAny_holding ?_
  refine wpAny_bind (find_N (s := { s with toks := s.toks + kn.draws }) hu ho hd K ?_)
  cases e : at_ ks kn with
  | none =>
    rw [e] at hQ
    exact wpAny_bind (wpAny_rule (wpAny_updateDictKeys (hz := hz) (s := { s with toks := s.toks + kn.draws }) ho hd
      (hQ _ (ep + 1) ⟨_, Heap.get?_update_self _ ho (Obj.isFreed_of_dict (Obj.data_mapDictKeys hd _)), hc.mapDictKeys _, Obj.data_mapDictKeys hd _⟩ (Heap.SameBut.update ..))))
  | some i =>
    rw [e] at hQ
    exact wpAny_bind (wpAny_rule (wpAny_bind (wpAny_updateDict (s := { s with toks := s.toks + kn.draws }) ho hd (wpAny_point
      (hQ _ ep ⟨_, Heap.get?_update_self _ ho (Obj.isFreed_of_dict (Obj.data_mapDict hd _)), hc.mapDict _, Obj.data_mapDict hd _⟩ (Heap.SameBut.update ..))))))
theorem setdef_N {v : Value} {Q : Value → Shared → Prop} (hu : A.units + 8 < cLine) (ho : s.heap.get? d = some o) (hc : o.ExactDict) (hd : o.data = .dict ents ep) (K : Asked w s.heap ents ks kn key) (hz : ents.size ≤ sizeLine)
    (h1 : ∀ i e, at_ ks kn = some i → ents[i]? = some e → Q e.val { s with toks := s.toks + kn.draws })
    (h2 : at_ ks kn = none → ∀ h' ep', h'.DictRaw d (ents.push ⟨kn.hash w, key, v⟩) ep' → Heap.SameBut d s.heap h' → Q v { s with heap := h', toks := s.toks + kn.draws }) (hi : ∀ i, at_ ks kn = some i → i < ents.size) :
    wpAny (model prog w) A (dictSetDefault d key v) Q E s := by
  unfold dictSetDefault
  try with_reducible refine wpAny_holding ?_
  refine wpAny_bind (hash_N hu K.k K.d8 ?_)
  refine wpAny_bind (find_N (s := { s with toks := s.toks + kn.draws }) hu ho hd K ?_)
  cases e : at_ ks kn with
  | none =>
    exact wpAny_bind (wpAny_rule (wpAny_bind (wpAny_updateDictKeys (hz := hz) (s := { s with toks := s.toks + kn.draws }) ho hd
      (wpAny_pure (h2 e _ (ep + 1) ⟨_, Heap.get?_update_self _ ho (Obj.isFreed_of_dict (Obj.data_mapDictKeys hd _)), hc.mapDictKeys _, Obj.data_mapDictKeys hd _⟩ (Heap.SameBut.update ..))))))
  | some i =>
    refine wpAny_bind (wpAny_dictEntries (s := { s with toks := s.toks + kn.draws }) ho hd ?_)
    have lt := hi i e
    rw [Array.getElem?_eq_getElem lt]
    exact wpAny_bind (wpAny_rule (wpAny_pure (h1 i _ e (Array.getElem?_eq_getElem lt))))

/-! the operations -/
theorem in_N {Q : Value → Shared → Prop} (hu : A.units + 9 < cLine) (hS : (d == sysModules) = false) (ho : s.heap.get? d = some o) (hc : o.ExactDict) (hd : o.data = .dict ents ep) (K : Asked w s.heap ents ks kn key)
    (hi : ∀ i, at_ ks kn = some i → i < ents.size) (h : Q (.bool (at_ ks kn).isSome) { s with toks := s.toks + kn.draws }) : wpAny (model prog w) A (compareOp .In key (.ref d)) Q E s := by
  have hu' : A.in1.units + 8 < cLine := by show A.units + 1 + 8 < cLine; omega
  have ty : s.TypeIs (.ref d) "dict" := ⟨o, ho, hc.1⟩
  show wpAny _ _ (do return .bool (← contains (.ref d) key)) Q E s
  refine wpAny_bind ?_
  unfold contains
  try with_reducible refine wpAny_holding ?_
  refine wpAny_bind (wpAny_specialOf ty slot_dict_contains.lookup ?_)
  show wpAny _ _ (if (some (Value.builtin "dict.__contains__") == some Value.none) = true then _ else _) _ E s
  rw [if_neg (by rw [beq_builtin_none]; exact Bool.false_ne_true)]
  refine wpAny_bind (wpAny_callSpecialUnlessNone?_slot (name := Str.ofString "__contains__") ty slot_dict_contains (wpAny_call_entry slot_dict_contains ty entry_dict_contains ?_ (args_dict_contains _ _)))
  show wpAny _ _ (dictGet d key >>= _) _ _ s
  refine wpAny_bind (get_N hu' ho hd K ?_)
  cases hf : at_ ks kn with
  | some i =>
    rw [hf] at h
    have lt := hi i hf
    rw [if_pos (by rw [Option.bind_some, Array.getElem?_eq_getElem lt]; rfl)]
    exact wpAny_pure ⟨_, rfl, wpAny_truthy_bool (wpAny_pure h)⟩
  | none =>
    rw [hf] at h
    show wpAny _ _ (Builtin.Dict.pendingKey? d key >>= _) _ _ _
    exact wpAny_bind (wpAny_pendingKey_other hS (wpAny_pure ⟨_, rfl, wpAny_truthy_bool (wpAny_pure h)⟩))
theorem notIn_N {Q : Value → Shared → Prop} (hu : A.units + 9 < cLine) (hS : (d == sysModules) = false) (ho : s.heap.get? d = some o) (hc : o.ExactDict) (hd : o.data = .dict ents ep) (K : Asked w s.heap ents ks kn key)
    (hi : ∀ i, at_ ks kn = some i → i < ents.size) (h : Q (.bool (!(at_ ks kn).isSome)) { s with toks := s.toks + kn.draws }) : wpAny (model prog w) A (compareOp .NotIn key (.ref d)) Q E s := by
  have hu' : A.in1.units + 8 < cLine := by show A.units + 1 + 8 < cLine; omega
  have ty : s.TypeIs (.ref d) "dict" := ⟨o, ho, hc.1⟩
  show wpAny _ _ (do return .bool !(← contains (.ref d) key)) Q E s
  refine wpAny_bind ?_
  unfold contains
  try with_reducible refine wpAny_holding ?_
  refine wpAny_bind (wpAny_specialOf ty slot_dict_contains.lookup ?_)
  show wpAny _ _ (if (some (Value.builtin "dict.__contains__") == some Value.none) = true then _ else _) _ E s
  rw [if_neg (by rw [beq_builtin_none]; exact Bool.false_ne_true)]
  refine wpAny_bind (wpAny_callSpecialUnlessNone?_slot (name := Str.ofString "__contains__") ty slot_dict_contains (wpAny_call_entry slot_dict_contains ty entry_dict_contains ?_ (args_dict_contains _ _)))
  show wpAny _ _ (dictGet d key >>= _) _ _ s
  refine wpAny_bind (get_N hu' ho hd K ?_)
  cases hf : at_ ks kn with
  | some i =>
    rw [hf] at h
    have lt := hi i hf
    rw [if_pos (by rw [Option.bind_some, Array.getElem?_eq_getElem lt]; rfl)]
    exact wpAny_pure ⟨_, rfl, wpAny_truthy_bool (wpAny_pure h)⟩
  | none =>
    rw [hf] at h
    show wpAny _ _ (Builtin.Dict.pendingKey? d key >>= _) _ _ _
    exact wpAny_bind (wpAny_pendingKey_other hS (wpAny_pure ⟨_, rfl, wpAny_truthy_bool (wpAny_pure h)⟩))
theorem item_N {i : Nat} {e : DictEntry} {Q : Value → Shared → Prop} (hu : A.units + 9 < cLine) (ho : s.heap.get? d = some o) (hc : o.ExactDict) (hd : o.data = .dict ents ep) (K : Asked w s.heap ents ks kn key)
    (hi : at_ ks kn = some i) (he : ents[i]? = some e) (h : Q e.val { s with toks := s.toks + kn.draws }) : wpAny (model prog w) A (getItem (.ref d) key) Q E s := by
  have hu' : A.in1.units + 8 < cLine := by show A.units + 1 + 8 < cLine; omega
  have ty : s.TypeIs (.ref d) "dict" := ⟨o, ho, hc.1⟩
  unfold getItem
  try with_reducible refine wpAny_holding ?_
  refine wpAny_bind (wpAny_sequenceKey ty (by decide) ?_)
  refine wpAny_bind (wpAny_callSpecial?_slot (name := Str.ofString "__getitem__") ty slot_dict_getitem (wpAny_call_entry slot_dict_getitem ty entry_dict_getitem ?_ (args_dict_getitem _ _)))
  show wpAny _ _ (dictGet d key >>= _) _ _ s
  refine wpAny_bind (get_N hu' ho hd K ?_)
  rw [hi, Option.bind_some, he]
  exact wpAny_pure ⟨_, rfl, wpAny_pure h⟩
theorem store_N {v : Value} {Q : Unit → Shared → Prop} (hu : A.units + 9 < cLine) (ho : s.heap.get? d = some o) (hc : o.ExactDict) (hd : o.data = .dict ents ep) (K : Asked w s.heap ents ks kn key) (hz : ents.size ≤ sizeLine)
    (hQ : ∀ h' ep', h'.DictRaw d (esPut ents (kn.hash w) key v (at_ ks kn)) ep' → Heap.SameBut d s.heap h' → Q () { s with heap := h', toks := s.toks + kn.draws }) :
    wpAny (model prog w) A (setItem (.ref d) key v) Q E s := by
  have hu' : A.in1.units + 8 < cLine := by show A.units + 1 + 8 < cLine; omega
  have ty : s.TypeIs (.ref d) "dict" := ⟨o, ho, hc.1⟩
  unfold setItem
  try with_reducible refine wpAny_holding ?_
  refine wpAny_bind (wpAny_sequenceKey ty (by decide) ?_)
  refine wpAny_bind (wpAny_callSpecial?_slot (name := Str.ofString "__setitem__") ty slot_dict_setitem (wpAny_call_entry slot_dict_setitem ty entry_dict_setitem ?_ (args_dict_setitem _ _ _)))
  show wpAny _ _ (Builtin.Dict.notOrdered "__setitem__" ⟨[.ref d, key, v], []⟩ >>= _) _ _ s
  refine wpAny_bind (wpAny_notOrdered_dict ty ?_)
  show wpAny _ _ (dictSet d key v >>= _) _ _ s
  exact wpAny_bind (set_N hu' ho hc hd K hz fun h' ep' hm hs => wpAny_pure ⟨.none, rfl, wpAny_pure (hQ h' ep' hm hs)⟩)
theorem getM_N {dflt : Value} {Q : Value → Shared → Prop} (hu : A.units + 9 < cLine) (hS : (d == sysModules) = false) (ho : s.heap.get? d = some o) (hc : o.ExactDict) (hd : o.data = .dict ents ep) (K : Asked w s.heap ents ks kn key)
    (h : Q (((at_ ks kn).bind fun i => (ents[i]?).map (·.val)).getD dflt) { s with toks := s.toks + kn.draws }) : wpAny (model prog w) A (call (.builtin "dict.get") [.ref d, key, dflt]) Q E s := by
  have hu' : A.in1.units + 8 < cLine := by show A.units + 1 + 8 < cLine; omega
  have ty : s.TypeIs (.ref d) "dict" := ⟨o, ho, hc.1⟩
  refine wpAny_call_entry F.slot_dict_get ty F.entry_dict_get ?_ (F.args_dict_get_3 _ _ _)
  show wpAny _ _ (dictGet d key >>= _) _ _ s
  refine wpAny_bind (get_N hu' ho hd K ?_)
  cases hf : (at_ ks kn).bind fun i => (ents[i]?).map (·.val) with
  | some z =>
    rw [hf] at h
    exact wpAny_pure ⟨z, rfl, h⟩
  | none =>
    rw [hf] at h
    show wpAny _ _ (Builtin.Dict.missed d key >>= _) _ _ _
    exact wpAny_bind (wpAny_missed_other hS (wpAny_pure ⟨dflt, rfl, h⟩))
theorem getM1_N {Q : Value → Shared → Prop} (hu : A.units + 9 < cLine) (hS : (d == sysModules) = false) (ho : s.heap.get? d = some o) (hc : o.ExactDict) (hd : o.data = .dict ents ep) (K : Asked w s.heap ents ks kn key)
    (h : Q (((at_ ks kn).bind fun i => (ents[i]?).map (·.val)).getD .none) { s with toks := s.toks + kn.draws }) : wpAny (model prog w) A (call (.builtin "dict.get") [.ref d, key]) Q E s := by
  have hu' : A.in1.units + 8 < cLine := by show A.units + 1 + 8 < cLine; omega
  have ty : s.TypeIs (.ref d) "dict" := ⟨o, ho, hc.1⟩
  refine wpAny_call_entry F.slot_dict_get ty F.entry_dict_get ?_ (F.args_dict_get_2 _ _)
  show wpAny _ _ (dictGet d key >>= _) _ _ s
  refine wpAny_bind (get_N hu' ho hd K ?_)
  cases hf : (at_ ks kn).bind fun i => (ents[i]?).map (·.val) with
  | some z =>
    rw [hf] at h
    exact wpAny_pure ⟨z, rfl, h⟩
  | none =>
    rw [hf] at h
    show wpAny _ _ (Builtin.Dict.missed d key >>= _) _ _ _
    exact wpAny_bind (wpAny_missed_other hS (wpAny_pure ⟨.none, rfl, h⟩))
theorem setdefM_N {v : Value} {Q : Value → Shared → Prop} (hu : A.units + 9 < cLine) (hS : (d == sysModules) = false) (ho : s.heap.get? d = some o) (hc : o.ExactDict) (hd : o.data = .dict ents ep) (K : Asked w s.heap ents ks kn key) (hz : ents.size ≤ sizeLine)
    (h1 : ∀ i e, at_ ks kn = some i → ents[i]? = some e → Q e.val { s with toks := s.toks + kn.draws })
    (h2 : at_ ks kn = none → ∀ h' ep', h'.DictRaw d (ents.push ⟨kn.hash w, key, v⟩) ep' → Heap.SameBut d s.heap h' → Q v { s with heap := h', toks := s.toks + kn.draws }) (hi : ∀ i, at_ ks kn = some i → i < ents.size) :
    wpAny (model prog w) A (call (.builtin "dict.setdefault") [.ref d, key, v]) Q E s := by
  have hu' : A.in1.units + 8 < cLine := by show A.units + 1 + 8 < cLine; omega
  have ty : s.TypeIs (.ref d) "dict" := ⟨o, ho, hc.1⟩
  refine wpAny_call_entry F.slot_dict_setdefault ty F.entry_dict_setdefault ?_ (F.args_dict_setdefault_3 _ _ _)
  unfold Builtin.«dict.setdefault»
  refine wpAny_bind ?_
  unfold Builtin.Dict.keyAndDefault
  refine wpAny_bind (wpAny_notOrdered_dict ty (wpAny_pure ?_))
  show wpAny _ _ (if (d == sysModules) = true then _ else (dictSetDefault d key v >>= _)) _ _ s
  rw [if_neg (by rw [hS]; exact Bool.false_ne_true)]
  exact wpAny_bind (setdef_N hu' ho hc hd K hz (fun i e a b => wpAny_pure ⟨_, rfl, h1 i e a b⟩) (fun a h' ep' b c => wpAny_pure ⟨_, rfl, h2 a h' ep' b c⟩) hi)
end
end WW
end
section
set_option maxHeartbeats 1000000
/-! dicts whose keys are data: by what they stand for -/
namespace WW
open PySem PySem.Spec PyProof.Rows L2

theorem keyNs_map : ∀ l : List D, keyNs l = l.map keyN
  | [] => rfl
  | d :: ds => by rw [keyNs, keyNs_map ds]; rfl
theorem depthAll_le {n : Nat} : ∀ {l : List NestedKey}, (∀ k ∈ l, k.depth ≤ n) → NestedKey.depthAll l ≤ n
  | [], _ => by simp [NestedKey.depthAll]
  | k :: ks, h => by
    rw [NestedKey.depthAll]
    exact Nat.max_le.mpr ⟨h k List.mem_cons_self, depthAll_le fun x hx => h x (List.mem_cons_of_mem _ hx)⟩
theorem depth_ok : ∀ {n : Nat} {d : D}, keyOk n d = true → (keyN d).depth ≤ n
  | _, .non, _ => by simp [keyN, NestedKey.depth]
  | _, .int _, _ => by simp [keyN, NestedKey.depth]
  | _, .str _, _ => by simp [keyN, NestedKey.depth]
  | n + 1, .tup l, h => by
    have h : l.all (keyOk n) = true := h
    rw [keyN, NestedKey.depth, keyNs_map]
    refine Nat.succ_le_succ (depthAll_le fun k hk => ?_)
    obtain ⟨d, hd, rfl⟩ := List.mem_map.mp hk
    exact depth_ok (List.all_eq_true.mp h d hd)
  | 0, .tup _, h => by simp [keyOk] at h
  | n, .bl _, h => by cases n <;> simp [keyOk] at h
  | n, .lst _, h => by cases n <;> simp [keyOk] at h
  | n, .dct _, h => by cases n <;> simp [keyOk] at h
  | n, .fn _, h => by cases n <;> simp [keyOk] at h
  | n, .clo _ _, h => by cases n <;> simp [keyOk] at h
  | n, .pend _, h => by cases n <;> simp [keyOk] at h
  | n, .strm, h => by cases n <;> simp [keyOk] at h
  | n, .scr _, h => by cases n <;> simp [keyOk] at h
  | n, .dcl _, h => by cases n <;> simp [keyOk] at h
theorem leafy_key {n : Nat} {d : D} (h : keyOk n d = true) : leafy (keyN d) = !isTup d := by
  cases d <;> first | rfl | (cases n <;> simp [keyOk] at h)
theorem isTup_leafy {n m : Nat} {d e : D} (h : keyOk n d = true) (h' : keyOk m e = true) (q : isTup d = isTup e) : leafy (keyN d) = leafy (keyN e) := by rw [leafy_key h, leafy_key h', q]
mutual
theorem same_iff : ∀ (a b : D) {n m : Nat}, keyOk n a = true → keyOk m b = true → a.same b = decide (keyN a = keyN b)
  | .non, b, n, m, _, h => by cases b <;> first | (cases m <;> simp [keyOk] at h; done) | simp [D.same, keyN]
  | .int i, b, n, m, _, h => by cases b <;> first | (cases m <;> simp [keyOk] at h; done) | simp [D.same, keyN]
  | .str i, b, n, m, _, h => by cases b <;> first | (cases m <;> simp [keyOk] at h; done) | simp [D.same, keyN]
  | .tup l, b, n, m, h', h => by
    cases b with
    | tup k =>
      cases n with
      | zero => simp [keyOk] at h'
      | succ n =>
        cases m with
        | zero => simp [keyOk] at h
        | succ m =>
          have e := sames_iff l k (fun d hd => List.all_eq_true.mp h' d hd) (fun d hd => List.all_eq_true.mp h d hd)
          rw [D.same, e, keyN, keyN]
          simp
    | _ => first | (cases m <;> simp [keyOk] at h; done) | simp [D.same, keyN]
  | .bl _, _, n, _, h, _ => by cases n <;> simp [keyOk] at h
  | .lst _, _, n, _, h, _ => by cases n <;> simp [keyOk] at h
  | .dct _, _, n, _, h, _ => by cases n <;> simp [keyOk] at h
  | .fn _, _, n, _, h, _ => by cases n <;> simp [keyOk] at h
  | .clo _ _, _, n, _, h, _ => by cases n <;> simp [keyOk] at h
  | .pend _, _, n, _, h, _ => by cases n <;> simp [keyOk] at h
  | .strm, _, n, _, h, _ => by cases n <;> simp [keyOk] at h
  | .scr _, _, n, _, h, _ => by cases n <;> simp [keyOk] at h
  | .dcl _, _, n, _, h, _ => by cases n <;> simp [keyOk] at h
theorem sames_iff : ∀ (a b : List D) {n m : Nat}, (∀ d ∈ a, keyOk n d = true) → (∀ d ∈ b, keyOk m d = true) → sames a b = decide (keyNs a = keyNs b)
  | [], [], _, _, _, _ => by simp [sames]
  | [], _ :: _, _, _, _, _ => by simp [sames, keyNs]
  | _ :: _, [], _, _, _, _ => by simp [sames, keyNs]
  | x :: xs, y :: ys, n, m, h, h' => by
    rw [sames, keyNs, keyNs, same_iff x y (h x List.mem_cons_self) (h' y List.mem_cons_self), sames_iff xs ys (fun d hd => h d (List.mem_cons_of_mem _ hd)) (fun d hd => h' d (List.mem_cons_of_mem _ hd))]
    rw [← Bool.decide_and]
    simp
end
theorem kOk_key {l : List (D × D)} {k : D} (h : kOk l k = true) : keyOk 8 k = true := (Bool.and_eq_true_iff.mp h).1
theorem kOk_one {l : List (D × D)} {k : D} (h : kOk l k = true) (w : DWf l) : ∀ p ∈ l, isTup p.1 = isTup k := by
  have h2 := (Bool.and_eq_true_iff.mp h).2
  intro p hp
  cases l with
  | nil => simp at hp
  | cons q r =>
    obtain ⟨a, b⟩ := q
    have e : isTup a = isTup k := by simpa using h2
    exact (w.one p hp (a, b) List.mem_cons_self).trans e
abbrev kns (l : List (D × D)) : List NestedKey := l.map fun p => keyN p.1
theorem dget_at : ∀ {l : List (D × D)} {k : D}, (∀ p ∈ l, keyOk 8 p.1 = true) → keyOk 8 k = true → dget l k = (at_ (kns l) (keyN k)).bind fun i => (l[i]?).map (·.2)
  | [], _, _, _ => rfl
  | (a, v) :: r, k, h, hk => by
    rw [dget, same_iff a k (h _ List.mem_cons_self) hk]
    show _ = ((List.findIdx? (fun x => decide (x = keyN k)) (keyN a :: kns r)).bind _)
    rw [List.findIdx?_cons]
    by_cases e : keyN a = keyN k
    · rw [decide_eq_true e]
      rfl
    · rw [decide_eq_false e, dget_at (fun p hp => h p (List.mem_cons_of_mem _ hp)) hk]
      simp only [Bool.false_eq_true, if_false]
      show _ = (Option.map (fun i => i + 1) (at_ (kns r) (keyN k))).bind _
      cases at_ (kns r) (keyN k) with
      | none => rfl
      | some i => rfl
theorem dput_at : ∀ {l : List (D × D)} {k v : D}, (∀ p ∈ l, keyOk 8 p.1 = true) → keyOk 8 k = true → dput l k v = match at_ (kns l) (keyN k) with
    | some i => l.modify i fun p => (p.1, v)
    | none => l ++ [(k, v)]
  | [], _, _, _, _ => rfl
  | (a, w) :: r, k, v, h, hk => by
    rw [dput, same_iff a k (h _ List.mem_cons_self) hk]
    show _ = match List.findIdx? (fun x => decide (x = keyN k)) (keyN a :: kns r) with
      | some i => _
      | none => _
    rw [List.findIdx?_cons]
    by_cases e : keyN a = keyN k
    · rw [decide_eq_true e]
      rfl
    · rw [decide_eq_false e, dput_at (fun p hp => h p (List.mem_cons_of_mem _ hp)) hk]
      simp only [Bool.false_eq_true, if_false]
      show _ = match Option.map (fun i => i + 1) (at_ (kns r) (keyN k)) with
        | some i => _
        | none => _
      cases at_ (kns r) (keyN k) with
      | none => rfl
      | some i => rfl
theorem at_lt {ks : List NestedKey} {k : NestedKey} {i : Nat} (h : at_ ks k = some i) : i < ks.length := by
  obtain ⟨h, _⟩ := List.findIdx?_eq_some_iff_getElem.mp h
  exact h
theorem at_none {ks : List NestedKey} {k : NestedKey} (h : at_ ks k = none) : k ∉ ks := fun hm => by
  have := List.findIdx?_eq_none_iff.mp h k hm
  simp at this
theorem kns_modify {l : List (D × D)} {i : Nat} {v : D} : kns (l.modify i fun p => (p.1, v)) = kns l := by
  induction l generalizing i with
  | nil => simp
  | cons p r ih =>
    cases i with
    | zero => rfl
    | succ i =>
      have := ih (i := i)
      simp only [List.modify_succ_cons]
      show _ :: kns _ = _ :: kns _
      rw [this]
theorem mem_modify {l : List (D × D)} {i : Nat} {v : D} {p : D × D} (h : p ∈ l.modify i fun p => (p.1, v)) : ∃ q ∈ l, p.1 = q.1 := by
  induction l generalizing i with
  | nil => simp at h
  | cons q r ih =>
    cases i with
    | zero =>
      rcases List.mem_cons.mp h with rfl | h
      · exact ⟨q, List.mem_cons_self, rfl⟩
      · exact ⟨p, List.mem_cons_of_mem _ h, rfl⟩
    | succ i =>
      rw [List.modify_succ_cons] at h
      rcases List.mem_cons.mp h with rfl | h
      · exact ⟨p, List.mem_cons_self, rfl⟩
      · obtain ⟨q', h1, h2⟩ := ih h
        exact ⟨q', List.mem_cons_of_mem _ h1, h2⟩
theorem DWf.nil : DWf [] := ⟨fun _ h => by simp at h, fun _ h => by simp at h, by simp⟩
theorem DWf.mod {l : List (D × D)} (w : DWf l) (i : Nat) (v : D) : DWf (l.modify i fun p => (p.1, v)) := by
  refine ⟨fun p hp => ?_, fun p hp q hq => ?_, ?_⟩
  · obtain ⟨p', h1, h2⟩ := mem_modify hp
    rw [h2]; exact w.ok p' h1
  · obtain ⟨p', h1, h2⟩ := mem_modify hp
    obtain ⟨q', h3, h4⟩ := mem_modify hq
    rw [h2, h4]; exact w.one p' h1 q' h3
  · show (kns _).Nodup
    rw [kns_modify]; exact w.nd
theorem DWf.push {l : List (D × D)} (w : DWf l) {k v : D} (h : kOk l k = true) (n : at_ (kns l) (keyN k) = none) : DWf (l ++ [(k, v)]) := by
  have o := kOk_one h w
  refine ⟨fun p hp => ?_, fun p hp q hq => ?_, ?_⟩
  · rcases List.mem_append.mp hp with hp | hp
    · exact w.ok p hp
    · simp only [List.mem_singleton] at hp; subst hp; exact kOk_key h
  · rcases List.mem_append.mp hp with hp | hp <;> rcases List.mem_append.mp hq with hq | hq
    · exact w.one p hp q hq
    · simp only [List.mem_singleton] at hq; subst hq; exact o p hp
    · simp only [List.mem_singleton] at hp; subst hp; exact (o q hq).symm
    · simp only [List.mem_singleton] at hp hq; subst hp hq; rfl
  · rw [List.map_append, List.nodup_append]
    refine ⟨w.nd, by simp, fun x hx y hy => ?_⟩
    simp only [List.map_cons, List.map_nil, List.mem_singleton] at hy
    subst hy
    exact fun e => at_none n (e ▸ hx)
theorem DWf.put {l : List (D × D)} (w : DWf l) {k v : D} (h : kOk l k = true) : DWf (dput l k v) := by
  rw [dput_at w.ok (kOk_key h)]
  cases e : at_ (kns l) (keyN k) with
  | none => exact w.push h e
  | some i => exact w.mod i v

section
variable {κ : Ctx} {F : Fz}
theorem RepD.get : ∀ {es : List (Int × V × V)} {l : List (D × D)} {i : Nat} {x y : D}, RepD κ F es l → l[i]? = some (x, y) → ∃ a b, es[i]? = some ((keyN x).hash κ.w, a, b) ∧ Rep κ F a x ∧ Rep κ F b y
  | _, _, _, _, _, .nil, e => by simp at e
  | _, _, 0, _, _, .cons a b _, e => by simp at e; obtain ⟨rfl, rfl⟩ := e; exact ⟨_, _, rfl, a, b⟩
  | _, _, i + 1, _, _, .cons _ _ t, e => by
    obtain ⟨a, b, h⟩ := RepD.get (i := i) t (by simpa using e)
    exact ⟨a, b, by simpa using h⟩
theorem RepD.mod {v : V} {y : D} (r : Rep κ F v y) : ∀ {es : List (Int × V × V)} {l : List (D × D)} {i : Nat}, RepD κ F es l → RepD κ F (es.modify i fun e => (e.1, e.2.1, v)) (l.modify i fun p => (p.1, y))
  | _, _, i, .nil => by simp; exact .nil
  | _, _, 0, .cons a b t => .cons a r t
  | _, _, i + 1, .cons a b t => .cons a b (RepD.mod r t)
theorem RepD.push {k v : V} {x y : D} (q : Rep κ F k x) (r : Rep κ F v y) : ∀ {es : List (Int × V × V)} {l : List (D × D)}, RepD κ F es l → RepD κ F (es ++ [((keyN x).hash κ.w, k, v)]) (l ++ [(x, y)])
  | _, _, .nil => .cons q r .nil
  | _, _, .cons a b t => .cons a b (RepD.push q r t)
theorem EntR.get : ∀ {es : List (Int × V × V)} {l : List DictEntry} {i : Nat} {p : Int × V × V}, EntR es l → es[i]? = some p → ∃ e, l[i]? = some e ∧ e.hash = p.1 ∧ RelV p.2.1 e.key ∧ RelV p.2.2 e.val
  | _, _, _, _, .nil, e => by simp at e
  | _, _, 0, _, .cons a _, e => by simp at e; subst e; exact ⟨_, rfl, a⟩
  | _, _, i + 1, _, .cons _ t, e => by
    obtain ⟨a, h⟩ := EntR.get (i := i) t (by simpa using e)
    exact ⟨a, by simpa using h⟩
theorem EntR.length : ∀ {es : List (Int × V × V)} {l : List DictEntry}, EntR es l → es.length = l.length
  | _, _, .nil => rfl
  | _, _, .cons _ t => by simp [EntR.length t]
theorem EntR.mod {v : V} {u : Value} (r : RelV v u) : ∀ {es : List (Int × V × V)} {l : List DictEntry} {i : Nat}, EntR es l → EntR (es.modify i fun e => (e.1, e.2.1, v)) (l.modify i fun e => { e with val := u })
  | _, _, i, .nil => by simp; exact .nil
  | _, _, 0, .cons ⟨a, b, c⟩ t => .cons ⟨a, b, r⟩ t
  | _, _, i + 1, .cons a t => .cons a (EntR.mod r t)
theorem EntR.push {h : Int} {k v : V} {ku u : Value} (rk : RelV k ku) (r : RelV v u) : ∀ {es : List (Int × V × V)} {l : List DictEntry}, EntR es l → EntR (es ++ [(h, k, v)]) (l ++ [⟨h, ku, u⟩])
  | _, _, .nil => .cons ⟨rfl, rk, r⟩ .nil
  | _, _, .cons a t => .cons a (EntR.push rk r t)
/-- the entries behind a store -/
def esPutV (es : List (Int × V × V)) (hash : Int) (k v : V) : Option Nat → List (Int × V × V)
  | some i => es.modify i fun e => (e.1, e.2.1, v)
  | none => es ++ [(hash, k, v)]
theorem EntR.put {es : List (Int × V × V)} {ents : Array DictEntry} {h : Int} {k v : V} {ku u : Value} (q : EntR es ents.toList) (rk : RelV k ku) (r : RelV v u) (o : Option Nat) : EntR (esPutV es h k v o) (esPut ents h ku u o).toList := by
  cases o with
  | none =>
    show EntR (es ++ [(h, k, v)]) (ents.push ⟨h, ku, u⟩).toList
    rw [Array.toList_push]
    exact q.push rk r
  | some i =>
    show EntR _ (ents.modify i _).toList
    rw [Array.toList_modify]
    exact q.mod r
theorem RepD.put {es : List (Int × V × V)} {l : List (D × D)} {k v : V} {x y : D} (q : RepD κ F es l) (w : DWf l) (hk : kOk l x = true) (rk : Rep κ F k x) (r : Rep κ F v y) : RepD κ F (esPutV es ((keyN x).hash κ.w) k v (at_ (kns l) (keyN x))) (dput l x y) := by
  rw [dput_at w.ok (kOk_key hk)]
  cases at_ (kns l) (keyN x) with
  | none => exact q.push rk r
  | some i => exact q.mod r

variable {X : Cx} {pins : List (Addr × Obj)} {σ : L2.St} {H : Hp} {s : Shared}
theorem dic_at {a : Addr} {es : DS} (I : Inv X pins σ H s) (e : H a = some (DicO a es)) : (a == sysModules) = false ∧ es.1.length ≤ sizeLine ∧ s.heap.DictRaw a es.2.1 es.2.2 ∧ EntR es.1 es.2.1.toList := by
  obtain ⟨z, _, _⟩ : (_ ∧ _ ∧ _) := I.hok a _ e
  exact z
theorem dicO_ok {P : Program} {w : World} {H : Hp} {h : Heap} {a : Addr} {es : List (Int × V × V)} {ents : Array DictEntry} {ep : Nat} (h1 : (a == sysModules) = false) (h2 : es.length ≤ sizeLine) (h3 : h.DictRaw a ents ep) (h4 : EntR es ents.toList) : ObjOk P w H h a (DicO a (es, ents, ep)) := by
  obtain ⟨o, e, h5⟩ := id h3
  exact ⟨⟨h1, h2, h3, h4⟩, ⟨o, e⟩, fun g g' ⟨a1, a2, a3, a4⟩ st => ⟨a1, a2, a3.at st, a4⟩⟩
mutual
theorem Rep.nest (hK : X.K = κ.K) (k : Fk F H) (I : Inv X pins σ H s) : ∀ {d : D} {n : Nat} {v : V} {u : Value}, Rep κ F v d → keyOk n d = true → RelV v u → NestedIs s.heap (keyN d) u
  | .non, _, _, _, .non, _, r => by cases r; exact .none
  | .int i, _, _, _, .int _, _, r => by obtain ⟨t, rfl⟩ := r; exact .int i t
  | .str i, _, _, _, .str _, _, r => by obtain ⟨t, rfl⟩ := r; exact .text i t
  | .tup l, n + 1, _, _, .tup q a, h, r => by
    cases r
    have q' := sqT_fk k q
    rw [← hK] at q'
    obtain ⟨its, rv, ⟨o, ho, hc, m, hd⟩, _⟩ := I.tuple q'
    exact .tup ho hc hd (RepL.nest hK k I a (fun d hd => List.all_eq_true.mp h d hd) rv)
  | .tup _, 0, _, _, _, h, _ => by simp [keyOk] at h
  | .bl _, n, _, _, _, h, _ => by cases n <;> simp [keyOk] at h
  | .lst _, n, _, _, _, h, _ => by cases n <;> simp [keyOk] at h
  | .dct _, n, _, _, _, h, _ => by cases n <;> simp [keyOk] at h
  | .fn _, n, _, _, _, h, _ => by cases n <;> simp [keyOk] at h
  | .clo _ _, n, _, _, _, h, _ => by cases n <;> simp [keyOk] at h
  | .pend _, n, _, _, _, h, _ => by cases n <;> simp [keyOk] at h
  | .strm, n, _, _, _, h, _ => by cases n <;> simp [keyOk] at h
  | .scr _, n, _, _, _, h, _ => by cases n <;> simp [keyOk] at h
  | .dcl _, n, _, _, _, h, _ => by cases n <;> simp [keyOk] at h
theorem RepL.nest (hK : X.K = κ.K) (k : Fk F H) (I : Inv X pins σ H s) : ∀ {d : List D} {n : Nat} {v : List V} {u : List Value}, RepL κ F v d → (∀ x ∈ d, keyOk n x = true) → Vals v u → NestedAll s.heap (keyNs d) u
  | [], _, _, _, .nil, _, .nil => .nil
  | d :: ds, n, _, _, .cons a b, h, .cons r t => .cons (Rep.nest hK k I a (h d List.mem_cons_self) r) (RepL.nest hK k I b (fun x hx => h x (List.mem_cons_of_mem _ hx)) t)
end
theorem ents_of (hK : X.K = κ.K) (k : Fk F H) (I : Inv X pins σ H s) : ∀ {es : List (Int × V × V)} {l : List (D × D)} {ents : List DictEntry}, RepD κ F es l → (∀ p ∈ l, keyOk 8 p.1 = true) → EntR es ents → Ents κ.w s.heap (kns l) ents
  | _, _, _, .nil, _, .nil => .nil
  | _, _, _, .cons a b t, h, .cons ⟨e1, e2, e3⟩ r => .cons ⟨e1, a.nest hK k I (h _ List.mem_cons_self) e2⟩ (ents_of hK k I t (fun p hp => h p (List.mem_cons_of_mem _ hp)) r)
theorem asked (hK : X.K = κ.K) (k : Fk F H) (I : Inv X pins σ H s) {es : List (Int × V × V)} {l : List (D × D)} {ents : Array DictEntry} {kv : V} {kd : D} {ku : Value} (q : RepD κ F es l) (w : DWf l) (e : EntR es ents.toList) (hk : kOk l kd = true) (r : Rep κ F kv kd) (rk : RelV kv ku) :
    Asked κ.w s.heap ents (kns l) (keyN kd) ku := by
  refine ⟨ents_of hK k I q w.ok e, r.nest hK k I (kOk_key hk) rk, depth_ok (kOk_key hk), fun x hx => ?_, fun x hx => ?_, w.nd⟩
  · obtain ⟨p, hp, rfl⟩ := List.mem_map.mp hx
    exact depth_ok (w.ok p hp)
  · obtain ⟨p, hp, rfl⟩ := List.mem_map.mp hx
    exact isTup_leafy (w.ok p hp) (kOk_key hk) (kOk_one hk w p hp)
end
end WW
end
section
set_option maxHeartbeats 1000000
/-! operations on dicts, lists, tuples: their rules over data -/
namespace WW
open PySem PySem.Spec PyProof.Rows L2

/-! ### over the heap -/
section
variable {prog : Program} {w : World} {A : Around} {E : Value → Shared → Prop} {s : Shared} {d : Addr} {ents : Array DictEntry} {ep : Nat}
theorem lenBody_raw {Q : Value → Shared → Prop} (hS : (d == sysModules) = false) (hm : s.heap.DictRaw d ents ep) (hz : ents.size ≤ sizeLine)
    (h : Q (.int ents.size (s.toks + 1)) { s with toks := s.toks + 1 + 1 }) : wpAny (model prog w) A (Builtin.«len» ⟨[.ref d], []⟩) (fun fin s' => ∃ r, fin = .done (.ret r) ∧ Q r s') E s := by
  have hl : sizeLine = 16777216 := sizeLine_eq
  unfold Builtin.«len»
  refine wpAny_bind (m := oneArg "len" _) (wpAny_pure ?_)
  refine wpAny_bind (m := callSpecial? (.ref d) (Str.ofString "__len__")) (wpAny_callSpecial?_slot (name := Str.ofString "__len__") hm.typeIs F.slot_dict_len (call_len_raw hS hm ?_))
  refine wpAny_bind (wpAny_holding (wpAny_pure ?_))
  refine wpAny_bind (wpAny_letGo ?_)
  show wpAny _ _ (if ((ents.size : Nat) : Int) < 0 then _ else _) _ _ _
  rw [if_neg (by omega)]
  show wpAny _ _ (if ((ents.size : Nat) : Int) ≥ 2 ^ 63 then _ else _) _ _ _
  rw [if_neg (by omega)]
  exact wpAny_bind (wpAny_mkInt (wpAny_pure ⟨_, rfl, h⟩))
theorem len_raw {Q : Value → Shared → Prop} (hS : (d == sysModules) = false) (hm : s.heap.DictRaw d ents ep) (hz : ents.size ≤ sizeLine)
    (h : Q (.int ents.size (s.toks + 1)) { s with toks := s.toks + 1 + 1 }) : wpAny (model prog w) A (call (.builtin "len") [.ref d]) Q E s :=
  Calls.call_function_entry kind_len plain_len entry_len (args_len1 _) (lenBody_raw hS hm hz h)
theorem truthy_raw {Q : Bool → Shared → Prop} (hS : (d == sysModules) = false) (hm : s.heap.DictRaw d ents ep) (hz : ents.size ≤ sizeLine)
    (h : Q ((ents.size : Int) != 0) { s with toks := s.toks + 1 + 1 }) : wpAny (model prog w) A (truthy (.ref d)) Q E s := by
  have key : wpAny (model prog w) A (runValue (.builtin "len" ⟨[.ref d], []⟩)) (fun r s' => r = .int ents.size (s.toks + 1) ∧ Q ((ents.size : Int) != 0) s') E s := by
    refine wpAny_runValue (codeAny_builtin entry_len ?_)
    rw [Around.under_plainId plain_len _]
    exact wpAny_mono (lenBody_raw (Q := fun r s' => r = .int ents.size (s.toks + 1) ∧ Q ((ents.size : Int) != 0) s') hS hm hz ⟨rfl, h⟩) (fun fin s' h' => by obtain ⟨r, rfl, hq⟩ := h'; exact hq) fun _ _ e => e
  unfold truthy
  first
    | refine wpAny_bind (wpAny_callSpecial?_none (name := Str.ofString "__bool__") hm.typeIs noBool_dict ?_)
    | refine wpAny_bind (wpAny_pure (wpAny_bind (wpAny_callSpecial?_none (name := Str.ofString "__bool__") hm.typeIs noBool_dict ?_)))
  first
    | refine wpAny_bind (wpAny_specialOf (name := Str.ofString "__len__") hm.typeIs F.slot_dict_len.lookup ?_)
    | refine wpAny_bind (wpAny_pure (wpAny_bind (wpAny_specialOf (name := Str.ofString "__len__") hm.typeIs F.slot_dict_len.lookup ?_)))
  first
    | exact wpAny_bind (wpAny_mono key (fun r s' h' => by obtain ⟨rfl, hq⟩ := h'; exact wpAny_pure hq) fun _ _ e => e)
    | exact wpAny_bind (wpAny_pure (wpAny_bind (wpAny_mono key (fun r s' h' => by obtain ⟨rfl, hq⟩ := h'; exact wpAny_pure hq) fun _ _ e => e)))
end

section
variable {κ : Ctx} {X : Cx}
/-- a dict's object, whole -/
theorem dic_full {pins : List (Addr × Obj)} {σ : L2.St} {H : Hp} {s : Shared} {F : Fz} {a : Addr} {es : DS} {l : List (D × D)} (I : Inv X pins σ H s) (e : H a = some (DicO a es)) (q : RepD κ F es.1 l) :
    (a == sysModules) = false ∧ es.1.length ≤ sizeLine ∧ ∃ ents ep o, s.heap.get? a = some o ∧ o.ExactDict ∧ o.data = .dict ents ep ∧ EntR es.1 ents.toList ∧ ents.size = l.length := by
  obtain ⟨h1, h2, ⟨o, h3, h4, h5⟩, h6⟩ := dic_at I e
  refine ⟨h1, h2, es.2.1, es.2.2, o, h3, h4, h5, h6, ?_⟩
  have := h6.length
  rw [q.length] at this
  rw [← Array.length_toList]
  exact this.symm
theorem val_at {F : Fz} {es : List (Int × V × V)} {l : List (D × D)} {ents : Array DictEntry} {x : D} {i : Nat} {y : D} (q : RepD κ F es l) (e : EntR es ents.toList) (h : l[i]? = some (x, y)) :
    ∃ en v, ents[i]? = some en ∧ RelV v en.val ∧ Rep κ F v y := by
  obtain ⟨a, b, h1, _, h2⟩ := q.get h
  obtain ⟨en, h3, _, _, h4⟩ := e.get h1
  exact ⟨en, b, by rw [← Array.getElem?_toList]; exact h3, h4, h2⟩

theorem atI_map {F : Fz} {xs : List V} {l : List D} {i : Int} {d : D} (r : RepL κ F xs l) (h : atI l i = some d) : ∃ v, atI xs i = some v ∧ Rep κ F v d := by
  unfold atI at h ⊢
  rw [r.length]
  cases e : ixN l.length i with
  | none => rw [e] at h; cases h
  | some j =>
    rw [e] at h
    exact r.get h
theorem ix_dicR (hK : X.K = κ.K) (hw : X.w = κ.w) (hu : X.A.units + 70 < cLine) : IxR X (fun x y H Q => ∃ F a es l kd z, Fk F H ∧ x = .ref a ∧ H a = some (DicO a es) ∧ RepD κ F es.1 l ∧ DWf l ∧ Rep κ F y kd ∧ kOk l kd = true ∧ dget l kd = some z ∧ ∀ v, Rep κ F v z → Q v H) := by
  intro value slice pins s σ H x y v u Q I rx ry h hs
  obtain ⟨F, a, es, l, kd, z, k, rfl, ha, q, w, r, hk, hz, hQ⟩ := h
  cases rx
  obtain ⟨hS, hl, ents, ep, o, h3, h4, h5, h6, h7⟩ := dic_full I ha q
  have As := asked hK k I q w h6 hk r ry
  rw [dget_at w.ok (kOk_key hk)] at hz
  cases e : at_ (kns l) (keyN kd) with
  | none => rw [e] at hz; cases hz
  | some i =>
    rw [e, Option.bind_some] at hz
    cases e2 : l[i]? with
    | none => rw [e2] at hz; cases hz
    | some p =>
      rw [e2] at hz
      obtain ⟨x0, y0⟩ := p
      cases (Option.some.inj hz : y0 = z)
      obtain ⟨en, v, h8, h9, h10⟩ := val_at q h6 e2
      rw [← hw] at As
      refine tail_any (T := "dict") (id := "dict.__getitem__") ⟨o, h3, h4.1⟩ slot_dict_getitem.lookup ?_ hs
      exact item_N (by omega) h3 h4 h5 As e h8 ⟨v, H, I.tok _, h9, hQ v h10⟩
theorem i_idx (hK : X.K = κ.K) (hw : X.w = κ.w) (hu : X.A.units + 70 < cLine) : IxR X (rB κ (bF .idx)) := by
  refine IxR.imp (ix_list.or (ix_tup.or (ix_dicR (κ := κ) hK hw hu))) fun x y H Q h => ?_
  rw [hK]
  obtain ⟨F, d, e, z, f, k, hx, hy, hg, q⟩ := h
  simp only [bF] at hg
  split at hg
  · simp only [Option.map_eq_some_iff] at hg
    obtain ⟨v, hv, e1⟩ := hg
    cases e1
    obtain ⟨a, xs, rfl, h1, r1⟩ := hx.lst k
    have e2 := hy.int; subst e2
    obtain ⟨v', a1, a2⟩ := atI_map r1 hv
    exact .inl ⟨a, xs, _, v', rfl, rfl, .inl (.inl h1), a1, fin_val k a2 q⟩
  · simp only [Option.map_eq_some_iff] at hg
    obtain ⟨v, hv, e1⟩ := hg
    cases e1
    obtain ⟨a, xs, rfl, h1, _, r1⟩ := hx.tup k
    have e2 := hy.int; subst e2
    obtain ⟨v', a1, a2⟩ := atI_map r1 hv
    exact .inr (.inl ⟨a, xs, _, v', rfl, rfl, h1, a1, fin_val k a2 q⟩)
  · split at hg
    · rename_i hk
      simp only [Option.map_eq_some_iff] at hg
      obtain ⟨v, hv, e1⟩ := hg
      cases e1
      obtain ⟨a, es, rfl, h1, r1, w⟩ := hx.dct k
      rcases hy with hy | ⟨b, as, rfl, hy⟩
      · exact .inr (.inr ⟨F, a, es, _, _, _, k, rfl, h1, r1, w, hy, hk, hv, fun v r => fin_val k r q⟩)
      · have hk := kOk_key hk
        cases e with
        | lst _ => simp [keyOk] at hk
        | dct _ => simp [keyOk] at hk
        | dcl _ => simp [keyOk] at hk
        | _ => exact hy.elim
    · cases hg
  · cases hg

theorem key_rep {H : Hp} {F : Fz} {v : V} {d : D} {l : List (D × D)} (h : RO κ H F v d) (hk : kOk l d = true) : Rep κ F v d := by
  rcases h with h | ⟨b, as, rfl, h⟩
  · exact h
  · have hk := kOk_key hk
    cases d with
    | lst _ => simp [keyOk] at hk
    | dct _ => simp [keyOk] at hk
    | dcl _ => simp [keyOk] at hk
    | _ => exact h.elim
theorem in_dicR (hK : X.K = κ.K) (hw : X.w = κ.w) (hu : X.A.units + 70 < cLine) : OpR X (compareOp .In) (fun x y H Q => ∃ F a es l kd, Fk F H ∧ y = .ref a ∧ H a = some (DicO a es) ∧ RepD κ F es.1 l ∧ DWf l ∧ Rep κ F x kd ∧ kOk l kd = true ∧ Q (.bl (dget l kd).isSome) H) := by
  intro pins s σ H x y v u Q I rx ry h
  obtain ⟨F, a, es, l, kd, k, rfl, ha, q, w, r, hk, hQ⟩ := h
  cases ry
  obtain ⟨hS, hl, ents, ep, o, h3, h4, h5, h6, h7⟩ := dic_full I ha q
  have As := asked hK k I q w h6 hk r rx
  have hlt : ∀ i, at_ (kns l) (keyN kd) = some i → i < ents.size := fun i e => by
    have := at_lt e
    rw [List.length_map] at this
    omega
  have hv : (dget l kd).isSome = (at_ (kns l) (keyN kd)).isSome := by
    rw [dget_at w.ok (kOk_key hk)]
    cases e : at_ (kns l) (keyN kd) with
    | none => rfl
    | some i =>
      have := hlt i e
      rw [Option.bind_some, List.getElem?_eq_getElem (by omega)]
      rfl
  rw [← hw] at As
  exact in_N (by omega) hS h3 h4 h5 As hlt ⟨.bl _, H, I.tok _, rfl, by rw [← hv]; exact hQ⟩
theorem notIn_dicR (hK : X.K = κ.K) (hw : X.w = κ.w) (hu : X.A.units + 70 < cLine) : OpR X (compareOp .NotIn) (fun x y H Q => ∃ F a es l kd, Fk F H ∧ y = .ref a ∧ H a = some (DicO a es) ∧ RepD κ F es.1 l ∧ DWf l ∧ Rep κ F x kd ∧ kOk l kd = true ∧ Q (.bl (!(dget l kd).isSome)) H) := by
  intro pins s σ H x y v u Q I rx ry h
  obtain ⟨F, a, es, l, kd, k, rfl, ha, q, w, r, hk, hQ⟩ := h
  cases ry
  obtain ⟨hS, hl, ents, ep, o, h3, h4, h5, h6, h7⟩ := dic_full I ha q
  have As := asked hK k I q w h6 hk r rx
  have hlt : ∀ i, at_ (kns l) (keyN kd) = some i → i < ents.size := fun i e => by
    have := at_lt e
    rw [List.length_map] at this
    omega
  have hv : (dget l kd).isSome = (at_ (kns l) (keyN kd)).isSome := by
    rw [dget_at w.ok (kOk_key hk)]
    cases e : at_ (kns l) (keyN kd) with
    | none => rfl
    | some i =>
      have := hlt i e
      rw [Option.bind_some, List.getElem?_eq_getElem (by omega)]
      rfl
  rw [← hw] at As
  exact notIn_N (by omega) hS h3 h4 h5 As hlt ⟨.bl _, H, I.tok _, rfl, by rw [← hv]; exact hQ⟩
theorem op_inT (hu : X.A.units + 70 < cLine) : OpR X (compareOp .In) (fun x y H Q => ∃ d ds, Dp X.K H x d ∧ Dp X.K H y (.tuple ds) ∧ SeqAt.shaped d = true ∧ SeqAt.shaped (.tuple ds) = true ∧ Q (.bl (ds.any fun z => PyData.eqv z d)) H) := by
  intro pins s σ H x y v u Q I rx ry h
  obtain ⟨d, ds, hd, he, sd, se, q⟩ := h
  obtain ⟨as, r1⟩ := Dp.reads I d x v hd rx
  obtain ⟨bs, r2⟩ := Dp.reads I (.tuple ds) y u he ry
  have h1 := SeqAt.depth_of_shaped sd
  have h2 := Nat.min_le_right (PyData.depthAll ds) d.depth
  exact SeqAt.in_tuple_reads r2 r1 (SeqAt.canLay_of_shaped se) (SeqAt.canLay_of_shaped sd) (by omega) ⟨.bl _, H, I, rfl, q⟩
theorem op_notInT (hu : X.A.units + 70 < cLine) : OpR X (compareOp .NotIn) (fun x y H Q => ∃ d ds, Dp X.K H x d ∧ Dp X.K H y (.tuple ds) ∧ SeqAt.shaped d = true ∧ SeqAt.shaped (.tuple ds) = true ∧ Q (.bl (!ds.any fun z => PyData.eqv z d)) H) := by
  intro pins s σ H x y v u Q I rx ry h
  obtain ⟨d, ds, hd, he, sd, se, q⟩ := h
  obtain ⟨as, r1⟩ := Dp.reads I d x v hd rx
  obtain ⟨bs, r2⟩ := Dp.reads I (.tuple ds) y u he ry
  have h1 := SeqAt.depth_of_shaped sd
  have h2 := Nat.min_le_right (PyData.depthAll ds) d.depth
  exact SeqAt.notIn_tuple_reads r2 r1 (SeqAt.canLay_of_shaped se) (SeqAt.canLay_of_shaped sd) (by omega) ⟨.bl _, H, I, rfl, q⟩
theorem anyEq_spec {d : D} {l : List D} {c : Bool} (h : anyEq d l = some c) : ∃ ps p, pys l = some ps ∧ d.py = some p ∧ (PyData.list ps).depth ≤ 64 ∧ p.depth ≤ 64 ∧ c = ps.any fun z => PyData.eqv z p := by
  unfold anyEq at h
  simp only [Option.bind_eq_some_iff] at h
  obtain ⟨ps, h1, p, h2, h3⟩ := h
  split at h3
  · rename_i hd
    cases h3
    exact ⟨ps, p, h1, h2, hd.1, hd.2, rfl⟩
  · cases h3
theorem shaped_of {d : D} {p : PyData} (h : d.py = some p) (hd : p.depth ≤ 64) : SeqAt.shaped p = true := by
  unfold SeqAt.shaped
  rw [py_lay h, decide_eq_true hd]
  rfl
theorem b_in (hK : X.K = κ.K) (hw : X.w = κ.w) (hu : X.A.units + 70 < cLine) : OpR X (compareOp .In) (rB κ (bF .isin)) := by
  refine OpR.imp ((in_dicR (κ := κ) hK hw hu).or ((op_inD (by omega)).or (op_inT hu))) fun x y H Q h => ?_
  rw [hK]
  obtain ⟨F, d, e, z, f, k, hx, hy, hg, q⟩ := h
  simp only [bF] at hg
  split at hg
  · split at hg
    · rename_i hk
      cases hg
      obtain ⟨a, es, rfl, h1, r1, w⟩ := hy.dct k
      exact .inl ⟨F, a, es, _, _, k, rfl, h1, r1, w, key_rep hx hk, hk, fin_val k (.bl _) q⟩
    · cases hg
  · rename_i l
    simp only [Option.map_eq_some_iff] at hg
    obtain ⟨c, hc, e1⟩ := hg
    cases e1
    obtain ⟨ps, p, h1, h2, h3, h4, rfl⟩ := anyEq_spec hc
    have hl : (D.lst l).py = some (.list ps) := by rw [D.py, h1]; rfl
    exact .inr (.inl ⟨p, ps, hx.dp k h2, hy.dp k hl, shaped_of h2 h4, shaped_of hl h3, fin_val k (.bl _) q⟩)
  · rename_i l
    simp only [Option.map_eq_some_iff] at hg
    obtain ⟨c, hc, e1⟩ := hg
    cases e1
    obtain ⟨ps, p, h1, h2, h3, h4, rfl⟩ := anyEq_spec hc
    have hl : (D.tup l).py = some (.tuple ps) := by rw [D.py, h1]; rfl
    exact .inr (.inr ⟨p, ps, hx.dp k h2, hy.dp k hl, shaped_of h2 h4, shaped_of hl h3, fin_val k (.bl _) q⟩)
  · cases hg
theorem b_notIn (hK : X.K = κ.K) (hw : X.w = κ.w) (hu : X.A.units + 70 < cLine) : OpR X (compareOp .NotIn) (rB κ (bF .notin)) := by
  refine OpR.imp ((notIn_dicR (κ := κ) hK hw hu).or ((op_notInD (by omega)).or (op_notInT hu))) fun x y H Q h => ?_
  rw [hK]
  obtain ⟨F, d, e, z, f, k, hx, hy, hg, q⟩ := h
  simp only [bF] at hg
  split at hg
  · split at hg
    · rename_i hk
      cases hg
      obtain ⟨a, es, rfl, h1, r1, w⟩ := hy.dct k
      exact .inl ⟨F, a, es, _, _, k, rfl, h1, r1, w, key_rep hx hk, hk, fin_val k (.bl _) q⟩
    · cases hg
  · rename_i l
    simp only [Option.map_eq_some_iff] at hg
    obtain ⟨c, hc, e1⟩ := hg
    cases e1
    obtain ⟨ps, p, h1, h2, h3, h4, rfl⟩ := anyEq_spec hc
    have hl : (D.lst l).py = some (.list ps) := by rw [D.py, h1]; rfl
    exact .inr (.inl ⟨p, ps, hx.dp k h2, hy.dp k hl, shaped_of h2 h4, shaped_of hl h3, fin_val k (.bl _) q⟩)
  · rename_i l
    simp only [Option.map_eq_some_iff] at hg
    obtain ⟨c, hc, e1⟩ := hg
    cases e1
    obtain ⟨ps, p, h1, h2, h3, h4, rfl⟩ := anyEq_spec hc
    have hl : (D.tup l).py = some (.tuple ps) := by rw [D.py, h1]; rfl
    exact .inr (.inr ⟨p, ps, hx.dp k h2, hy.dp k hl, shaped_of h2 h4, shaped_of hl h3, fin_val k (.bl _) q⟩)
  · cases hg

/-! ### slices -/
theorem sl_imp {r r' : V → Option Int → Option Int → Hp → VK → Prop} (h : SlR X r) (i : ∀ x lo hi H Q, r' x lo hi H Q → r x lo hi H Q) : SlR X r' := fun pins s σ H x v vl vu lo hi sl Q I rx hs pl pu q => h pins s σ H x v vl vu lo hi sl Q I rx hs pl pu (i _ _ _ _ _ q)
def rSl (κ : Ctx) : V → Option Int → Option Int → Hp → VK → Prop := fun x lo hi H Q => ∃ F d z f, Fk F H ∧ RO κ H F x d ∧ (match d with
  | .lst l => some (D.lst (cutD l lo hi), true)
  | .tup l => some (D.tup (cutD l lo hi), false)
  | _ => none) = some (z, f) ∧ ∀ v H' F', Pure H F H' F' → VP κ H H' F' v z f → Q v H'
theorem cut_rep {F : Fz} {xs : List V} {l : List D} (r : RepL κ F xs l) (lo hi : Option Int) : RepL κ F (cutV xs lo hi) (cutD l lo hi) := by
  unfold cutV cutD
  rw [r.length]
  exact (r.drop _).take _
theorem s_slice (hK : X.K = κ.K) : SlR X (rSl κ) := by
  refine sl_imp (sl_list.or sl_tupA) fun x lo hi H Q h => ?_
  rw [hK]
  obtain ⟨F, d, z, f, k, hx, hg, q⟩ := h
  split at hg
  · cases hg
    obtain ⟨a, xs, rfl, h1, r1⟩ := hx.lst k
    exact .inl ⟨a, xs, rfl, .inl (.inl h1), fin_lst k (cut_rep r1 lo hi) q⟩
  · rename_i l
    cases hg
    obtain ⟨a, xs, rfl, h1, f1, r1⟩ := hx.tup k
    refine .inr ⟨a, xs, rfl, h1, fun z => fin_val k ?_ q, fun _ => fin_tup k (cut_rep r1 lo hi) q⟩
    have e : cutD l lo hi = l := by
      unfold cutD
      rw [← r1.length, z.1, z.2, Nat.sub_zero, List.drop_zero, r1.length]
      exact List.take_length
    rw [e]
    exact .tup f1 r1
  · cases hg

/-! ### one-place ones -/
theorem u_neg : UnR X (unaryOp .USub) (rU κ (uF .neg)) := by
  refine UnR.imp un_neg fun x H Q h => ?_
  obtain ⟨F, d, z, f, k, hx, hg, q⟩ := h
  simp only [uF] at hg
  split at hg
  · cases hg
    have e1 := hx.int; subst e1
    exact ⟨_, rfl, fin_val k (.int _) q⟩
  · cases hg
theorem call_len_dic (hK : X.K = κ.K) : CallR X (.builtin "len") (fun xs H Q => ∃ F a es l, xs = [.ref a] ∧ H a = some (DicO a es) ∧ RepD κ F es.1 l ∧ Q (.int l.length) H) := by
  intro pins s σ H xs us Q I r h
  obtain ⟨F, a, es, l, rfl, ha, q, hQ⟩ := h
  obtain ⟨u, rfl, ru⟩ := vals1 r
  cases ru
  obtain ⟨hS, hl, ents, ep, o, h3, h4, h5, h6, h7⟩ := dic_full I ha q
  refine len_raw hS ⟨o, h3, h4, h5⟩ (by rw [h7, ← q.length]; exact hl) ⟨.int ents.size, H, I.tok _, ⟨_, rfl⟩, by rw [h7]; exact hQ⟩
theorem c_len (hK : X.K = κ.K) : CallR X (.builtin "len") (rC κ (uF .len)) := by
  refine CallR.imp (call_len.or (call_len_dic (κ := κ) hK)) fun xs H Q h => ?_
  rw [hK]
  obtain ⟨x, rfl, F, d, z, f, k, hx, hg, q⟩ := h
  simp only [uF, Option.map_eq_some_iff] at hg
  obtain ⟨n, hn, e1⟩ := hg
  cases e1
  cases d with
  | lst l =>
    obtain ⟨a, xs, rfl, h1, r1⟩ := hx.lst k
    cases hn
    exact .inl ⟨_, _, rfl, .inl ⟨xs, .inl (.inl h1), r1.length.symm⟩, fin_val k (.int _) q⟩
  | tup l =>
    obtain ⟨a, xs, rfl, h1, _, r1⟩ := hx.tup k
    cases hn
    exact .inl ⟨_, _, rfl, .inr ⟨xs, h1, r1.length.symm⟩, fin_val k (.int _) q⟩
  | str s =>
    have e1 := hx.str; subst e1
    simp only [lenD] at hn
    split at hn
    · cases hn
      exact .inl ⟨_, _, rfl, ⟨by assumption, rfl⟩, fin_val k (.int _) q⟩
    · cases hn
  | dct l =>
    obtain ⟨a, es, rfl, h1, r1, _⟩ := hx.dct k
    cases hn
    exact .inr ⟨F, a, es, l, rfl, h1, r1, fin_val k (.int _) q⟩
  | _ => cases hn
theorem tru_dic : TruR X (fun x H Q => ∃ F a es l, x = .ref a ∧ H a = some (DicO a es) ∧ RepD κ F es.1 l ∧ Q (!l.isEmpty) H) := by
  intro pins s σ H x v Q I rx h
  obtain ⟨F, a, es, l, rfl, ha, q, hQ⟩ := h
  cases rx
  obtain ⟨hS, hl, ents, ep, o, h3, h4, h5, h6, h7⟩ := dic_full I ha q
  refine truthy_raw hS ⟨o, h3, h4, h5⟩ (by rw [h7, ← q.length]; exact hl) ⟨H, I.tok _, ?_⟩
  have e : ((ents.size : Int) != 0) = !l.isEmpty := by
    rw [h7]
    cases l with
    | nil => rfl
    | cons _ _ => simp; omega
  rw [e]
  exact hQ
/-- a value's truth, over data -/
def rTr (κ : Ctx) : V → Hp → (Bool → Hp → Prop) → Prop := fun x H Q => ∃ F d b, Fk F H ∧ RO κ H F x d ∧ truth d = some b ∧ Q b H
theorem t_tru (hK : X.K = κ.K) : TruR X (rTr κ) := by
  intro pins s σ H x v Q I rx h
  obtain ⟨F, d, b, k, hx, hg, q⟩ := h
  have base : ∀ c, TruV X.K x H c → c = b → wpAny (model X.prog X.w) X.A (truthy v) (TP X pins σ Q) X.xe s := fun c hc e => tru_ok pins s σ H x v Q I rx ⟨c, hc, by rw [e]; exact q⟩
  cases d with
  | non => have e1 := hx.non; subst e1; cases hg; exact base false rfl rfl
  | bl c => have e1 := hx.bl; subst e1; cases hg; exact base _ rfl rfl
  | int i => have e1 := hx.int; subst e1; cases hg; exact base _ rfl rfl
  | str y =>
    have e1 := hx.str; subst e1
    simp only [truth] at hg
    split at hg
    · cases hg; exact base _ ⟨by assumption, rfl⟩ rfl
    · cases hg
  | tup l =>
    obtain ⟨a, xs, rfl, h1, _, r1⟩ := hx.tup k
    cases hg
    refine base (!xs.isEmpty) (.inr (.inl ⟨xs, by rw [hK]; exact h1, rfl⟩)) ?_
    cases r1 <;> rfl
  | lst l =>
    obtain ⟨a, xs, rfl, h1, r1⟩ := hx.lst k
    cases hg
    refine base (!xs.isEmpty) (.inl ⟨xs, .inl (.inl h1), rfl⟩) ?_
    cases r1 <;> rfl
  | dct l =>
    obtain ⟨a, es, rfl, h1, r1, _⟩ := hx.dct k
    cases hg
    exact tru_dic (κ := κ) pins s σ H _ v Q I rx ⟨F, a, es, l, rfl, h1, r1, q⟩
  | _ => cases hg
theorem c_abs : CallR X (.builtin "abs") (rC κ (uF .abs)) := by
  refine CallR.imp call_abs fun xs H Q h => ?_
  obtain ⟨x, rfl, F, d, z, f, k, hx, hg, q⟩ := h
  simp only [uF] at hg
  split at hg
  · cases hg
    have e1 := hx.int; subst e1
    exact ⟨_, rfl, fin_val k (.int _) q⟩
  · cases hg
theorem c_int : CallR X (.type "int") (rC κ (uF .int)) := by
  refine CallR.imp call_int1 fun xs H Q h => ?_
  obtain ⟨x, rfl, F, d, z, f, k, hx, hg, q⟩ := h
  simp only [uF] at hg
  split at hg
  · cases hg
    have e1 := hx.int; subst e1
    exact .inl ⟨_, rfl, fin_val k (.int _) q⟩
  · cases hg
    have e1 := hx.bl; subst e1
    exact .inr ⟨_, rfl, fin_val k (.int _) q⟩
  · cases hg
theorem c_max2 (hc : X.calm = true) : CallR X (.builtin "max") (rC2 κ (bF .max)) := by
  refine CallR.imp (call_max2 hc) fun xs H Q h => ?_
  obtain ⟨x, y, rfl, F, d, e, z, f, k, hx, hy, hg, q⟩ := h
  simp only [bF] at hg
  split at hg
  · cases hg
    have e1 := hx.int; have e2 := hy.int; subst e1; subst e2
    exact ⟨_, _, rfl, fin_val k (.int _) q⟩
  · cases hg
theorem c_min2 (hc : X.calm = true) : CallR X (.builtin "min") (rC2 κ (bF .min)) := by
  refine CallR.imp (call_min2 hc) fun xs H Q h => ?_
  obtain ⟨x, y, rfl, F, d, e, z, f, k, hx, hy, hg, q⟩ := h
  simp only [bF] at hg
  split at hg
  · cases hg
    have e1 := hx.int; have e2 := hy.int; subst e1; subst e2
    exact ⟨_, _, rfl, fin_val k (.int _) q⟩
  · cases hg
theorem RepL.bools {F : Fz} : ∀ {xs : List V} {l : List D} {bs : List Bool}, RepL κ F xs l → bools l = some bs → xs = bs.map V.bl
  | _, [], _, .nil, e => by cases e; rfl
  | _, .bl b :: l, _, .cons (.bl _) t, e => by
    simp only [WW.bools, Option.map_eq_some_iff] at e
    obtain ⟨bs, e1, rfl⟩ := e
    rw [RepL.bools t e1]; rfl
theorem c_all (hK : X.K = κ.K) (hc : X.calm = true) : CallR X (.builtin "all") (rC κ (uF .all)) := by
  refine CallR.imp (cr_all hc) fun xs H Q h => ?_
  rw [hK]
  obtain ⟨x, rfl, F, d, z, f, k, hx, hg, q⟩ := h
  simp only [uF] at hg
  split at hg
  · simp only [Option.map_eq_some_iff] at hg
    obtain ⟨bs, hb, e⟩ := hg
    cases e
    obtain ⟨a, xs, rfl, h1, r1⟩ := hx.lst k
    have e := r1.bools hb
    subst e
    exact ⟨a, bs, rfl, .inl (.inl h1), fin_val k (.bl _) q⟩
  · cases hg
theorem c_any (hK : X.K = κ.K) (hc : X.calm = true) : CallR X (.builtin "any") (rC κ (uF .any)) := by
  refine CallR.imp (cr_any hc) fun xs H Q h => ?_
  rw [hK]
  obtain ⟨x, rfl, F, d, z, f, k, hx, hg, q⟩ := h
  simp only [uF] at hg
  split at hg
  · simp only [Option.map_eq_some_iff] at hg
    obtain ⟨bs, hb, e⟩ := hg
    cases e
    obtain ⟨a, xs, rfl, h1, r1⟩ := hx.lst k
    have e := r1.bools hb
    subst e
    exact ⟨a, bs, rfl, .inl (.inl h1), fin_val k (.bl _) q⟩
  · cases hg
theorem RepL.sum {F : Fz} : ∀ {xs : List V} {l : List D} {a n : Int}, RepL κ F xs l → sumD l a = some n → ∃ ns : List Int, xs = ns.map V.int ∧ n = a + ns.sum
  | _, [], a, _, .nil, e => by cases e; exact ⟨[], rfl, by simp⟩
  | _, .int i :: l, a, _, .cons (.int _) t, e => by
    simp only [WW.sumD] at e
    obtain ⟨ns, e1, e2⟩ := RepL.sum t e
    refine ⟨i :: ns, by rw [e1]; rfl, ?_⟩
    rw [e2, List.sum_cons]
    omega
theorem c_sum (hK : X.K = κ.K) (hc : X.calm = true) : CallR X (.builtin "sum") (rC κ (uF .sum)) := by
  refine CallR.imp (cr_sum hc) fun xs H Q h => ?_
  rw [hK]
  obtain ⟨x, rfl, F, d, z, f, k, hx, hg, q⟩ := h
  simp only [uF] at hg
  split at hg
  · simp only [Option.map_eq_some_iff] at hg
    obtain ⟨n, hb, e⟩ := hg
    cases e
    obtain ⟨a, xs, rfl, h1, r1⟩ := hx.lst k
    obtain ⟨ns, e, e2⟩ := r1.sum hb
    subst e
    rw [Int.zero_add] at e2
    subst e2
    exact ⟨a, ns, rfl, .inl (.inl h1), fin_val k (.int _) q⟩
  · cases hg
theorem c_tuple (hK : X.K = κ.K) : CallR X (.type "tuple") (rC κ (uF .tuple)) := by
  refine CallR.imp call_tuple_of fun xs H Q h => ?_
  rw [hK]
  obtain ⟨x, rfl, F, d, z, f, k, hx, hg, q⟩ := h
  simp only [uF, Option.bind_eq_some_iff] at hg
  obtain ⟨l, hl, hg⟩ := hg
  split at hg
  · cases hg
    cases d with
    | lst l' =>
      cases hl
      obtain ⟨a, xs, rfl, h1, r1⟩ := hx.lst k
      exact ⟨a, xs, rfl, .inl ⟨.inl (.inl h1), fin_tup k r1 q⟩⟩
    | tup l' =>
      cases hl
      obtain ⟨a, xs, rfl, h1, f1, r1⟩ := hx.tup k
      exact ⟨a, xs, rfl, .inr ⟨h1, fin_val k (.tup f1 r1) q⟩⟩
    | _ => cases hl
  · cases hg
end
end WW
end
section
/-! a body's state: looked at, frozen, set, changed in place -/
namespace WW
open PySem PySem.Spec PyProof.Rows L2
section
variable {κ : Ctx} {Gd : Hp} {A A' : Nat → List Addr} {r : Env} {g : G} {σ : L2.St} {H H' : Hp} {F F' : Fz} {i : Nat} {d e : D} {a : Addr} {as : List Addr}

theorem of_look (h : look r i = some d) : ∃ f, r[i]? = some (some (d, f)) ∧ isPend d = false := by
  unfold look at h
  split at h
  · rename_i f e
    split at h
    · cases h
    · rename_i hp
      cases h
      exact ⟨_, e, by simpa using hp⟩
  · cases h
theorem of_owned (h : owned r i = some d) : r[i]? = some (some (d, true)) := by
  unfold owned at h
  split at h
  · rename_i e; cases h; exact e
  · cases h
theorem R.look (q : R κ Gd A r g σ H F) (h : look r i = some d) : ∃ v, σ[i]? = some (some v) ∧ RO κ H F v d := by
  obtain ⟨f, h, np⟩ := of_look h
  cases f with
  | false => obtain ⟨v, h1, h2⟩ := q.sh i d h; exact ⟨v, h1, .inl (h2.rep np)⟩
  | true => obtain ⟨a, h1, h2⟩ := q.ow i d h; exact ⟨_, h1, .inr ⟨a, _, rfl, h2⟩⟩

/-- the addresses S stay from now on -/
def Fz.add (F : Fz) (S : List Addr) (H : Hp) : Fz := ⟨fun b => if b ∈ S then H b else F.m b, F.s, F.c⟩
theorem add_in {S : List Addr} {b : Addr} (h : b ∈ S) : (F.add S H).m b = H b := by
  show (if b ∈ S then H b else F.m b) = _
  rw [if_pos h]
theorem add_out {S : List Addr} {b : Addr} (h : b ∉ S) : (F.add S H).m b = F.m b := by
  show (if b ∈ S then H b else F.m b) = _
  rw [if_neg h]
theorem add_le {S : List Addr} (n : ∀ b ∈ S, F.m b = none) : F.Le (F.add S H) := ⟨fun b o h => by
  rw [add_out fun z => by rw [n b z] at h; cases h]
  exact h, fun _ h => h, fun _ _ h => h⟩
theorem add_fk {S : List Addr} (k : Fk F H) : Fk (F.add S H) H := fun b o h => by
  by_cases z : b ∈ S
  · rw [add_in z] at h; exact h
  · rw [add_out z] at h; exact k _ _ h
theorem add_only {S : List Addr} {b : Addr} (h : (F.add S H).m b ≠ F.m b) : b ∈ S := by
  by_cases z : b ∈ S
  · exact z
  · exact absurd (add_out z) h
theorem RepE.rep (l : F.Le F') : ∀ {es : List (Int × V × V)} {bs : List Addr} {m : List (D × List D)}, (∀ b ∈ bs, F'.m b = H b) → RepE κ H F es bs m → RepD κ F' es (m.map fun p => (p.1, D.lst p.2))
  | _, _, _, _, .nil => .nil
  | _, _, _, h, .cons p q c t => .cons (p.le l) (.lst ((h _ List.mem_cons_self).trans q) (c.le l)) (RepE.rep l (fun b hb => h b (List.mem_cons_of_mem _ hb)) t)
theorem Root.froze (q : Root κ H F a as d) (n : ∀ b ∈ as, F.m b = none) : Rep κ (F.add as H) (.ref a) (norm d) := by
  cases d with
  | lst ds => obtain ⟨rfl, xs, h, p⟩ := q; exact .lst ((add_in (by simp)).trans h) (p.le (add_le n))
  | dct ds => obtain ⟨rfl, es, h, p, w⟩ := q; exact .dct ((add_in (by simp)).trans h) (p.le (add_le n)) w
  | dcl ds =>
    obtain ⟨es, bs, rfl, nd, h, p, w⟩ := q
    exact .dct ((add_in (by simp)).trans h) (p.rep (add_le n) fun b hb => add_in (List.mem_cons_of_mem _ hb)) w
  | _ => exact q.elim
theorem add_grow {S : List Addr} (n : ∀ b ∈ S, F.m b = none) (gn : ∀ b ∈ S, Gd b = none) : Grow Gd F (F.add S H) := ⟨add_le n, rfl, fun b h => add_out fun z => h (gn b z)⟩
theorem R.strAdd {S : List Addr} (q : R κ Gd A r g σ H F) (n : ∀ b ∈ S, ¬ F.isS b) : StrR H (F.add S H) g := q.st.keep rfl (fun _ _ _ h => h) fun b hb => by
  rw [add_out fun z => n b z hb]
  exact q.st.off hb
/-- other slots, behind a freezing of what is slot i's -/
theorem R.owAdd {S : List Addr} {j : Nat} (q : R κ Gd A r g σ H F) (hi : r[i]? = some (some (d, true))) (hS : ∀ b ∈ S, b ∈ A i) (hj : r[j]? = some (some (e, true))) (ne : j ≠ i) :
    ∃ a, σ[j]? = some (some (.ref a)) ∧ Root κ H (F.add S H) a (A j) e ∧ ∀ b ∈ A j, Own Gd H (F.add S H) b := by
  obtain ⟨a, h1, h2⟩ := q.ow j e hj
  have n : ∀ b ∈ S, F.m b = none := fun b hb => (q.oa i d b hi (hS b hb)).f
  refine ⟨a, h1, h2.keep (fun _ _ _ h => h) (add_le n), fun b hb => ?_⟩
  obtain ⟨h3, h4, h5, h6⟩ := q.oa j e b hj hb
  exact ⟨by rw [add_out fun z => ne (q.sep j i e d b hj hi hb (hS b z))]; exact h3, h4, h5, h6⟩
theorem set_get {α : Type} {l : List α} {i j : Nat} {x : α} (h : j ≠ i) : (l.set i x)[j]? = l[j]? := List.getElem?_set_ne (Ne.symm h)
theorem set_self {α : Type} {l : List α} {i : Nat} {x y : α} (h : (l.set i x)[i]? = some y) : y = x := by
  by_cases z : i < l.length
  · rw [List.getElem?_set_self z] at h; exact (Option.some.inj h).symm
  · rw [List.getElem?_eq_none_iff.mpr (by rw [List.length_set]; omega)] at h; cases h
theorem R.frz1 (q : R κ Gd A r g σ H F) (hi : r[i]? = some (some (d, true))) : Grow Gd F (F.add (A i) H) ∧ R κ Gd A (r.set i (some (norm d, false))) g σ H (F.add (A i) H) ∧ ∃ v, σ[i]? = some (some v) ∧ Rep κ (F.add (A i) H) v (norm d) := by
  have n : ∀ b ∈ A i, F.m b = none := fun b hb => (q.oa i d b hi hb).f
  obtain ⟨a, h1, h2⟩ := q.ow i d hi
  have rp := h2.froze n
  refine ⟨add_grow n fun b hb => (q.oa i d b hi hb).g, ⟨q.gk, add_fk q.fk, q.strAdd fun b hb => (q.oa i d b hi hb).s, q.gs, q.gt, q.tb.le (add_le n) (fun _ _ _ z => z), by rw [List.length_set]; exact q.len, fun j e hj => ?_, fun j e hj => ?_, fun j e b hj hb => ?_, fun j l e f b hj hl m1 m2 => ?_⟩, _, h1, rp⟩
  · by_cases z : j = i
    · subst z
      have := set_self hj
      cases this
      exact ⟨_, h1, rp.srep⟩
    · rw [set_get z] at hj
      obtain ⟨v, h3, h4⟩ := q.sh j e hj
      exact ⟨v, h3, h4.le (add_le n)⟩
  · by_cases z : j = i
    · subst z
      have := set_self hj
      cases this
    · rw [set_get z] at hj
      obtain ⟨a, h3, h4, _⟩ := q.owAdd hi (fun _ h => h) hj z
      exact ⟨a, h3, h4⟩
  · by_cases z : j = i
    · subst z
      have := set_self hj
      cases this
    · rw [set_get z] at hj
      obtain ⟨_, _, _, h⟩ := q.owAdd hi (fun _ h => h) hj z
      exact h b hb
  · by_cases z : j = i
    · subst z
      have := set_self hj
      cases this
    · by_cases y : l = i
      · subst y
        have := set_self hl
        cases this
      · rw [set_get z] at hj
        rw [set_get y] at hl
        exact q.sep j l e f b hj hl m1 m2
theorem R.frz (q : R κ Gd A r g σ H F) (h : WW.look r i = some d) : ∃ F', Grow Gd F F' ∧ R κ Gd A (frz r i) g σ H F' ∧ ∃ v, σ[i]? = some (some v) ∧ Rep κ F' v (norm d) := by
  obtain ⟨f, h, np⟩ := of_look h
  cases f with
  | true =>
    have e : WW.frz r i = r.set i (some (norm d, false)) := by unfold WW.frz; rw [h]
    rw [e]
    exact ⟨_, q.frz1 h⟩
  | false =>
    obtain ⟨v, h1, h2⟩ := q.sh i d h
    have h2 := h2.rep np
    have e : WW.frz r i = r := by unfold WW.frz; rw [h]
    rw [e]
    refine ⟨F, .rfl, q, v, h1, ?_⟩
    cases d with
    | dcl l => cases h2
    | _ => exact h2
/-- slot i is another thing now, at the addresses A' i; the part that stays has grown by S, which were its own -/
theorem R.inn1 {l : List (D × List D)} (q : R κ Gd A r g σ H F) (hi : r[i]? = some (some (.dcl l, true))) : ∃ F' A', Grow Gd F F' ∧ R κ Gd A' (r.set i (some (norm (.dcl l), true))) g σ H F' ∧ A' i ≠ [] := by
  obtain ⟨a, h1, h2⟩ := q.ow i _ hi
  obtain ⟨es, bs, ea, nd, ha, p, w⟩ := id h2
  have sub : ∀ b ∈ bs, b ∈ A i := fun b hb => by rw [ea]; exact List.mem_cons_of_mem _ hb
  have n : ∀ b ∈ bs, F.m b = none := fun b hb => (q.oa i _ b hi (sub b hb)).f
  have na : a ∉ bs := (List.nodup_cons.mp (by rw [ea] at nd; exact nd)).1
  have oa := q.oa i _ a hi (by rw [ea]; simp)
  refine ⟨F.add bs H, fun j => if j = i then [a] else A j, add_grow n fun b hb => (q.oa i _ b hi (sub b hb)).g, ⟨q.gk, add_fk q.fk, q.strAdd fun b hb => (q.oa i _ b hi (sub b hb)).s, q.gs, q.gt, q.tb.le (add_le n) (fun _ _ _ z => z), by rw [List.length_set]; exact q.len, fun j e hj => ?_, fun j e hj => ?_, fun j e b hj hb => ?_, fun j l' e f b hj hl m1 m2 => ?_⟩, by simp⟩
  · by_cases z : j = i
    · subst z
      have := set_self hj
      cases this
    · rw [set_get z] at hj
      obtain ⟨v, h3, h4⟩ := q.sh j e hj
      exact ⟨v, h3, h4.le (add_le n)⟩
  · by_cases z : j = i
    · subst z
      have := set_self hj
      cases this
      refine ⟨a, h1, ?_⟩
      simp only [if_pos]
      exact ⟨rfl, es, ha, p.rep (add_le n) fun b hb => add_in hb, w⟩
    · rw [set_get z] at hj
      obtain ⟨a, h3, h4, _⟩ := q.owAdd hi sub hj z
      refine ⟨a, h3, ?_⟩
      simp only [if_neg z]
      exact h4
  · by_cases z : j = i
    · subst z
      simp only [if_pos, List.mem_singleton] at hb
      subst hb
      exact ⟨by rw [add_out na]; exact oa.f, oa.g, oa.s, oa.h⟩
    · rw [set_get z] at hj
      simp only [if_neg z] at hb
      obtain ⟨_, _, _, h⟩ := q.owAdd hi sub hj z
      exact h b hb
  · have back : ∀ (j : Nat) (e : D), (r.set i (some (norm (.dcl l), true)))[j]? = some (some (e, true)) → ∀ b, b ∈ (if j = i then [a] else A j) → ∃ e', r[j]? = some (some (e', true)) ∧ b ∈ A j := fun j e hj b hb => by
      by_cases z : j = i
      · subst z
        rw [if_pos rfl, List.mem_singleton] at hb
        exact ⟨_, hi, by rw [ea, hb]; simp⟩
      · rw [set_get z] at hj
        rw [if_neg z] at hb
        exact ⟨_, hj, hb⟩
    obtain ⟨e1, h3, h4⟩ := back j e hj b m1
    obtain ⟨e2, h5, h6⟩ := back l' f hl b m2
    exact q.sep j l' e1 e2 b h3 h5 h4 h6
theorem R.inn (q : R κ Gd A r g σ H F) (i : Nat) : ∃ F' A', Grow Gd F F' ∧ R κ Gd A' (inn r i) g σ H F' := by
  unfold WW.inn
  split
  · rename_i l h
    obtain ⟨F', A', h1, h2, _⟩ := q.inn1 h
    exact ⟨F', A', h1, h2⟩
  · exact ⟨F, A, .rfl, q⟩
theorem VR.mono {v : V} {f : Bool} (h : VR κ Gd A r H F v d f) (l : F.Le F') (hk : ∀ b, Own Gd H F b → (∀ (i : Nat) (e : D), r[i]? = some (some (e, true)) → b ∉ A i) → F'.m b = none) (s : F'.s = F.s) : VR κ Gd A r H F' v d f := by
  cases f with
  | false => exact Rep.le l h
  | true =>
    obtain ⟨a, e, rt, o, n, q⟩ := h
    exact ⟨a, e, rt.keep (fun _ _ _ h => h) l, ⟨hk a o q, o.g, fun z => o.s ((isS_of s).mp z), o.h⟩, n, q⟩
/-- a new thing, from now on shared -/
theorem VR.fix {v : V} {f : Bool} (h : VR κ Gd A r H F v d f) (q : R κ Gd A r g σ H F) : ∃ F', Grow Gd F F' ∧ R κ Gd A r g σ H F' ∧ Rep κ F' v d := by
  cases f with
  | false => exact ⟨F, .rfl, q, h⟩
  | true =>
    obtain ⟨a, rfl, rt, o, nd, sp⟩ := h
    have n : ∀ b ∈ [a], F.m b = none := fun b hb => by rw [List.mem_singleton.mp hb]; exact o.f
    have rp := rt.froze n
    rw [nd] at rp
    refine ⟨F.add [a] H, add_grow n fun b hb => by rw [List.mem_singleton.mp hb]; exact o.g, ⟨q.gk, add_fk q.fk, q.strAdd fun b hb => by rw [List.mem_singleton.mp hb]; exact o.s, q.gs, q.gt, q.tb.le (add_le n) (fun _ _ _ z => z), q.len, fun j e hj => ?_, fun j e hj => ?_, fun j e b hj hb => ?_, q.sep⟩, rp⟩
    · obtain ⟨v, h3, h4⟩ := q.sh j e hj
      exact ⟨v, h3, h4.le (add_le n)⟩
    · obtain ⟨v, h3, h4⟩ := q.ow j e hj
      exact ⟨v, h3, h4.keep (fun _ _ _ h => h) (add_le n)⟩
    · have w := q.oa j e b hj hb
      have nb : b ∉ [a] := fun z => by
        rw [List.mem_singleton] at z
        subst z
        exact sp j e hj hb
      exact ⟨by rw [add_out nb]; exact w.f, w.g, w.s, w.h⟩
/-- a slot is set -/
theorem R.put {v : V} {f : Bool} (q : R κ Gd A r g σ H F) (h : VR κ Gd A r H F v d f) (hi : i < r.length) : ∃ A', R κ Gd A' (r.set i (some (d, f))) g (σ.set i (some v)) H F ∧ (∀ j, j ≠ i → A' j = A j) ∧ (f = true → ∃ a, v = .ref a ∧ A' i = [a]) := by
  have hs : (σ.set i (some v))[i]? = some (some v) := List.getElem?_set_self (by rw [q.len]; exact hi)
  cases f with
  | false =>
    refine ⟨A, ⟨q.gk, q.fk, q.st, q.gs, q.gt, q.tb, by rw [List.length_set, List.length_set]; exact q.len, fun j e hj => ?_, fun j e hj => ?_, fun j e b hj hb => ?_, fun j l e f b hj hl m1 m2 => ?_⟩, fun _ _ => rfl, nofun⟩
    · by_cases z : j = i
      · subst z
        have := set_self hj
        cases this
        exact ⟨_, hs, Rep.srep h⟩
      · rw [set_get z] at hj ⊢
        exact q.sh j e hj
    · by_cases z : j = i
      · subst z
        have := set_self hj
        cases this
      · rw [set_get z] at hj ⊢
        exact q.ow j e hj
    · by_cases z : j = i
      · subst z
        have := set_self hj
        cases this
      · rw [set_get z] at hj
        exact q.oa j e b hj hb
    · by_cases z : j = i
      · subst z
        have := set_self hj
        cases this
      · by_cases y : l = i
        · subst y
          have := set_self hl
          cases this
        · rw [set_get z] at hj
          rw [set_get y] at hl
          exact q.sep j l e f b hj hl m1 m2
  | true =>
    obtain ⟨a, rfl, rt, o, nd, sp⟩ := h
    refine ⟨fun j => if j = i then [a] else A j, ⟨q.gk, q.fk, q.st, q.gs, q.gt, q.tb, by rw [List.length_set, List.length_set]; exact q.len, fun j e hj => ?_, fun j e hj => ?_, fun j e b hj hb => ?_, fun j l e f b hj hl m1 m2 => ?_⟩, fun j z => if_neg z, fun _ => ⟨a, rfl, if_pos rfl⟩⟩
    · by_cases z : j = i
      · subst z
        have := set_self hj
        cases this
      · rw [set_get z] at hj ⊢
        exact q.sh j e hj
    · by_cases z : j = i
      · subst z
        have := set_self hj
        cases this
        refine ⟨a, hs, ?_⟩
        simp only [if_pos]
        exact rt
      · rw [set_get z] at hj ⊢
        simp only [if_neg z]
        exact q.ow j e hj
    · by_cases z : j = i
      · subst z
        simp only [if_pos, List.mem_singleton] at hb
        rw [hb]
        exact o
      · rw [set_get z] at hj
        simp only [if_neg z] at hb
        exact q.oa j e b hj hb
    · by_cases z : j = i
      · subst z
        simp only [if_pos, List.mem_singleton] at m1
        subst m1
        by_cases y : l = j
        · exact y.symm
        · rw [set_get y] at hl
          simp only [if_neg y] at m2
          exact absurd m2 (sp l f hl)
      · rw [set_get z] at hj
        simp only [if_neg z] at m1
        by_cases y : l = i
        · subst y
          simp only [if_pos, List.mem_singleton] at m2
          subst m2
          exact absurd m1 (sp j e hj)
        · rw [set_get y] at hl
          simp only [if_neg y] at m2
          exact q.sep j l e f b hj hl m1 m2
theorem R.tabOff (q : R κ Gd A r g σ H F) {t : Addr × (Nat → Nat → Str)} (ht : t ∈ κ.tabs) (ow : Own Gd H F t.1) : False := by
  obtain ⟨ps, h1, _⟩ := q.tb t ht
  obtain ⟨o, h2, h3⟩ := ow.h
  rw [h1] at h2
  exact h3 ps (Option.some.inj h2).symm
/-- slot i's own thing is changed in place -/
theorem R.mutX (q : R κ Gd A r g σ H F) (hi : r[i]? = some (some (d, true))) (keep : ∀ b o, b ∉ A i → H b = some o → H' b = some o) (hs : σ[i]? = some (some (.ref a))) (rt : Root κ H' F a as e)
    (new : ∀ b ∈ as, (b ∈ A i ∨ H b = none) ∧ ∃ o, H' b = some o ∧ ∀ ps, o ≠ .tbl ps) : R κ Gd (fun j => if j = i then as else A j) (r.set i (some (e, true))) g σ H' F := by
  have off : ∀ b, F.m b ≠ none → b ∉ A i := fun b h z => h (q.oa i d b hi z).f
  have offg : ∀ b, Gd b ≠ none → b ∉ A i := fun b h z => h (q.oa i d b hi z).g
  refine ⟨fun b o h => keep b o (offg b (by rw [h]; simp)) (q.gk b o h), fun b o h => keep b o (off b (by rw [h]; simp)) (q.fk b o h),
    q.st.keep rfl (fun b hb o h => keep b o (fun z => (q.oa i d b hi z).s hb) h) (fun b hb => q.st.off hb), q.gs, q.gt, q.tb.le .rfl (fun t ht o z => keep t.1 o (fun m => q.tabOff ht (q.oa i d _ hi m)) z), by rw [List.length_set]; exact q.len, fun j e hj => ?_, fun j e hj => ?_, fun j e b hj hb => ?_, fun j l e f b hj hl m1 m2 => ?_⟩
  · by_cases z : j = i
    · subst z
      have := set_self hj
      cases this
    · rw [set_get z] at hj
      exact q.sh j e hj
  · by_cases z : j = i
    · subst z
      have := set_self hj
      cases this
      refine ⟨a, hs, ?_⟩
      simp only [if_pos]
      exact rt
    · rw [set_get z] at hj
      simp only [if_neg z]
      obtain ⟨a, h1, h2⟩ := q.ow j e hj
      exact ⟨a, h1, h2.keep (fun b hb o h => keep b o (fun y => z (q.sep j i e d b hj hi hb y)) h) .rfl⟩
  · by_cases z : j = i
    · subst z
      simp only [if_pos] at hb
      obtain ⟨n, h'⟩ := new b hb
      rcases n with n | n
      · have w := q.oa j d b hi n
        exact ⟨w.f, w.g, w.s, h'⟩
      · refine ⟨?_, ?_, fun z => ?_, h'⟩
        · cases y : F.m b with
          | none => rfl
          | some o => exact absurd (q.fk _ _ y) (by rw [n]; simp)
        · cases y : Gd b with
          | none => rfl
          | some o => exact absurd (q.gk _ _ y) (by rw [n]; simp)
        · obtain ⟨o, e⟩ := q.st.there z
          rw [n] at e; cases e
    · rw [set_get z] at hj
      simp only [if_neg z] at hb
      have w := q.oa j e b hj hb
      obtain ⟨o, ho, nt⟩ := w.h
      exact ⟨w.f, w.g, w.s, o, keep b o (fun y => z (q.sep j i e d b hj hi hb y)) ho, nt⟩
  · have fresh : ∀ (k : Nat) (x : D), k ≠ i → r[k]? = some (some (x, true)) → b ∈ as → b ∈ A k → False := fun k x z hk h1 h2 => by
      rcases (new b h1).1 with n | n
      · exact z (q.sep k i x d b hk hi h2 n)
      · obtain ⟨o, ho, _⟩ := (q.oa k x b hk h2).h
        rw [n] at ho; cases ho
    by_cases z : j = i
    · subst z
      by_cases y : l = j
      · exact y.symm
      · rw [set_get y] at hl
        simp only [if_neg y, if_pos] at m1 m2
        exact (fresh l f y hl m1 m2).elim
    · rw [set_get z] at hj
      simp only [if_neg z] at m1
      by_cases y : l = i
      · subst y
        simp only [if_pos] at m2
        exact (fresh j e z hj m2 m1).elim
      · rw [set_get y] at hl
        simp only [if_neg y] at m2
        exact q.sep j l e f b hj hl m1 m2
theorem R.mut (q : R κ Gd A r g σ H F) (hi : r[i]? = some (some (d, true))) (keep : ∀ b o, b ∉ A i → H b = some o → H' b = some o) (hs : σ[i]? = some (some (.ref a))) (rt : Root κ H' F a as e)
    (new : ∀ b ∈ as, (b ∈ A i ∨ H b = none) ∧ ∃ o, H' b = some o ∧ ∀ ps, o ≠ .tbl ps) : ∃ A', R κ Gd A' (r.set i (some (e, true))) g σ H' F := ⟨_, q.mutX hi keep hs rt new⟩
theorem R.mutL {l : List D} (q : R κ Gd A r g σ H F) (hi : r[i]? = some (some (.lst l, true))) : ∃ a xs, σ[i]? = some (some (.ref a)) ∧ H a = some (.lst xs) ∧ RepL κ F xs l ∧ A i = [a] ∧ ∀ ys m, RepL κ F ys m → ∃ A', R κ Gd A' (r.set i (some (.lst m, true))) g σ (upd H a (.lst ys)) F := by
  obtain ⟨a, h1, h2, xs, h3, h4⟩ := q.ow i _ hi
  refine ⟨a, xs, h1, h3, h4, h2, fun ys m hm => q.mut hi (fun b o n h => ?_) h1 (as := [a]) ⟨rfl, ys, upd_same, hm⟩ fun b hb => ?_⟩
  · rw [h2, List.mem_singleton] at n
    rw [upd_ne n]; exact h
  · rw [h2, List.mem_singleton.mp hb]
    exact ⟨.inl (by simp), _, upd_same, fun _ z => nomatch z⟩
theorem R.mutD {l : List (D × D)} (q : R κ Gd A r g σ H F) (hi : r[i]? = some (some (.dct l, true))) : ∃ a es, σ[i]? = some (some (.ref a)) ∧ H a = some (DicO a es) ∧ RepD κ F es.1 l ∧ DWf l ∧ A i = [a] ∧ ∀ ys m, RepD κ F ys.1 m → DWf m → ∃ A', R κ Gd A' (r.set i (some (.dct m, true))) g σ (upd H a (DicO a ys)) F := by
  obtain ⟨a, h1, h2, xs, h3, h4, h5⟩ := q.ow i _ hi
  refine ⟨a, xs, h1, h3, h4, h5, h2, fun ys m hm wm => q.mut hi (fun b o n h => ?_) h1 (as := [a]) ⟨rfl, ys, upd_same, hm, wm⟩ fun b hb => ?_⟩
  · rw [h2, List.mem_singleton] at n
    rw [upd_ne n]; exact h
  · rw [h2, List.mem_singleton.mp hb]
    exact ⟨.inl (by simp), _, upd_same, fun _ z => by unfold DicO at z; cases z⟩
/-- a new thing is guarded while others are made -/
theorem R.guard {v : V} (q : R κ Gd A r g σ H F) (h : VR κ Gd A r H F v d true) : ∃ a o, v = .ref a ∧ H a = some o ∧ Gd a = none ∧ R κ (upd Gd a o) A r g σ H F ∧
    ∀ A' r' g' σ' H' F', Grow (upd Gd a o) F F' → R κ (upd Gd a o) A' r' g' σ' H' F' → Grow Gd F F' ∧ R κ Gd A' r' g' σ' H' F' ∧ VR κ Gd A' r' H' F' v d true := by
  obtain ⟨a, rfl, rt, ow, nd, sp⟩ := h
  obtain ⟨o, ho, nt⟩ := ow.h
  have tne : ∀ t ∈ κ.tabs, t.1 ≠ a := fun t ht e => q.tabOff ht (by rw [e]; exact ow)
  refine ⟨a, o, rfl, ho, ow.g, ⟨fun b u h => ?_, q.fk, q.st, fun b hb => ?_, fun t ht => ?_, q.tb, q.len, q.sh, q.ow, fun j e b hj hb => ?_, q.sep⟩, fun A' r' g' σ' H' F' gr p => ⟨⟨gr.le, gr.c, fun b hb => gr.gd b ?_⟩, ⟨fun b u h => p.gk b u ?_, p.fk, p.st, fun b hb => ?_, fun t ht => ?_, p.tb, p.len, p.sh, p.ow, fun j e b hj hb => ?_, p.sep⟩, a, rfl, ?_, ?_, nd, fun j e hj hb => ?_⟩⟩
  · by_cases z : b = a
    · subst z; rw [upd_same] at h; cases h; exact ho
    · rw [upd_ne z] at h; exact q.gk b u h
  · rw [upd_ne fun (z : b = a) => ow.s (by rw [← z]; exact hb)]
    exact q.gs b hb
  · rw [upd_ne (tne t ht)]; exact q.gt t ht
  · have w := q.oa j e b hj hb
    refine ⟨w.f, ?_, w.s, w.h⟩
    rw [upd_ne fun (z : b = a) => sp j e hj (by rw [← z]; exact hb)]
    exact w.g
  · by_cases z : b = a
    · subst z; rw [upd_same]; simp
    · rw [upd_ne z]; exact hb
  · by_cases z : b = a
    · subst z; rw [ow.g] at h; cases h
    · rw [upd_ne z]; exact h
  · have := p.gs b hb
    by_cases z : b = a
    · subst z; exact ow.g
    · rw [upd_ne z] at this; exact this
  · have y := p.gt t ht
    rw [upd_ne (tne t ht)] at y; exact y
  · have w := p.oa j e b hj hb
    refine ⟨w.f, ?_, w.s, w.h⟩
    by_cases z : b = a
    · subst z; exact ow.g
    · have := w.g; rw [upd_ne z] at this; exact this
  · refine rt.keep (fun b hb u hu => ?_) gr.le
    rw [List.mem_singleton] at hb
    subst hb
    rw [ho] at hu
    cases hu
    exact p.gk _ _ upd_same
  · have e : F'.m a = F.m a := gr.gd a (by rw [upd_same]; simp)
    refine ⟨e.trans ow.f, ow.g, fun z => ?_, o, p.gk _ _ upd_same, nt⟩
    have := p.gs a z
    rw [upd_same] at this
    cases this
  · have := (p.oa j e a hj hb).g
    rw [upd_same] at this
    cases this
/-- a thing that nothing else holds is changed in place -/
theorem R.poke {o : HO} (q : R κ Gd A r g σ H F) (ow : Own Gd H F a) (sp : ∀ (i : Nat) (e : D), r[i]? = some (some (e, true)) → a ∉ A i) : R κ Gd A r g σ (upd H a o) F := by
  have keep : ∀ b u, b ≠ a → H b = some u → upd H a o b = some u := fun b u ne z => by rw [upd_ne ne]; exact z
  refine ⟨fun b u z => keep b u (fun y => by rw [y, ow.g] at z; cases z) (q.gk b u z), fun b u z => keep b u (fun y => by rw [y, ow.f] at z; cases z) (q.fk b u z), q.st.keep rfl (fun b hb u z => keep b u (fun y => ow.s (by rw [← y]; exact hb)) z) (fun b hb => q.st.off hb), q.gs, q.gt, q.tb.le .rfl (fun t ht u z => keep t.1 u (fun y => q.tabOff ht (by rw [y]; exact ow)) z), q.len, q.sh, fun i d hi => ?_, fun i d b hi hb => ?_, q.sep⟩
  · obtain ⟨v, z1, z2⟩ := q.ow i d hi
    exact ⟨v, z1, z2.keep (fun b hb u z => keep b u (fun y => sp i d hi (by rw [← y]; exact hb)) z) .rfl⟩
  · have w := q.oa i d b hi hb
    obtain ⟨u, z, nt⟩ := w.h
    exact ⟨w.f, w.g, w.s, u, keep b u (fun y => sp i d hi (by rw [← y]; exact hb)) z, nt⟩
theorem dicNt {a : Addr} {es : DS} : ∀ ps, DicO a es ≠ .tbl ps := fun _ z => by unfold DicO at z; cases z
end
end WW
end
section
/-! expressions: what they compute is what the evaluator tells -/
namespace WW
open PySem PySem.Spec PyProof.Rows L2

/-- a result at the end of an expression -/
def TV (κ : Ctx) (Gd : Hp) (A : Nat → List Addr) (r : Env) (σ : L2.St) (H : Hp) (F : Fz) (v : V) (f : Bool) : Sum Nat D → Prop
  | .inl i => σ[i]? = some (some v)
  | .inr d => VR κ Gd A r H F v d f
/-- an operand that was read: the slot, or a value from now on shared -/
def TO_ (κ : Ctx) (σ : L2.St) (F : Fz) (v : V) : Sum Nat D → Prop
  | .inl i => σ[i]? = some (some v)
  | .inr d => Rep κ F v d
def tV (κ : Ctx) (C : Cl) (e : E) : TE := fun σ H Q => ∃ (Gd : Hp) (A : Nat → List Addr) (r : Env) (g : G) (F : Fz) (t : Sum Nat D) (f : Bool) (st : St),
  R κ Gd A r g σ H F ∧ ev C e ⟨r, g⟩ = some (t, f, st) ∧ ∀ v H' F' A', Grow Gd F F' → R κ Gd A' st.r st.g σ H' F' → TV κ Gd A' st.r σ H' F' v f t → Q v H'
def tEs (κ : Ctx) (C : Cl) (es : List E) : TA := fun σ H Q => ∃ (Gd : Hp) (A : Nat → List Addr) (r : Env) (g : G) (F : Fz) (ds : List D) (st : St),
  R κ Gd A r g σ H F ∧ evs C es ⟨r, g⟩ = some (ds, st) ∧ ∀ vs H' F' A', Grow Gd F F' → R κ Gd A' st.r st.g σ H' F' → RepL κ F' vs ds → Q vs H'
theorem _root_.L2.PE.imp {X : Cx} {e : Expr} {t t' : TE} (h : PE X e t) (i : ∀ σ H Q, t' σ H Q → t σ H Q) : PE X e t' := ⟨fun pins s σ H Q I q => h.run pins s σ H Q I (i _ _ _ q)⟩
theorem _root_.L2.PA.imp {X : Cx} {e : List Expr} {t t' : TA} (h : PA X e t) (i : ∀ σ H Q, t' σ H Q → t σ H Q) : PA X e t' := ⟨fun p pins s σ H Q I q => h.run p pins s σ H Q I (i _ _ _ q)⟩
theorem _root_.L2.PS.imp {X : Cx} {e : Stmt} {t t' : TS} (h : PS X e t) (i : ∀ D σ H, t' D σ H → t D σ H) : PS X e t' := ⟨fun pins s σ H D I q => h.run pins s σ H D I (i _ _ _ q)⟩

section
variable {κ : Ctx} {C : Cl} {Gd : Hp} {A : Nat → List Addr} {r : Env} {g : G} {σ : L2.St} {H : Hp} {F : Fz} {Q : VK}
theorem VR.le {Gd : Hp} {A : Nat → List Addr} {r : Env} {H : Hp} {F : Fz} {v : V} {d : D} (h : Rep κ F v d) : VR κ Gd A r H F v d false := h
/-- an operand: read, from now on shared -/
theorem tV.op {e : E} {t : Sum Nat D} {f : Bool} {st : St} (q : R κ Gd A r g σ H F) (h : ev C e ⟨r, g⟩ = some (t, f, st))
    (k : ∀ v H' F' A', Grow Gd F F' → R κ Gd A' st.r st.g σ H' F' → TO_ κ σ F' v t → Q v H') : tV κ C e σ H Q := by
  refine ⟨Gd, A, r, g, F, t, f, st, q, h, fun v H' F' A' gr p tv => ?_⟩
  cases t with
  | inl i => exact k v H' F' A' gr p tv
  | inr d =>
    obtain ⟨F2, g2, p2, rp⟩ := VR.fix tv p
    exact k v H' F2 A' (gr.trans g2) p2 rp
theorem rsl_ro {v : V} {d : D} {F0 : Fz} (q : R κ Gd A r g σ H F) : ∀ {t : Sum Nat D}, TO_ κ σ F0 v t → F0.Le F → rsl r t = some d → RO κ H F v d
  | .inl i, h, _, e => by
    obtain ⟨w, h1, h2⟩ := q.look e
    rw [show σ[i]? = some (some v) from h] at h1
    cases h1
    exact h2
  | .inr d, h, l, e => by
    cases e
    exact .inl (Rep.le l h)
theorem TO_.le {v : V} {F' : Fz} (l : F.Le F') : ∀ {t : Sum Nat D}, TO_ κ σ F v t → TO_ κ σ F' v t
  | .inl _, h => h
  | .inr _, h => Rep.le l h
/-- the end of an operation -/
theorem fin_op {z : D} {f : Bool} {F0 : Fz} (q : R κ Gd A r g σ H F) (gr : Grow Gd F0 F) {K : V → Hp → Prop} (k : ∀ v H' F' A', Grow Gd F0 F' → R κ Gd A' r g σ H' F' → TV κ Gd A' r σ H' F' v f (.inr z) → K v H') :
    ∀ v H' F', Pure H F H' F' → VP κ H H' F' v z f → K v H' := fun v H' F' p vp => k v H' F' A (gr.trans (p.grow q.gk)) (p.keepR q) (p.vr q vp)
theorem op2 {o : B} {a b : E} (h : tV κ C (.b o a b) σ H Q) : tOp (rB κ (bF o)) (tV κ C a) (tV κ C b) σ H Q := by
  obtain ⟨Gd, A, r, g, F, t, f, st, q, h, k⟩ := h
  simp only [ev, Option.bind_eq_some_iff, Option.map_eq_some_iff, ok] at h
  obtain ⟨⟨t1, f1, s1⟩, h1, ⟨t2, f2, s2⟩, h2, d, h3, e, h4, ⟨z, f'⟩, h5, h6⟩ := h
  cases h6
  refine tV.op q h1 fun v1 H1 F1 A1 g1 q1 o1 => tV.op q1 h2 fun v2 H2 F2 A2 g2 q2 o2 => ?_
  refine ⟨F2, d, e, z, _, q2.fk, rsl_ro q2 o1 g2.le h3, rsl_ro q2 o2 .rfl h4, h5, fin_op q2 (g1.trans g2) k⟩
theorem op1 {o : U} {a : E} (h : tV κ C (.u o a) σ H Q) : tUn (rU κ (uF o)) (tV κ C a) σ H Q := by
  obtain ⟨Gd, A, r, g, F, t, f, st, q, h, k⟩ := h
  simp only [ev, Option.bind_eq_some_iff, Option.map_eq_some_iff, ok] at h
  obtain ⟨⟨t1, f1, s1⟩, h1, d, h3, ⟨z, f'⟩, h5, h6⟩ := h
  cases h6
  refine tV.op q h1 fun v1 H1 F1 A1 g1 q1 o1 => ?_
  exact ⟨F1, d, z, _, q1.fk, rsl_ro q1 o1 .rfl h3, h5, fin_op q1 g1 k⟩
/-- toE: a value -/
theorem toE_some {e : Option (Sum Nat D × Bool × St)} {d : D} {f : Bool} {s : St} (h : toE e = some (d, f, s)) : e = some (.inr d, f, s) := by
  cases e with
  | none => cases h
  | some p =>
    obtain ⟨t, f', s'⟩ := p
    cases t with
    | inl i => cases h
    | inr d' => simp only [toE, Option.some.injEq, Prod.mk.injEq] at h; obtain ⟨rfl, rfl, rfl⟩ := h; rfl
theorem tEs.nil (h : tEs κ C [] σ H Q') : tNil σ H Q' := by
  obtain ⟨Gd, A, r, g, F, ds, st, q, h, k⟩ := h
  cases h
  exact k [] H F A .rfl q .nil
theorem tEs.cons {e : E} {es : List E} {Q' : List V → Hp → Prop} (h : tEs κ C (e :: es) σ H Q') : tCons (tV κ C e) (tEs κ C es) σ H Q' := by
  obtain ⟨Gd, A, r, g, F, ds, st, q, h, k⟩ := h
  simp only [evs, Option.bind_eq_some_iff, Option.map_eq_some_iff] at h
  obtain ⟨⟨d, f, s1⟩, h1, ⟨ds', s2⟩, h2, h3⟩ := h
  cases h3
  refine tV.op q (toE_some h1) fun v H1 F1 A1 g1 q1 o1 => ⟨Gd, A1, s1.r, s1.g, F1, ds', _, q1, h2, fun vs H2 F2 A2 g2 q2 rl => k _ H2 F2 A2 (g1.trans g2) q2 (.cons (Rep.le g2.le o1) rl)⟩
end

/-! ### what an expression is not -/
def nStar : Expr → Bool
  | .Starred _ _ => false
  | _ => true
theorem starEach_cons {e : Expr} (h : nStar e = true) (es : List Expr) (env : PySem.Env) : starEach (e :: es) env = (false, eval e env) :: starEach es env := by
  cases e <;> first | rfl | simp [nStar] at h
end WW
end
section
set_option maxHeartbeats 1000000
/-! more operations: isinstance, list, dict, sorted -/
namespace WW
open PySem PySem.Spec PyProof.Rows L2

/-! ### isinstance -/
def Ty.nm : Ty → String
  | .int => "int" | .bool => "bool" | .str => "str" | .list => "list" | .tuple => "tuple" | .dict => "dict"
def tyS : D → Option String
  | .non => some "NoneType" | .bl _ => some "bool" | .int _ => some "int" | .str _ => some "str" | .tup _ => some "tuple" | .lst _ => some "list" | .dct _ => some "dict"
  | _ => none
theorem isTy_kit {d : D} {t : Ty} {b : Bool} (h : isTy d t = some b) : ∃ n, tyS d = some n ∧ kitB n t.nm = some b := by
  cases d with
  | non => cases t <;> (cases h; exact ⟨_, rfl, by decide +kernel⟩)
  | bl c => cases t <;> (cases h; exact ⟨_, rfl, by decide +kernel⟩)
  | int i => cases t <;> (cases h; exact ⟨_, rfl, by decide +kernel⟩)
  | str i => cases t <;> (cases h; exact ⟨_, rfl, by decide +kernel⟩)
  | tup i => cases t <;> (cases h; exact ⟨_, rfl, by decide +kernel⟩)
  | lst i => cases t <;> (cases h; exact ⟨_, rfl, by decide +kernel⟩)
  | dct i => cases t <;> (cases h; exact ⟨_, rfl, by decide +kernel⟩)
  | _ => cases h
section
variable {κ : Ctx} {X : Cx} {pins : List (Addr × Obj)} {σ : L2.St} {H : Hp} {s : Shared} {F : Fz}
theorem kit_D (hK : X.K = κ.K) (I : Inv X pins σ H s) (k : Fk F H) {x : V} {u : Value} {d : D} {n : String} (hx : RO κ H F x d) (rx : RelV x u) (hn : tyS d = some n) :
    ∃ P : Heap → Prop, PySem.W.KitX X.K u (.type n) P ∧ P s.heap ∧ u ≠ .builtin "__main__.__loader__#opaque" := by
  cases d with
  | non => cases hn; have e := hx.non; subst e; cases (show u = Value.none from rx); exact ⟨_, PySem.W.kitx_none, True.intro, fun z => nomatch z⟩
  | bl b => cases hn; have e := hx.bl; subst e; cases (show u = Value.bool _ from rx); exact ⟨_, PySem.W.kitx_bool, True.intro, fun z => nomatch z⟩
  | int b => cases hn; have e := hx.int; subst e; obtain ⟨t, q⟩ := (show ∃ t, u = Value.int _ t from rx); cases q; exact ⟨_, PySem.W.kitx_int, True.intro, fun z => nomatch z⟩
  | str b => cases hn; have e := hx.str; subst e; obtain ⟨t, q⟩ := (show ∃ t, u = Value.str _ t from rx); cases q; exact ⟨_, PySem.W.kitx_str, True.intro, fun z => nomatch z⟩
  | tup l =>
    cases hn
    obtain ⟨a, xs, rfl, h1, _, _⟩ := hx.tup k
    cases (show u = Value.ref a from rx)
    rw [← hK] at h1
    obtain ⟨its, _, ⟨o, h2, h3, _⟩, _⟩ := I.tuple h1
    exact ⟨_, PySem.W.kitx_tuple, ⟨o, h2, h3⟩, fun z => nomatch z⟩
  | lst l =>
    cases hn
    obtain ⟨a, xs, rfl, h1, _⟩ := hx.lst k
    cases (show u = Value.ref a from rx)
    obtain ⟨_, _, n, _, h2⟩ := (show ObjOk X.prog X.w H s.heap a (.lst xs) from I.hok a _ h1)
    exact ⟨_, PySem.W.kitx_list, ⟨_, h2, rfl⟩, fun z => nomatch z⟩
  | dct l =>
    cases hn
    obtain ⟨a, es, rfl, h1, r1, _⟩ := hx.dct k
    cases (show u = Value.ref a from rx)
    obtain ⟨_, _, _, _, o, h3, h4, _⟩ := dic_full I h1 r1
    exact ⟨_, PySem.W.kitx_dict, ⟨o, h3, h4.1⟩, fun z => nomatch z⟩
  | _ => cases hn
theorem kitAny_ts {K : PySem.W.Frag} {n : String} {d : D} (hn : tyS d = some n) : ∀ {ts : List Ty} {bs : List Bool}, ts.mapM (isTy d) = some bs → PySem.W.kitAny K (.type n) (ts.map fun t => Value.type t.nm) = some (bs.any id)
  | [], bs, h => by cases h; rfl
  | t :: ts, bs, h => by
    rw [List.mapM_cons] at h
    simp only [bind, Option.bind_eq_some_iff, pure, Option.some.injEq] at h
    obtain ⟨b, h1, cs, h2, rfl⟩ := h
    obtain ⟨m, e1, e2⟩ := isTy_kit h1
    rw [hn] at e1
    cases e1
    refine kitAny_cons (kit_ty e2) (fun hb => ?_) fun hb => ?_
    · rw [kitAny_ts hn h2, hb]; rfl
    · rw [hb]; rfl
/-- the second word: a type, or a tuple of types just laid -/
def rIs (κ : Ctx) (ts : List Ty) : List V → Hp → VK → Prop := fun xs H Q => ∃ x c F d z f, xs = [x, c] ∧ Fk F H ∧ RO κ H F x d ∧ uF (.isi ts) d = some (z, f) ∧
  ((∃ t, ts = [t] ∧ c = .ty t.nm) ∨ ∃ tp, c = .ref tp ∧ H tp = some (.tup (ts.map fun t => V.ty t.nm))) ∧ ∀ v H' F', Pure H F H' F' → VP κ H H' F' v z f → Q v H'
theorem vals_tys {ts : List Ty} : ∀ {us : List Value}, Vals (ts.map fun t => V.ty t.nm) us → us = ts.map fun t => Value.type t.nm := by
  induction ts with
  | nil => intro us r; cases r; rfl
  | cons t ts ih =>
    intro us r
    rw [List.map_cons] at r
    cases r with
    | cons r1 r2 => rw [List.map_cons, ← ih r2, show _ = Value.type t.nm from r1]
theorem c_isi (hK : X.K = κ.K) {ts : List Ty} : CallR X (.builtin "isinstance") (rIs κ ts) := by
  intro pins s σ H xs us Q I r h
  obtain ⟨x, c, F, d, z, f, rfl, k, hx, hg, hc, q⟩ := h
  obtain ⟨u1, u2, rfl, r1, r2⟩ := vals2 r
  simp only [uF] at hg
  split at hg
  · cases hg
  rename_i hts
  simp only [Option.map_eq_some_iff] at hg
  obtain ⟨bs, hb, e1⟩ := hg
  cases e1
  have fin : ∀ tk, EP X pins σ Q (.bool (bs.any id)) { s with toks := tk } := fun tk => ⟨.bl _, H, I.tok tk, rfl, fin_val k (.bl _) q⟩
  cases ts with
  | nil => exact absurd rfl hts
  | cons t ts =>
    have hb' := hb
    rw [List.mapM_cons] at hb'
    simp only [bind, Option.bind_eq_some_iff, pure, Option.some.injEq] at hb'
    obtain ⟨b, h1, cs, h2, e2⟩ := hb'
    obtain ⟨n, hn, hk⟩ := isTy_kit h1
    obtain ⟨P, Z, p, hx'⟩ := kit_D hK I k hx r1 hn
    rcases hc with ⟨t', e, rfl⟩ | ⟨tp, rfl, hT⟩
    · cases e
      cases h2
      have e3 : bs.any id = b := by rw [← e2]; simp
      rw [e3] at fin
      cases (show u2 = Value.type _ from r2)
      exact PySem.W.kia_one Z I.kIn p (kit_ty hk) hx' fin
    · cases (show u2 = Value.ref tp from r2)
      obtain ⟨_, its, rv, o, h1, h2, n, h3⟩ := (show ObjOk X.prog X.w H s.heap tp (.tup _) from I.hok tp _ hT)
      have e4 := vals_tys rv
      subst e4
      obtain ⟨oc, od, dt, sl⟩ := o
      simp only at h2 h3
      subst h2 h3
      exact PySem.W.kia_tup Z I.kIn p h1 (kitAny_ts hn hb) hx' fin

/-! ### lists made of things -/
theorem keys_vals {es : List (Int × V × V)} {ents : List DictEntry} (e : EntR es ents) : Vals (es.map fun p => p.2.1) (ents.map (·.key)) := by
  induction e with
  | nil => exact .nil
  | cons h _ ih => exact .cons h.2.1 ih
theorem vals_vals {es : List (Int × V × V)} {ents : List DictEntry} (e : EntR es ents) : Vals (es.map fun p => p.2.2) (ents.map (·.val)) := by
  induction e with
  | nil => exact .nil
  | cons h _ ih => exact .cons h.2.2 ih
theorem RepD.keys : ∀ {es : List (Int × V × V)} {l : List (D × D)}, RepD κ F es l → RepL κ F (es.map fun p => p.2.1) (l.map (·.1))
  | _, _, .nil => .nil
  | _, _, .cons a _ t => .cons a t.keys
theorem RepD.vals : ∀ {es : List (Int × V × V)} {l : List (D × D)}, RepD κ F es l → RepL κ F (es.map fun p => p.2.2) (l.map (·.2))
  | _, _, .nil => .nil
  | _, _, .cons _ b t => .cons b t.vals
theorem items_eq {P : Nat → Value → Prop} {acc : Array Value} {us : List Value} (h : ItemsOf P acc us.length) (hp : ∀ i v, P i v → us[i]? = some v) : acc.toList = us := by
  refine List.ext_getElem? fun i => ?_
  by_cases hi : i < acc.size
  · have e : acc[i]? = some acc[i] := Array.getElem?_eq_getElem hi
    rw [Array.getElem?_toList, e, hp i _ (h.2 i _ e)]
  · rw [List.getElem?_eq_none_iff.mpr (by rw [Array.length_toList]; omega), List.getElem?_eq_none_iff.mpr (by have := h.1; omega)]
theorem raw_keys {ents : Array DictEntry} {i : Nat} {v : Value} (h : ∃ hi : i < ents.size, v = ents[i].key) : (ents.toList.map (·.key))[i]? = some v := by
  obtain ⟨hi, rfl⟩ := h
  rw [List.getElem?_map, Array.getElem?_toList, Array.getElem?_eq_getElem hi]
  rfl
theorem c_list_dic (hK : X.K = κ.K) (hc : X.calm = true) : CallR X (.type "list") (fun xs H Q => ∃ a F es l, xs = [.ref a] ∧ Fk F H ∧ H a = some (DicO a es) ∧ RepD κ F es.1 l ∧ ∀ p, H p = none → Q (.ref p) (upd H p (.lst (es.1.map fun q => q.2.1)))) := by
  intro pins s σ H xs us Q I r h
  obtain ⟨a, F, es, l, rfl, k, ha, q, hQ⟩ := h
  obtain ⟨u, rfl, rx⟩ := vals1 r
  cases rx
  obtain ⟨hS, hl, ents, ep, o, h3, h4, h5, h6, h7⟩ := dic_full I ha q
  have raw : s.heap.DictRaw a ents ep := ⟨o, h3, h4, h5⟩
  have hlen := q.length
  refine PySem.W.kdl_call (PySem.KdlSrc.rawDict hS) (I.ok.hd hc) raw (by omega) fun h' tk acc' c' hkeep hSz hacc => ?_
  have e := items_eq (us := ents.toList.map (·.key)) (by rw [List.length_map, Array.length_toList]; exact hacc) fun i v z => raw_keys z
  refine ⟨.ref s.heap.objs.size, _, I.laid hkeep (Nat.le_refl _) (show ObjOk X.prog X.w _ _ _ (.lst (es.1.map fun q => q.2.1)) from ⟨by rw [List.length_map]; exact hl, acc'.toList, c', ?_, ?_⟩), rfl, hQ _ (I.hok.fresh (Nat.le_refl _))⟩
  · rw [e]; exact keys_vals h6
  · rw [Array.toArray_toList]; exact hSz
theorem c_list (hK : X.K = κ.K) (hc : X.calm = true) : CallR X (.type "list") (rC κ (uF .list)) := by
  refine CallR.imp (call_list_of.or (c_list_dic (κ := κ) hK hc)) fun xs H Q h => ?_
  rw [hK]
  obtain ⟨x, rfl, F, d, z, f, k, hx, hg, q⟩ := h
  simp only [uF, Option.bind_eq_some_iff] at hg
  obtain ⟨l, hl, hg⟩ := hg
  split at hg
  · cases hg
    cases d with
    | lst l' =>
      cases hl
      obtain ⟨a, xs, rfl, h1, r1⟩ := hx.lst k
      exact .inl ⟨a, xs, rfl, .inl (.inl (.inl h1)), fin_lst k r1 q⟩
    | tup l' =>
      cases hl
      obtain ⟨a, xs, rfl, h1, _, r1⟩ := hx.tup k
      exact .inl ⟨a, xs, rfl, .inr h1, fin_lst k r1 q⟩
    | dct l' =>
      cases hl
      obtain ⟨a, es, rfl, h1, r1, _⟩ := hx.dct k
      exact .inr ⟨a, F, es, l', rfl, k, h1, r1, fin_lst k r1.keys q⟩
    | _ => cases hl
  · cases hg

/-! ### sorted -/
def encP : PyData × D → PyData := (·.1)
theorem insS_perm (x : Int) : ∀ l : List Int, (insS x l).Perm (x :: l)
  | [] => .refl _
  | y :: r => by
    unfold insS
    split
    · exact .refl _
    · exact ((insS_perm x r).cons y).trans (.swap ..)
theorem isortI_perm : ∀ l : List Int, (isortI l).Perm l
  | [] => .refl _
  | x :: r => (insS_perm x _).trans ((isortI_perm r).cons x)
theorem insS_pw (x : Int) : ∀ l : List Int, l.Pairwise (· ≤ ·) → (insS x l).Pairwise (· ≤ ·)
  | [], _ => by simp [insS]
  | y :: r, h => by
    unfold insS
    have h' := List.pairwise_cons.mp h
    split
    · rename_i hx
      refine List.pairwise_cons.mpr ⟨fun z hz => ?_, h⟩
      rcases List.mem_cons.mp hz with e | e
      · omega
      · have := h'.1 z e; omega
    · rename_i hx
      refine List.pairwise_cons.mpr ⟨fun z hz => ?_, insS_pw x r h'.2⟩
      rcases List.mem_cons.mp ((insS_perm x r).mem_iff.mp hz) with e | e
      · omega
      · exact h'.1 z e
theorem isortI_pw : ∀ l : List Int, (isortI l).Pairwise (· ≤ ·)
  | [] => .nil
  | x :: r => insS_pw x _ (isortI_pw r)
theorem msI (l : List Int) : l.mergeSort (fun a b => decide (a ≤ b)) = isortI l := by
  refine List.Perm.eq_of_pairwise (le := (· ≤ ·)) (fun a b _ _ h1 h2 => by omega) ?_ (isortI_pw l) ((List.mergeSort_perm ..).trans (isortI_perm l).symm)
  have := List.pairwise_mergeSort (le := fun a b : Int => decide (a ≤ b)) (fun a b c h1 h2 => by simp at *; omega) (fun a b => by simp; omega) l
  exact this.imp fun h => by simpa using h
theorem leP_int (a b : Int) : leP (.int a) (.int b) = decide (a ≤ b) := by
  have : PySem.W.dataLt (.int b) (.int a) = (decide (b < a) || (!decide (a < b) && false)) := rfl
  unfold leP
  rw [this]
  by_cases h : b < a <;> simp [h] <;> omega
theorem pInts_map : ∀ {l : List (PyData × D)} {ns : List Int}, pInts l = some ns → l = ns.map fun i => (PyData.int i, D.int i)
  | [], _, h => by cases h; rfl
  | (p, d) :: r, ns, h => by
    cases p <;> cases d <;> try (simp [pInts] at h; done)
    rename_i i j
    unfold pInts at h
    split at h
    · rename_i e
      subst e
      obtain ⟨m, h1, rfl⟩ := Option.map_eq_some_iff.mp h
      rw [List.map_cons, ← pInts_map h1]
    · cases h
theorem msP (ns : List Int) : ((ns.map fun i => (PyData.int i, D.int i)).mergeSort fun p q => leP p.1 q.1).map (·.2) = (isortI ns).map .int := by
  rw [← List.map_mergeSort (r := fun a b => decide (a ≤ b)) (f := fun i => (PyData.int i, D.int i)) (fun a _ b _ => (leP_int a b).symm), msI, List.map_map]
  rfl
theorem sortF_spec {l : List (PyData × D)} {s : List D} (h : sortF l = some s) : PySem.W.AllAlike (l.map encP) ∧ PySem.W.Sortable (l.map encP) ∧ (∀ p ∈ l, p.1.depth ≤ 64) ∧ l.length ≤ sizeLine ∧ s = (l.mergeSort fun p q => leP p.1 q.1).map (·.2) := by
  unfold sortF at h
  split at h
  · rename_i ns hn
    split at h
    · rename_i hl
      cases h
      have e := pInts_map hn
      have all : ∀ p ∈ l, ∃ i : Int, p = (PyData.int i, D.int i) := fun p hp => by
        rw [e] at hp
        obtain ⟨i, _, rfl⟩ := List.mem_map.mp hp
        exact ⟨i, rfl⟩
      refine ⟨fun d hd d' hd' => ?_, .inr fun d hd => ?_, fun p hp => ?_, hl, ?_⟩
      · obtain ⟨p, hp, rfl⟩ := List.mem_map.mp hd
        obtain ⟨p', hp', rfl⟩ := List.mem_map.mp hd'
        obtain ⟨i, rfl⟩ := all p hp
        obtain ⟨j, rfl⟩ := all p' hp'
        rfl
      · obtain ⟨p, hp, rfl⟩ := List.mem_map.mp hd
        obtain ⟨i, rfl⟩ := all p hp
        exact ⟨by simp [encP], by simp [encP]⟩
      · obtain ⟨i, rfl⟩ := all p hp
        show PyData.depth (.int i) ≤ 64
        simp [PyData.depth]
      · rw [e, msP]
    · cases h
  split at h
  · rename_i hc
    simp only [Bool.and_eq_true, List.all_eq_true, decide_eq_true_eq] at hc
    obtain ⟨h1, h2, h3, h4⟩ := hc
    refine ⟨fun d hd e he => ?_, ?_, fun p hp => h3 p hp, h4, (Option.some.inj h).symm⟩
    · obtain ⟨p, hp, rfl⟩ := List.mem_map.mp hd
      obtain ⟨p', hp', rfl⟩ := List.mem_map.mp he
      exact h1 p hp p' hp'
    · unfold sortable at h2
      simp only [Bool.or_eq_true, List.all_eq_true] at h2
      rcases h2 with h2 | h2
      · refine .inl fun d hd => ?_
        have := h2 d hd
        cases d with
        | tuple t =>
          cases t with
          | nil => simp at this
          | cons x r => exact ⟨x, r, rfl⟩
        | _ => simp at this
      · refine .inr fun d hd => ?_
        have := h2 d hd
        cases d with
        | tuple t => simp at this
        | none => simp at this
        | _ => exact ⟨by simp, by simp⟩
  · cases h
theorem leP_eq : (PySem.W.dataLe false encP : PyData × D → PyData × D → Bool) = fun p q => leP p.1 q.1 := rfl
/-- R of a value: it stands for the pair's thing -/
def StandsFor (κ : Ctx) (F : Fz) (u : Value) (p : PyData × D) : Prop := ∃ x, RelV x u ∧ Rep κ F x p.2
theorem each_of {l : List D} : ∀ {ps : List PyData} {xs : List V} {us : List Value}, RepL κ F xs l → Vals xs us → pys l = some ps → PySem.W.EachIs (StandsFor κ F) us (ps.zip l) := by
  induction l with
  | nil => intro ps xs us r v e; cases r; cases v; cases e; exact .nil
  | cons d l ih =>
    intro ps xs us r v e
    simp only [pys, Option.bind_eq_some_iff, Option.map_eq_some_iff] at e
    obtain ⟨p, e1, qs, e2, rfl⟩ := e
    cases r with
    | cons a b =>
      cases v with
      | cons c t => exact .cons ⟨_, c, a⟩ (ih b t e2)
theorem each_reads (hK : X.K = κ.K) (k : Fk F H) (I : Inv X pins σ H s) {l : List D} : ∀ {ps : List PyData} {xs : List V} {us : List Value}, RepL κ F xs l → Vals xs us → pys l = some ps → PySem.W.EachIs (fun v b => ∃ as, Reads s.heap v (encP b) as) us (ps.zip l) := by
  induction l with
  | nil => intro ps xs us r v e; cases r; cases v; cases e; exact .nil
  | cons d l ih =>
    intro ps xs us r v e
    simp only [pys, Option.bind_eq_some_iff, Option.map_eq_some_iff] at e
    obtain ⟨p, e1, qs, e2, rfl⟩ := e
    cases r with
    | cons a b =>
      cases v with
      | cons c t =>
        refine .cons ?_ (ih b t e2)
        have := Fz.Le.dp k (a.dp e1)
        rw [← hK] at this
        exact Dp.reads I p _ _ this c
theorem each_back {bs : List (PyData × D)} {out : List Value} (h : PySem.W.EachIs (StandsFor κ F) out bs) : ∃ ys, Vals ys out ∧ RepL κ F ys (bs.map (·.2)) := by
  induction h with
  | nil => exact ⟨[], .nil, .nil⟩
  | cons r _ ih =>
    obtain ⟨x, h1, h2⟩ := r
    obtain ⟨ys, h3, h4⟩ := ih
    exact ⟨x :: ys, .cons h1 h3, .cons h2 h4⟩
theorem pys_len : ∀ {l : List D} {ps : List PyData}, pys l = some ps → ps.length = l.length
  | [], _, e => by cases e; rfl
  | d :: l, _, e => by
    simp only [pys, Option.bind_eq_some_iff, Option.map_eq_some_iff] at e
    obtain ⟨p, e1, qs, e2, rfl⟩ := e
    simp [pys_len e2]
theorem zip_depth {l : List D} {ps : List PyData} {b : PyData × D} (h : b ∈ ps.zip l) (hd : ∀ p ∈ ps.zip l, p.1.depth ≤ 64) : (encP b).depth ≤ 64 := hd b h
theorem reads_alive {h : Heap} {v : Value} {d : PyData} {as : List Addr} (r : Reads h v d as) : ∀ a ∈ as, ∃ o, h.get? a = some o := by
  refine Reads.rec (motive_1 := fun _ _ as _ => ∀ a ∈ as, ∃ o, h.get? a = some o) (motive_2 := fun _ _ as _ => ∀ a ∈ as, ∃ o, h.get? a = some o) ?_ ?_ ?_ ?_ ?_ ?_ ?_ ?_ ?_ r
  · intro a h; cases h
  · intro _ a h; cases h
  · intro _ _ a h; cases h
  · intro _ _ a h; cases h
  · intro a o vs n xs as e _ _ _ ih b hb
    rcases List.mem_cons.mp hb with rfl | hb
    · exact ⟨_, e⟩
    · exact ih b hb
  · intro a o vs n xs as e _ _ _ ih b hb
    exact ih b hb
  · intro a o es n kvs as bs e _ _ _ _ ih1 ih2 b hb
    rcases List.mem_cons.mp hb with rfl | hb
    · exact ⟨_, e⟩
    · rcases List.mem_append.mp hb with hb | hb
      · exact ih1 b hb
      · exact ih2 b hb
  · intro a h; cases h
  · intro v vs d ds as bs _ _ ih1 ih2 b hb
    rcases List.mem_append.mp hb with hb | hb
    · exact ih1 b hb
    · exact ih2 b hb
/-- the tail: a fresh list of these values is sorted -/
theorem sort_tail (hK : X.K = κ.K) (hu : X.A.units + 70 < cLine) {l : List D} {ps : List PyData} {so : List D} {xs : List V} {us : List Value} {h' : Heap} {tk : Nat} {Q : VK} (k : Fk F H) (I : Inv X pins σ H s)
    (kp : ∀ b o, s.heap.get? b = some o → h'.get? b = some o) (r : RepL κ F xs l) (v : Vals xs us) (e : pys l = some ps) (hs : sortF (ps.zip l) = some so) (q : ∀ v H' F', Pure H F H' F' → VP κ H H' F' v (.lst so) true → Q v H') :
    wpAny (model X.prog X.w) X.A.in1 (call (.builtin "list.sort") [.ref h'.objs.size]) (fun _ s' => EP X pins σ Q (.ref h'.objs.size) s') X.xe { s with heap := h'.push { cls := .type "list", data := .seq us.toArray }, toks := tk } := by
  obtain ⟨ha, hso, hd, hl, rfl⟩ := sortF_spec hs
  have zl : (ps.zip l).length = l.length := by rw [List.length_zip, pys_len e]; omega
  have ul : us.length = (ps.zip l).length := by rw [zl, ← v.length, r.length]
  have kb : ∀ b o, s.heap.get? b = some o → (h'.push { cls := .type "list", data := .seq us.toArray }).get? b = some o := fun b o z => Heap.get?_push_of_some _ (kp b o z)
  have I1 : Inv X pins σ H { s with heap := h'.push { cls := .type "list", data := .seq us.toArray }, toks := tk } := I.kept (t' := tk) kb
  have ho : (h'.push { cls := .type "list", data := .seq us.toArray }).get? h'.objs.size = some (PyProof.Rows.seqObj "list" us.toArray 0) := Heap.get?_push_size _ rfl
  refine PySem.W.list_sort_data (R := StandsFor κ F) (enc := encP) (bs := ps.zip l) (n := 0) ho (each_of r v e) ?_ ha hso hl (fun b hb => by have := zip_depth hb hd; show X.A.units + 1 + 1 + _ < cLine; omega) fun out h1 h2 => ?_
  · have er := each_reads hK k I r v e
    refine er.mono fun u b ⟨as, h⟩ => ⟨as, PyProof.Rows.Reads.keeps (fun b o z => kb b o z) h, fun hm => ?_⟩
    obtain ⟨o, ho'⟩ := reads_alive h _ hm
    exact absurd (Heap.lt_size (kp _ _ ho')) (Nat.lt_irrefl _)
  · rw [leP_eq] at h2
    obtain ⟨ys, h3, h4⟩ := each_back h2
    have kF : ∀ b o, s.heap.get? b = some o → (PyProof.Rows.sortedHeap (h'.push { cls := .type "list", data := .seq us.toArray }) h'.objs.size us out.toArray).get? b = some o := fun b o z => by
      have lt : b < h'.objs.size := Heap.lt_size (kp b o z)
      exact (PyProof.Rows.sortedHeap_old (Nat.ne_of_lt lt) (Heap.lt_size (kb b o z))).trans (kb b o z)
    have kG : ∀ b o, h'.get? b = some o → (PyProof.Rows.sortedHeap (h'.push { cls := .type "list", data := .seq us.toArray }) h'.objs.size us out.toArray).get? b = some o := fun b o z =>
      (PyProof.Rows.sortedHeap_old (Nat.ne_of_lt (Heap.lt_size z)) (Heap.lt_size (Heap.get?_push_of_some _ z))).trans (Heap.get?_push_of_some _ z)
    obtain ⟨eF, heF⟩ := PyProof.Rows.sortedHeap_at (vs := us) (out := out.toArray) ho
    have lys : ys.length = l.length := by rw [h4.length, List.length_map, List.length_mergeSort, zl]
    have I2 : Inv X pins σ (upd H h'.objs.size (.lst ys)) { s with heap := PyProof.Rows.sortedHeap (h'.push { cls := .type "list", data := .seq us.toArray }) h'.objs.size us out.toArray, toks := tk } :=
      (I.kept (t' := tk) kp).laid (t' := tk) kG (Nat.le_refl _) (show ObjOk X.prog X.w _ _ _ (.lst ys) from ⟨by rw [lys, ← zl]; exact hl, out, eF, h3, heF⟩)
    exact ⟨.ref h'.objs.size, _, I2, rfl, fin_lst k h4 q _ ((I.kept (t' := tk) kp).hok.fresh (Nat.le_refl _))⟩

theorem sorted_open {X : Cx} {s : Shared} {P : Value → Shared → Prop} {u : Value} {us : List Value} (hu : us.length ≤ sizeLine)
    (hcol : ∀ R : List Value → Shared → Prop, (∀ h' tk, (∀ b o, s.heap.get? b = some o → h'.get? b = some o) → R us { s with heap := h', toks := tk }) → wpAny (model X.prog X.w) X.A.in1 (collect u) R X.xe s)
    (h : ∀ (h' : Heap) (tk : Nat), (∀ b o, s.heap.get? b = some o → h'.get? b = some o) →
      wpAny (model X.prog X.w) X.A.in1 (call (.builtin "list.sort") [.ref h'.objs.size]) (fun _ s' => P (.ref h'.objs.size) s') X.xe { s with heap := h'.push { cls := .type "list", data := .seq us.toArray }, toks := tk }) :
    wpAny (model X.prog X.w) X.A (call (.builtin "sorted") [u]) P X.xe s := by
  refine Calls.call_function_entry PyProof.Rows.kind_sorted PyProof.Rows.plain_sorted PyProof.Rows.entry_sorted (PyProof.Rows.args_sorted1 _) ?_
  unfold Builtin.«sorted»
  refine wpAny_bind (m := checkCount "sorted" 1 1 _) (wpAny_pure ?_)
  refine wpAny_bind (hcol _ fun h' tk hk => ?_)
  refine wpAny_bind (wpAny_newList ?_ hu)
  refine wpAny_bind (wpAny_holding (wpAny_mono (h h' tk hk) (fun _ s' x => ?_) fun _ _ e => e))
  exact wpAny_pure ⟨_, rfl, x⟩
theorem c_sorted (hK : X.K = κ.K) (hc : X.calm = true) (hu : X.A.units + 70 < cLine) : CallR X (.builtin "sorted") (rC κ (uF .sorted)) := by
  intro pins s σ H xs us Q I r h
  obtain ⟨x, rfl, F, d, z, f, k, hx, hg, q⟩ := h
  obtain ⟨u, rfl, rx⟩ := vals1 r
  simp only [uF, Option.bind_eq_some_iff, Option.map_eq_some_iff] at hg
  obtain ⟨l, hl, ps, hp, so, hs, e1⟩ := hg
  cases e1
  have szl : l.length ≤ sizeLine := by
    obtain ⟨_, _, _, z, _⟩ := sortF_spec hs
    rw [List.length_zip, pys_len hp] at z
    omega
  cases d with
  | lst l' =>
    cases hl
    obtain ⟨a, xs, rfl, h1, r1⟩ := hx.lst k
    cases rx
    obtain ⟨its, rv, pl, _⟩ := I.list (.inl (.inl h1))
    have hll := rv.length
    have := r1.length
    refine sorted_open (us := its) (by omega) (fun R hR => ?_) fun h' tk hk => sort_tail hK hu k I hk r1 rv hp hs q
    obtain ⟨o, n, ho, hcl, hdd, hdt⟩ := pl
    exact wpAny_collect_seq a (.inl rfl) ho hcl hdt (fun h' hk => hR h' s.toks hk) (by rw [List.size_toArray]; omega)
  | tup l' =>
    cases hl
    obtain ⟨a, xs, rfl, h1, _, r1⟩ := hx.tup k
    cases rx
    rw [← hK] at h1
    obtain ⟨its, rv, ⟨o, ho, hcl, n, hdt⟩, _⟩ := I.tuple h1
    have hll := rv.length
    have := r1.length
    refine sorted_open (us := its) (by omega) (fun R hR => ?_) fun h' tk hk => sort_tail hK hu k I hk r1 rv hp hs q
    exact wpAny_collect_seq a (.inr rfl) ho hcl hdt (fun h' hk => hR h' s.toks hk) (by rw [List.size_toArray]; omega)
  | dct l' =>
    cases hl
    obtain ⟨a, es, rfl, h1, r1, _⟩ := hx.dct k
    cases rx
    obtain ⟨hS, hl, ents, ep, o, h3, h4, h5, h6, h7⟩ := dic_full I h1 r1
    have raw : s.heap.DictRaw a ents ep := ⟨o, h3, h4, h5⟩
    refine sorted_open (us := ents.toList.map (·.key)) (by rw [List.length_map] at szl ⊢; rw [Array.length_toList]; omega) (fun R hR => ?_) fun h' tk hk => sort_tail hK hu k I hk r1.keys (keys_vals h6) hp hs q
    refine PySem.W.kdu_collect (A := X.A.in1) (PySem.KdlSrc.rawDict hS) (I.ok.hd hc) raw (by have := r1.length; omega) fun h' tk acc hkeep hacc => ?_
    have e := items_eq (us := ents.toList.map (·.key)) (by rw [List.length_map, Array.length_toList]; exact hacc) fun i v z => raw_keys z
    rw [e]
    exact hR h' tk hkeep
  | _ => cases hl
end
end WW
end
section
set_option maxHeartbeats 1000000
/-! dict(..), tuples said some times, views -/
namespace WW
open PySem PySem.Spec PyProof.Rows L2

theorem dputs_take : ∀ {l : List (D × D)} {a e : List (D × D)} (i : Nat), dputs a l = some e → ∃ m, dputs a (l.take i) = some m ∧ dputs m (l.drop i) = some e
  | [], a, e, i, h => ⟨a, by simp [dputs], by simpa using h⟩
  | p :: l, a, e, 0, h => ⟨a, by simp [dputs], by simpa using h⟩
  | (k, v) :: l, a, e, i + 1, h => by
    simp only [dputs] at h
    split at h
    · rename_i hk
      obtain ⟨m, h1, h2⟩ := dputs_take i h
      exact ⟨m, by simp only [List.take_succ_cons, dputs, hk, if_true]; exact h1, h2⟩
    · cases h
theorem dputs_snoc : ∀ {l : List (D × D)} {a m : List (D × D)} {k v : D}, dputs a l = some m → kOk m k = true → dputs a (l ++ [(k, v)]) = some (dput m k v)
  | [], a, m, k, v, h, hk => by cases h; simp [dputs, hk]
  | (k', v') :: l, a, m, k, v, h, hk => by
    simp only [dputs, List.cons_append] at h ⊢
    split at h
    · rename_i hk'
      rw [if_pos hk']
      exact dputs_snoc h hk
    · cases h
theorem dput_len {l : List (D × D)} {k v : D} : (dput l k v).length ≤ l.length + 1 := by
  induction l with
  | nil => simp [dput]
  | cons p l ih =>
    obtain ⟨a, w⟩ := p
    simp only [dput]
    split
    · simp
    · simp; omega
theorem dputs_len : ∀ {l : List (D × D)} {a e : List (D × D)}, dputs a l = some e → e.length ≤ a.length + l.length
  | [], a, e, h => by cases h; simp
  | (k, v) :: l, a, e, h => by
    simp only [dputs] at h
    split at h
    · have := dputs_len h
      have := dput_len (l := a) (k := k) (v := v)
      simp; omega
    · cases h
theorem pairs_len : ∀ {l : List D} {ps : List (D × D)}, pairs l = some ps → ps.length = l.length
  | [], ps, h => by cases h; rfl
  | d :: l, ps, h => by
    unfold pairs at h
    split at h
    · rename_i e; cases e
    · rename_i e
      cases e
      simp only [Option.map_eq_some_iff] at h
      obtain ⟨qs, h1, rfl⟩ := h
      simp [pairs_len h1]
    · cases h
theorem ents_keep {w : World} {h h' : Heap} (k : ∀ b o, h.get? b = some o → h'.get? b = some o) {ks : List NestedKey} {es : List DictEntry} (e : Ents w h ks es) : Ents w h' ks es := by
  induction e with
  | nil => exact .nil
  | cons r _ ih => exact .cons ⟨r.1, NestedIs.at (fun a o vs n z _ => k a o z) _ _ r.2⟩ ih
section
variable {κ : Ctx} {X : Cx} {pins : List (Addr × Obj)} {σ : L2.St} {H : Hp} {s : Shared} {F : Fz}
/-- the pairs of a list, by their addresses -/
theorem pairs_rep (hK : X.K = κ.K) (k : Fk F H) (I : Inv X pins σ H s) : ∀ {l : List D} {ps : List (D × D)} {ys : List V} {its : List Value}, RepL κ F ys l → Vals ys its → pairs l = some ps →
    ∃ (as : List Addr) (vs : List (Value × Value)), its = as.map Value.ref ∧ as.length = ps.length ∧ vs.length = ps.length ∧ ∀ (j : Nat) (x y : D), ps[j]? = some (x, y) → ∃ a u v ku kv, as[j]? = some a ∧ vs[j]? = some (u, v) ∧ s.heap.IsTuple a #[u, v] ∧ RelV ku u ∧ RelV kv v ∧ Rep κ F ku x ∧ Rep κ F kv y
  | [], ps, _, _, .nil, .nil, h => by cases h; exact ⟨[], [], rfl, rfl, rfl, fun j x y e => by simp at e⟩
  | d :: l, ps, _, _, .cons a b, .cons c t, h => by
    unfold pairs at h
    split at h
    · rename_i e; cases e
    · rename_i x y r e
      cases e
      simp only [Option.map_eq_some_iff] at h
      obtain ⟨qs, h1, rfl⟩ := h
      obtain ⟨as, vs, e1, e2, e3, e4⟩ := pairs_rep hK k I b t h1
      cases a with
      | @tup _ ad xs _ q r =>
        cases r with
        | cons r1 r =>
          cases r with
          | cons r2 r =>
            cases r
            have q' := sqT_fk k q
            rw [← hK] at q'
            obtain ⟨its, rv, ⟨o, ho, hc, n, hd⟩, _⟩ := I.tuple q'
            obtain ⟨u, v, rfl, ru, rv⟩ := vals2 rv
            cases (show _ = Value.ref ad from c)
            refine ⟨ad :: as, (u, v) :: vs, by rw [e1]; rfl, by simp [e2], by simp [e3], fun j x' y' e => ?_⟩
            cases j with
            | zero =>
              simp only [List.getElem?_cons_zero, Option.some.injEq, Prod.mk.injEq] at e
              obtain ⟨rfl, rfl⟩ := e
              exact ⟨ad, u, v, _, _, rfl, rfl, ⟨o, ho, hc, n, hd⟩, ru, rv, r1, r2⟩
            | succ j =>
              obtain ⟨a', h⟩ := e4 j x' y' (by simpa using e)
              exact ⟨a', by simpa using h⟩
    · cases h
theorem c_dict_pairs (hK : X.K = κ.K) (hw : X.w = κ.w) (hc : X.calm = true) (hu : X.A.units + 70 < cLine) : CallR X (.type "dict") (fun xs H Q => ∃ a F ys l ps e, xs = [.ref a] ∧ Fk F H ∧ H a = some (.lst ys) ∧ RepL κ F ys l ∧ pairs l = some ps ∧ l.length ≤ sizeLine ∧ dputs [] ps = some e ∧
    ∀ (es : DS) p, RepD κ F es.1 e → DWf e → H p = none → Q (.ref p) (upd H p (DicO p es))) := by
  intro pins s σ H xs us Q I r h
  obtain ⟨a, F, ys, l, ps, e, rfl, k, ha, rl, hp, hsz, hd, hQ⟩ := h
  obtain ⟨u, rfl, rx⟩ := vals1 r
  cases rx
  obtain ⟨its, rv, ⟨o, n, ho, hcl, hdd, hdt⟩, _⟩ := I.list (.inl (.inl ha))
  obtain ⟨as, vs, e1, e2, e3, e4⟩ := pairs_rep hK k I rl rv hp
  have pl := pairs_len hp
  have ok : PlainSeq "list" s.heap a its.toArray ∧ PairItems s.heap its.toArray (fun j => as.getD j 0) vs := by
    refine ⟨⟨o, n, ho, hcl, hdd, hdt⟩, by rw [List.size_toArray, e1, List.length_map]; omega, fun j u v hj => ?_⟩
    have hj' : j < ps.length := by rw [← e3]; exact (List.getElem?_eq_some_iff.mp hj).1
    obtain ⟨a', u', v', ku, kv, h1, h2, h3, _⟩ := e4 j (ps[j]).1 (ps[j]).2 (List.getElem?_eq_getElem hj')
    rw [hj] at h2
    cases h2
    have eg : as.getD j 0 = a' := by rw [List.getD_eq_getElem?_getD, h1]; rfl
    refine ⟨?_, .inl (by show s.heap.IsTuple (as.getD j 0) _; rw [eg]; exact h3)⟩
    show its.toArray[j]? = some (Value.ref (as.getD j 0))
    rw [eg, List.getElem?_toArray, e1, List.getElem?_map, h1]
    rfl
  have hS : (s.heap.objs.size == sysModules) = false := beq_eq_false_iff_ne.mpr (Nat.ne_of_gt I.big)
  refine call_dict_arg (PairArg.list a its.toArray (fun j => as.getD j 0) vs) ok fun s₁ hs₁ hdf ok₁ => ?_
  subst hs₁
  refine updateFrom_arg (A := X.A.in1) (d := s.heap.objs.size)
    (Tab := fun i h => ∃ m es ents ep, dputs [] (ps.take i) = some m ∧ DWf m ∧ RepD κ F es m ∧ EntR es ents.toList ∧ h.DictRaw s.heap.objs.size ents ep ∧ ∀ b o, s.heap.get? b = some o → h.get? b = some o)
    (PairArg.list a its.toArray (fun j => as.getD j 0) vs) .none (I.ok.hd hc) ok₁ hdf ?_ ?_ ?_ ?_ ?_
  · exact ⟨[], [], #[], 0, by simp [dputs], .nil, .nil, .nil, ⟨_, Heap.get?_push_size _ rfl, ⟨rfl, rfl, rfl⟩, rfl⟩, fun b o z => Heap.get?_push_of_some _ z⟩
  · rintro i h ⟨_, _, _, _, _, _, _, _, ⟨o, ho, _⟩, _⟩
    exact Heap.lt_size ho
  · rintro i h h' wr' hd hw' ⟨m, es, ents, ep, h1, h2, h3, h4, h5, h6⟩ hk
    refine ⟨m, es, ents, ep, h1, h2, h3, h4, h5.at fun o e => hk _ o hd e, fun b o z => hk b o (fun hm => ?_) (h6 b o z)⟩
    rcases hw' b hm with q | q
    · cases q
    · have : (s.heap.push { cls := .type "dict", data := .dict #[] }).get? b = none := q
      rw [Heap.get?_push_of_some _ z] at this
      cases this
  · rintro i kk vv s' Q' E' hi hrel ⟨m, es, ents, ep, h1, h2, h3, h4, ⟨o5, h5, h5c, h5d⟩, h6⟩ _ hQ'
    have hi' : i < ps.length := by omega
    obtain ⟨a', u', v', ku, kv, g1, g2, g3, g4, g5, g6, g7⟩ := e4 i (ps[i]).1 (ps[i]).2 (List.getElem?_eq_getElem hi')
    have hrel : vs[i]? = some (kk, vv) := hrel
    rw [hrel] at g2
    cases g2
    obtain ⟨m', d1, d2⟩ := dputs_take i hd
    rw [h1] at d1
    cases d1
    have hdr : ps.drop i = ps[i] :: ps.drop (i + 1) := List.drop_eq_getElem_cons hi'
    rw [hdr] at d2
    have hk : kOk m (ps[i]).1 = true := by
      simp only [dputs] at d2
      split at d2
      · assumption
      · cases d2
    have As := asked hK k I h3 h2 h4 hk g6 g4
    have As' : Asked κ.w s'.heap ents (kns m) (keyN (ps[i]).1) kk := ⟨ents_keep h6 As.es, NestedIs.at (fun a o vs n z _ => h6 a o z) _ _ As.k, As.d8, As.ds, As.one, As.nd⟩
    have hml : m.length ≤ sizeLine := by
      have := dputs_len h1
      rw [List.length_take] at this
      simp only [List.length_nil] at this
      omega
    have hents : ents.size ≤ sizeLine := by
      rw [← Array.length_toList, ← h4.length, h3.length]
      exact hml
    rw [← hw] at As'
    refine set_N (A := X.A.in1.in1) (by show X.A.units + 1 + 1 + 8 < cLine; omega) h5 h5c h5d As' hents fun h' ep' raw sb => ?_
    refine hQ' h' _ ⟨dput m (ps[i]).1 (ps[i]).2, _, _, ep', ?_, h2.put hk, h3.put h2 hk g6 g7, (h4.put g4 g5 (h := (keyN (ps[i]).1).hash κ.w) (at_ (kns m) (keyN (ps[i]).1))), by rw [← hw]; exact raw, fun b o z => (sb.2 b (Nat.ne_of_lt (Heap.lt_size z))).trans (h6 b o z)⟩ sb
    rw [List.take_succ_eq_append_getElem hi']
    exact dputs_snoc h1 hk
  · rintro h' tk ⟨m, es, ents, ep, h1, h2, h3, h4, h5, h6⟩ _
    have e5 : ps.take vs.length = ps := List.take_of_length_le (by omega)
    rw [e5, hd] at h1
    cases h1
    have hml : es.length ≤ sizeLine := by
      have := dputs_len hd
      simp only [List.length_nil] at this
      rw [h3.length]
      omega
    exact ⟨rfl, .ref s.heap.objs.size, _, I.laid (t' := tk) h6 (Nat.le_refl _) (dicO_ok hS hml h5 h4), rfl, hQ (es, ents, ep) _ h3 h2 (I.hok.fresh (Nat.le_refl _))⟩
end
end WW
end
section
set_option maxHeartbeats 4000000
namespace WW
open PySem PySem.Spec PyProof.Rows L2
theorem tup_mul1 (l : Addr) (items : Array Value) (n : Nat) (dd : Option Addr) (sl : Array (Option Value)) (u : Tok) :
    Meets (Builtin.«tuple.__mul__» ⟨[.ref l, .int 1 u], []⟩) (fun _ R s => s.heap.get? l = some { cls := .type "tuple", dict := dd, data := .seq items n, slots := sl } ∧ R (.ok (.ret (Value.ref l))) s) :=
  .of_wp fun prog w A R s h => by
    obtain ⟨hp, g, d, tk, os⟩ := s
    obtain ⟨hl, h⟩ := h
    have f1 := AutoSeq1.idx_int
    wp_walk using wpAny_loadPart' hl
    repeat (first
      | (refine wpAny_ite_false (by decide) ?_; wp_walk using wpAny_loadPart' hl)
      | (refine wpAny_ite_true (by simp) ?_; wp_walk using wpAny_loadPart' hl))
    exact ⟨_, rfl, h⟩
theorem tup_mul0 (l : Addr) (items : Array Value) (n : Nat) (dd : Option Addr) (sl : Array (Option Value)) (u : Tok) (hne : items.isEmpty = false) :
    Meets (Builtin.«tuple.__mul__» ⟨[.ref l, .int 0 u], []⟩) (fun _ R s => s.heap.get? l = some { cls := .type "tuple", dict := dd, data := .seq items n, slots := sl } ∧
      R (.ok (.ret (Value.ref s.heap.objs.size))) { s with heap := s.heap.push { cls := Value.type "tuple", data := Data.seq #[] }, toks := s.toks }) :=
  .of_wp fun prog w A R s h => by
    obtain ⟨hp, g, d, tk, os⟩ := s
    obtain ⟨hl, h⟩ := h
    have f1 := AutoSeq1.idx_int
    wp_walk using wpAny_loadPart' hl
    repeat (first
      | (refine wpAny_ite_false (by decide) ?_; wp_walk using wpAny_loadPart' hl)
      | (refine wpAny_ite_false (by rw [hne]; decide) ?_; wp_walk using wpAny_loadPart' hl)
      | (refine wpAny_ite_true (by simp) ?_; wp_walk using wpAny_loadPart' hl))
    exact ⟨_, rfl, h⟩
section
variable {κ : Ctx} {X : Cx}
/-- a tuple said no time, once -/
theorem op_rep01 : OpR X (binaryOp .Mult) (fun x y H Q => ∃ l k xs, x = .ref l ∧ y = .int k ∧ SqT X.K H l xs ∧ xs ≠ [] ∧ (k = 0 ∨ k = 1) ∧ (k = 0 → ∀ p, H p = none → Q (.ref p) (upd H p (.tup []))) ∧ (k = 1 → Q (.ref l) H)) := by
  intro pins s σ H x y v u Q I rx ry h
  obtain ⟨l, k, xs, rfl, rfl, hT, hne, hk, q0, q1⟩ := h
  cases rx
  obtain ⟨t, rfl⟩ := ry
  obtain ⟨its, r, ⟨⟨cls, dd, data, sl⟩, ho, hc, n, hd⟩, hs⟩ := I.tuple hT
  simp only at hc hd
  subst hc hd
  have hi : its.toArray.isEmpty = false := by
    cases its with
    | nil => cases r; exact absurd rfl hne
    | cons a b => rfl
  have go : ∀ (P : Value → Shared → Prop), wpAny (model X.prog X.w) X.A (call (.builtin "tuple.__mul__") [.ref l, .int k t]) P X.xe s → wpAny (model X.prog X.w) X.A (binaryOp .Mult (.ref l) (.int k t)) P X.xe s := fun P hc =>
    wpAny_binaryOp_repeat_ref (T := "tuple") (U := "int") (by decide) ⟨_, ho, rfl⟩ (fun s' => typeIs_int s' k t) noFill_tuple_mul F.fills_int_mul F.slot_int_rmul repeat_tuple F.slot_int_index.lookup
      (call_meets F.slot_int_rmul (typeIs_int s k t) F.entry_int_rmul (F.args_int_rmul_2 _ _) (int_rmul_tuple k t l its.toArray n dd sl) ⟨ho, rfl, ⟨_, ho, rfl⟩, hc⟩)
  refine go _ ?_
  rcases hk with rfl | rfl
  · refine call_meets F.slot_tuple_mul ⟨_, ho, rfl⟩ F.entry_tuple_mul (F.args_tuple_mul_2 _ _) (tup_mul0 l its.toArray n dd sl t hi) ⟨ho, ?_⟩
    refine ⟨.ref s.heap.objs.size, _, I.laid (t' := s.toks) (o := .tup []) (fun b ob q => Heap.get?_push_of_some _ q) (Nat.le_refl _) ?_, rfl, q0 rfl _ (I.hok.fresh (Nat.le_refl _))⟩
    exact ⟨by rw [sizeLine_eq]; simp, [], .nil, IsTup.new _ _⟩
  · refine call_meets F.slot_tuple_mul ⟨_, ho, rfl⟩ F.entry_tuple_mul (F.args_tuple_mul_2 _ _) (tup_mul1 l its.toArray n dd sl t) ⟨ho, ?_⟩
    exact ⟨.ref l, H, I, rfl, q1 rfl⟩
theorem b_mul (hK : X.K = κ.K) : OpR X (binaryOp .Mult) (rB κ (bF .mul)) := by
  refine OpR.imp (op_mul.or (op_rep.or (op_repT.or op_rep01))) fun x y H Q h => ?_
  rw [hK]
  obtain ⟨F, d, e, z, f, k, hx, hy, hg, q⟩ := h
  simp only [bF] at hg
  split at hg
  · split at hg
    · rename_i hs
      cases hg
      have e1 := hx.int; have e2 := hy.int; subst e1; subst e2
      rw [Bool.or_eq_true] at hs
      exact .inl ⟨_, _, rfl, rfl, hs.elim (fun z => .inl (small_iff z)) (fun z => .inr (small_iff z)), fin_val k (.int _) q⟩
    · cases hg
  · split at hg
    · rename_i hs
      cases hg
      obtain ⟨a, xs, rfl, h1, r1⟩ := hx.lst k
      have e2 := hy.int; subst e2
      exact .inr (.inl ⟨a, _, xs, rfl, rfl, h1, hs.2.1, hs.2.2, by rw [r1.length]; exact hs.1, fin_lst k (r1.rep _) q⟩)
    · cases hg
  · split at hg
    · rename_i hs
      cases hg
      obtain ⟨a, xs, rfl, h1, f1, r1⟩ := hx.tup k
      have e2 := hy.int; subst e2
      have ne : xs ≠ [] := fun z => by subst z; cases r1; exact absurd hs.1 (by simp)
      rename_i j
      by_cases h2 : 2 ≤ j
      · exact .inr (.inr (.inl ⟨a, _, xs, rfl, rfl, h1, ne, h2, hs.2.2.1, by rw [r1.length]; exact hs.2.2.2, fin_tup k (r1.rep _) q⟩))
      · refine .inr (.inr (.inr ⟨a, j, xs, rfl, rfl, h1, ne, ?_, fun e => ?_, fun e => ?_⟩))
        · omega
        · subst e
          exact fin_tup k .nil q
        · subst e
          refine fin_val k ?_ q
          rename_i l0
          have e3 : (List.replicate (1 : Int).toNat l0).flatten = l0 := List.append_nil l0
          rw [e3]
          exact .tup f1 r1
    · cases hg
  · cases hg

end
end WW
end
section
set_option maxHeartbeats 1000000
/-! copies of dicts, views, the methods -/
namespace WW
open PySem PySem.Spec PyProof.Rows L2

mutual
theorem hash0_eq : ∀ {k : NestedKey} {h : Int}, hash0 k = some h → ∀ w, k.hash w = h
  | .none, _, e, w => by cases e; rfl
  | .num i, _, e, w => by cases e; rfl
  | .tup ks, _, e, w => by
    simp only [hash0, Option.map_eq_some_iff] at e
    obtain ⟨hs, e1, rfl⟩ := e
    simp only [NestedKey.hash]
    rw [hashs0_eq e1 w]
theorem hashs0_eq : ∀ {k : List NestedKey} {h : List Int}, hashs0 k = some h → ∀ w, NestedKey.hashes w k = h
  | [], _, e, w => by cases e; rfl
  | k :: ks, _, e, w => by
    simp only [hashs0, Option.bind_eq_some_iff, Option.map_eq_some_iff] at e
    obtain ⟨h, e1, hs, e2, rfl⟩ := e
    simp only [NestedKey.hashes]
    rw [hash0_eq e1 w, hashs0_eq e2 w]
end
theorem hashes_map (w : World) : ∀ l : List NestedKey, NestedKey.hashes w l = l.map (NestedKey.hash w)
  | [] => rfl
  | k :: ks => by simp [NestedKey.hashes, hashes_map w ks]
theorem apart_spec {l : List (D × D)} (h : apart l = true) : (∀ p ∈ l, isTup p.1 = true) ∧ ∀ w : World, (l.map fun p => (keyN p.1).hash w).Nodup := by
  unfold apart at h
  rw [Bool.and_eq_true, List.all_eq_true] at h
  refine ⟨fun p hp => h.1 p hp, fun w => ?_⟩
  have h2 := h.2
  split at h2
  · rename_i hs e
    have := hashs0_eq e w
    rw [hashes_map, List.map_map] at this
    show (l.map (NestedKey.hash w ∘ fun p => keyN p.1)).Nodup
    rw [this]
    exact of_decide_eq_true h2
  · cases h2
section
variable {κ : Ctx} {X : Cx}
theorem c_dict_copy (hK : X.K = κ.K) (hw : X.w = κ.w) (hc : X.calm = true) (hu : X.A.units + 70 < cLine) : CallR X (.type "dict") (fun xs H Q => ∃ a F es l, xs = [.ref a] ∧ Fk F H ∧ H a = some (DicO a es) ∧ RepD κ F es.1 l ∧ DWf l ∧ apart l = true ∧
    ∀ p (x : Array DictEntry × Nat), H p = none → Q (.ref p) (upd H p (DicO p (es.1, x)))) := by
  intro pins s σ H xs us Q I r h
  obtain ⟨a, F, es, l, rfl, k, ha, q, wf, hap, hQ⟩ := h
  obtain ⟨u, rfl, rx⟩ := vals1 r
  cases rx
  obtain ⟨hS, hl, ents, ep, o, h3, h4, h5, h6, h7⟩ := dic_full I ha q
  obtain ⟨ht, hn⟩ := apart_spec hap
  have E := ents_of hK k I q wf.ok h6
  obtain ⟨xs, x1, x2, x3⟩ := E.xs (prog := X.prog) fun kk hk => by
    obtain ⟨p, hp, rfl⟩ := List.mem_map.mp hk
    rw [leafy_key (wf.ok p hp), ht p hp]
    rfl
  have xd : ∀ x ∈ xs, x.1.depth ≤ 8 := fun x hx => by
    have : x.1 ∈ kns l := by rw [← x2]; exact List.mem_map.mpr ⟨x, hx, rfl⟩
    obtain ⟨p, hp, e⟩ := List.mem_map.mp this
    rw [← e]
    exact depth_ok (wf.ok p hp)
  rw [← hw] at x1
  have ho : s.heap.DictOfH (nestedKind X.prog X.w) a xs := ⟨o, ents, ep, h3, h4, h5, x1, fun x hx => ⟨x3 x hx, xd x hx⟩, by rw [x2]; exact wf.nd⟩
  have hty : ∀ x ∈ xs, s.TypeIs (.ref x.2.1) "tuple" := fun x hx => by
    have := x3 x hx
    have tl : x.1 ∈ kns l := by rw [← x2]; exact List.mem_map.mpr ⟨x, hx, rfl⟩
    generalize x.1 = y at this tl
    generalize Value.ref x.2.1 = v at this ⊢
    cases this with
    | tup e1 e2 e3 e4 => exact ⟨_, e1, e2⟩
    | none =>
      obtain ⟨p, hp, e⟩ := List.mem_map.mp tl
      have := leafy_key (wf.ok p hp)
      rw [e, ht p hp] at this
      cases this
    | bool _ =>
      obtain ⟨p, hp, e⟩ := List.mem_map.mp tl
      have := leafy_key (wf.ok p hp)
      rw [e, ht p hp] at this
      cases this
    | int _ _ =>
      obtain ⟨p, hp, e⟩ := List.mem_map.mp tl
      have := leafy_key (wf.ok p hp)
      rw [e, ht p hp] at this
      cases this
    | text _ _ =>
      obtain ⟨p, hp, e⟩ := List.mem_map.mp tl
      have := leafy_key (wf.ok p hp)
      rw [e, ht p hp] at this
      cases this
  have hap' : (xs.map fun x => (nestedKind X.prog X.w).hash x.1).Nodup := by
    have e : (xs.map fun x => (nestedKind X.prog X.w).hash x.1) = (xs.map (·.1)).map fun k => k.hash X.w := by rw [List.map_map]; rfl
    rw [e, x2, List.map_map]
    exact hn X.w
  have hlen : xs.length ≤ sizeLine := by
    have e1 := congrArg List.length x2
    rw [List.length_map, List.length_map] at e1
    rw [e1, ← q.length]
    exact hl
  have kp : ∀ b o', s.heap.get? b = some o' → (s.heap.push { cls := .type "dict", data := .dict #[] }).get? b = some o' := fun b o' z => Heap.get?_push_of_some _ z
  have ho' : (s.heap.push { cls := .type "dict", data := .dict #[] }).DictOfH (nestedKind X.prog X.w) a xs := ⟨o, ents, ep, kp _ _ h3, h4, h5, x1, fun x hx => ⟨NestedIs.at (fun a o vs n z _ => kp a o z) _ _ (x3 x hx), xd x hx⟩, by rw [x2]; exact wf.nd⟩
  have hnew : (s.heap.push { cls := .type "dict", data := .dict #[] }).DictOfH (nestedKind X.prog X.w) s.heap.objs.size [] := Heap.DictOfH.new s.heap
  have hne : s.heap.objs.size ≠ a := Nat.ne_of_gt (Heap.lt_size h3)
  have hSn : (s.heap.objs.size == sysModules) = false := beq_eq_false_iff_ne.mpr (Nat.ne_of_gt I.big)
  refine callType_codes (Q₁ := fun obj s₁ => obj = .ref s.heap.objs.size ∧ s₁ = { s with heap := s.heap.push { cls := .type "dict", data := .dict #[] } }) PySem.F.kt_called_dict (PySem.F.kt_typeCall_dict_1 _) PySem.F.entry_dict_init (kt_code_dict_new _ ⟨rfl, rfl⟩) ?_
  rintro obj s₁ ⟨rfl, rfl⟩
  have hT : Shared.TypeIs { s with heap := s.heap.push { cls := .type "dict", data := .dict #[] } } (.ref s.heap.objs.size) "dict" := ⟨_, Heap.get?_push_size _ rfl, rfl⟩
  refine ⟨hT, PySem.F.args_dict_init_2 _ _, ?_⟩
  unfold Builtin.«dict.__init__»
  refine wpAny_bind ?_
  unfold Builtin.Dict.selfAndRest
  refine wpAny_bind (wpAny_notOrdered_dict hT ?_)
  show wpAny _ _ (pure (s.heap.objs.size, [Value.ref a])) _ _ _
  refine wpAny_pure ?_
  refine updateFrom_dictH (A := X.A.in1) (knd := nestedKind X.prog X.w) .none (show X.A.units + 1 + 1 + 8 < cLine by omega) hne hS hnew ho' (.inr ⟨fun x hx => by obtain ⟨o', z, c⟩ := hty x hx; exact ⟨o', kp _ _ z, c⟩, hap'⟩) (by simpa using hlen) fun h' hd' _ hs' => ?_
  rw [storedAllH_nil_of_nodup _ (by rw [x2]; exact wf.nd)] at hd'
  obtain ⟨o', ents', ep', g1, g2, g3, g4, _⟩ := hd'
  have e' : ents'.toList = ents.toList := by rw [g4, x1]
  have kp' : ∀ b o', s.heap.get? b = some o' → h'.get? b = some o' := fun b o' z => (hs'.2 b (Nat.ne_of_lt (Heap.lt_size z))).trans (kp b o' z)
  exact ⟨rfl, .ref s.heap.objs.size, _, I.laid (t' := s.toks) kp' (Nat.le_refl _) (dicO_ok hSn hl ⟨o', g1, g2, g3⟩ (by rw [e']; exact h6)), rfl, hQ _ _ (I.hok.fresh (Nat.le_refl _))⟩
theorem fin_dct {H : Hp} {F : Fz} {l : List (D × D)} {es : DS} {Q : VK} (k : Fk F H) (r : RepD κ F es.1 l) (w : DWf l) (q : ∀ v H' F', Pure H F H' F' → VP κ H H' F' v (.dct l) true → Q v H') : ∀ p, H p = none → Q (.ref p) (upd H p (DicO p es)) := fun p n => by
  have nf : F.m p = none := by
    cases e : F.m p with
    | none => rfl
    | some u => exact absurd (k _ _ e) (by rw [n]; simp)
  exact q _ _ F (.made k n) ⟨p, rfl, n, nf, ⟨rfl, es, upd_same, r, w⟩, rfl⟩
theorem dputs_wf : ∀ {l a e : List (D × D)}, dputs a l = some e → DWf a → DWf e
  | [], a, e, h, w => by cases h; exact w
  | (k, v) :: l, a, e, h, w => by
    simp only [dputs] at h
    split at h
    · exact dputs_wf h (w.put (by assumption))
    · cases h
theorem c_dict (hK : X.K = κ.K) (hw : X.w = κ.w) (hc : X.calm = true) (hu : X.A.units + 70 < cLine) : CallR X (.type "dict") (rC κ (uF .dict)) := by
  have h2 : CallR X (.type "dict") (fun xs H Q => (∃ a F ys l ps e, xs = [.ref a] ∧ Fk F H ∧ H a = some (.lst ys) ∧ RepL κ F ys l ∧ pairs l = some ps ∧ l.length ≤ sizeLine ∧ dputs [] ps = some e ∧ ∀ (es : DS) p, RepD κ F es.1 e → DWf e → H p = none → Q (.ref p) (upd H p (DicO p es))) ∨
      ∃ a F es l, xs = [.ref a] ∧ Fk F H ∧ H a = some (DicO a es) ∧ RepD κ F es.1 l ∧ DWf l ∧ apart l = true ∧ ∀ p (x : Array DictEntry × Nat), H p = none → Q (.ref p) (upd H p (DicO p (es.1, x)))) := (c_dict_pairs (κ := κ) hK hw hc hu).or (c_dict_copy (κ := κ) hK hw hc hu)
  refine CallR.imp h2 fun xs H Q h => ?_
  obtain ⟨x, rfl, F, d, z, f, k, hx, hg, q⟩ := h
  simp only [uF] at hg
  split at hg
  · simp only [Option.bind_eq_some_iff] at hg
    obtain ⟨ps, hp, hg⟩ := hg
    split at hg
    · simp only [Option.map_eq_some_iff] at hg
      obtain ⟨e, he, e1⟩ := hg
      cases e1
      obtain ⟨a, xs, rfl, h1, r1⟩ := hx.lst k
      exact .inl ⟨a, F, xs, _, ps, e, rfl, k, h1, r1, hp, by assumption, he, fun es p rd wf n => fin_dct k rd wf q p n⟩
    · cases hg
  · split at hg
    · cases hg
      obtain ⟨a, es, rfl, h1, r1, wf⟩ := hx.dct k
      exact .inr ⟨a, F, es, _, rfl, k, h1, r1, wf, by assumption, fun p x n => fin_dct (es := (es.1, x)) k r1 wf q p n⟩
    · cases hg
  · cases hg
end
end WW
end
section
set_option maxHeartbeats 1000000
/-! methods -/
namespace WW
open PySem PySem.Spec PyProof.Rows L2 L2.DX

/-- a value is of that builtin type -/
def TyI (X : Cx) (T : String) (x : V) (H : Hp) : Prop := ∀ (pins : List (Addr × Obj)) (σ : L2.St) (s : Shared) (v : Value), Inv X pins σ H s → RelV x v → s.TypeIs v T ∧ ∀ a, v = .ref a → ∃ ob, s.heap.get? a = some ob ∧ ob.dict = none
section
variable {X : Cx} {o e : Expr} {es : List Expr} {to : TE} {t : TA} {name : Str} {apos cpos : Pos} {T id : String} {r : V → List V → Hp → VK → Prop}
theorem pe_m0 (pa : PlainAttrs T) (slot : Slot T name id) (hty : typeOf (.builtin id) = pure (.type "method_descriptor")) (hm : MtR X id r) (ho : PE X o to)
    (hbase : attributeBase o name X.env (eval o X.env) = eval o X.env) (hline : (apos.endLine == cpos.line) = true) : PE X (.Call (.Attribute o name apos) [] [] cpos) (fun σ H Q => to σ H fun x H1 => TyI X T x H1 ∧ r x [] H1 Q) := by
  refine ⟨fun pins s σ H Q I h => ?_⟩
  refine wpAny_Call_method0_late hbase hline (thn (ho.run pins s σ H _ I h) fun v s1 ⟨x, H1, I1, r1, ty, q1⟩ => ?_)
  obtain ⟨h1, h2⟩ := ty pins σ s1 v I1 r1
  exact ⟨T, id, pa, slot, hty, h1, h2, Calls.callWith_builtin rfl (PySem.evalArgs_none (hm pins s1 σ H1 x [] v [] Q I1 r1 .nil q1))⟩
theorem pe_m (pa : PlainAttrs T) (slot : Slot T name id) (hty : typeOf (.builtin id) = pure (.type "method_descriptor")) (hm : MtR X id r) (ho : PE X o to) (ha : PA X (e :: es) t)
    (hbase : attributeBase o name X.env (eval o X.env) = eval o X.env)
    (hfew : ((backTo cpos (starEach (e :: es) X.env)).all (fun x => !x.1) && (backToKw cpos (keywordEach [] X.env)).all (fun x => x.1.isSome)
      && decide ((e :: es).length + ([] : List Keyword).length + (if ([] : List Keyword).isEmpty then 0 else 1) < 30)) = true)
    (hline : (apos.endLine == cpos.line) = true) (hs : starEach (e :: es) X.env = (false, eval e X.env) :: starEach es X.env) (hplain : (backTo cpos (starEach es X.env)).any (·.1) = false) :
    PE X (.Call (.Attribute o name apos) (e :: es) [] cpos) (fun σ H Q => to σ H fun x H1 => TyI X T x H1 ∧ t σ H1 fun xs H2 => r x xs H2 Q) := by
  refine ⟨fun pins s σ H Q I h => ?_⟩
  refine wpAny_Call_method_late hbase hfew hline rfl (thn (ho.run pins s σ H _ I h) fun v s1 ⟨x, H1, I1, r1, ty, q1⟩ => ?_)
  obtain ⟨h1, h2⟩ := ty pins σ s1 v I1 r1
  refine ⟨T, id, pa, slot, hty, h1, h2, ?_⟩
  have hA := ha.run cpos pins s1 σ H1 _ I1 q1
  rw [hs] at hA ⊢
  refine Calls.callWith_builtin (by show (false || (backTo cpos (starEach es X.env)).any (·.1)) = false; rw [hplain] <;> rfl) (Calls.evalArgs_plain ?_)
  exact thn hA fun us s2 ⟨vs, H2, I2, r2, q2⟩ => hm pins s2 σ H2 x vs v us Q I2 r1 r2 q2
end

section
variable {κ : Ctx} {X : Cx} {H : Hp} {F : Fz} {x : V}
theorem ty_lst {l : List D} (k : Fk F H) (hx : RO κ H F x (.lst l)) : TyI X "list" x H := fun pins σ s v I r => by
  obtain ⟨a, xs, rfl, h1, _⟩ := hx.lst k
  cases r
  obtain ⟨_, its, n, _, h2⟩ := (show ObjOk X.prog X.w H s.heap a (.lst xs) from I.hok a _ h1)
  exact ⟨⟨_, h2, rfl⟩, fun b e => by cases e; exact ⟨_, h2, rfl⟩⟩
theorem ty_dic {a : Addr} {es : DS} (h1 : H a = some (DicO a es)) : TyI X "dict" (.ref a) H := fun pins σ s v I r => by
  cases r
  obtain ⟨_, _, ⟨o, h3, h4, h5⟩, _⟩ := dic_at I h1
  exact ⟨⟨o, h3, h4.1⟩, fun b e => by cases e; exact ⟨o, h3, h4.2.1⟩⟩
theorem ty_dct {l : List (D × D)} (k : Fk F H) (hx : RO κ H F x (.dct l)) : TyI X "dict" x H := by
  obtain ⟨a, es, rfl, h1, _⟩ := hx.dct k
  exact ty_dic h1
end

section
variable {κ : Ctx} {X : Cx}
theorem dget_val {F : Fz} {es : List (Int × V × V)} {l : List (D × D)} {ents : Array DictEntry} {kd dd : D} {dv : V} {du : Value} (q : RepD κ F es l) (e : EntR es ents.toList) (hsz : ents.size = l.length) (w : DWf l) (hk : kOk l kd = true) (rd : RelV dv du) (rp : Rep κ F dv dd) :
    ∃ v, RelV v (((at_ (kns l) (keyN kd)).bind fun i => (ents[i]?).map (·.val)).getD du) ∧ Rep κ F v ((dget l kd).getD dd) := by
  rw [dget_at w.ok (kOk_key hk)]
  cases ea : at_ (kns l) (keyN kd) with
  | none => exact ⟨dv, rd, rp⟩
  | some i =>
    have hi : i < l.length := by have := at_lt ea; rw [List.length_map] at this; exact this
    obtain ⟨en, v, h1, h2, h3⟩ := val_at q e (x := (l[i]).1) (y := (l[i]).2) (List.getElem?_eq_getElem hi)
    refine ⟨v, ?_, ?_⟩
    · rw [Option.bind_some, h1]; exact h2
    · rw [Option.bind_some, List.getElem?_eq_getElem hi]; exact h3
/-- d.get(k), d.get(k, x) -/
theorem m_get (hK : X.K = κ.K) (hw : X.w = κ.w) (hu : X.A.units + 70 < cLine) : MtR X "dict.get" (fun x xs H Q => (∃ y, xs = [y] ∧ rB κ (bF .get) x y H Q) ∨
    ∃ y c F d e f z g, xs = [y, c] ∧ Fk F H ∧ RO κ H F x d ∧ RO κ H F y e ∧ Rep κ F c f ∧ b3F .get d e f = some (z, g) ∧ ∀ v H' F', Pure H F H' F' → VP κ H H' F' v z g → Q v H') := by
  intro pins s σ H x xs v us Q I rx rv h
  rcases h with ⟨y, rfl, F, d, e, z, f, k, hx, hy, hg, q⟩ | ⟨y, c, F, d, e, f, z, g, rfl, k, hx, hy, hc, hg, q⟩
  · obtain ⟨u, rfl, ru⟩ := vals1 rv
    simp only [bF] at hg
    split at hg
    · split at hg
      · rename_i hk
        cases hg
        obtain ⟨a, es, rfl, h1, r1, w⟩ := hx.dct k
        cases rx
        obtain ⟨hS, hl, ents, ep, o, h3, h4, h5, h6, h7⟩ := dic_full I h1 r1
        have As := asked hK k I r1 w h6 hk (key_rep hy hk) ru
        rw [← hw] at As
        obtain ⟨v, g1, g2⟩ := dget_val r1 h6 h7 w hk (dv := .non) (du := .none) rfl (.non (F := F))
        exact getM1_N (A := X.A) (by omega) hS h3 h4 h5 As ⟨v, H, I.tok _, g1, fin_val k g2 q⟩
      · cases hg
    · cases hg
  · obtain ⟨u, u', rfl, ru, ru'⟩ := vals2 rv
    simp only [b3F] at hg
    split at hg
    · split at hg
      · rename_i hk
        cases hg
        obtain ⟨a, es, rfl, h1, r1, w⟩ := hx.dct k
        cases rx
        obtain ⟨hS, hl, ents, ep, o, h3, h4, h5, h6, h7⟩ := dic_full I h1 r1
        have As := asked hK k I r1 w h6 hk (key_rep hy hk) ru
        rw [← hw] at As
        obtain ⟨v, g1, g2⟩ := dget_val r1 h6 h7 w hk ru' hc
        exact getM_N (A := X.A) (by omega) hS h3 h4 h5 As ⟨v, H, I.tok _, g1, fin_val k g2 q⟩
      · cases hg
    · cases hg
theorem findIdx_spec {α : Type} {p : α → Bool} {l : List α} {n : Nat} (h : l.findIdx? p = some n) : ∃ z, l[n]? = some z ∧ p z = true ∧ ∀ m z', m < n → l[m]? = some z' → p z' = false := by
  rw [List.findIdx?_eq_some_iff_getElem] at h
  obtain ⟨hn, h1, h2⟩ := h
  refine ⟨_, List.getElem?_eq_getElem hn, h1, fun m z' hm e => ?_⟩
  obtain ⟨hm', e⟩ := List.getElem?_eq_some_iff.mp e
  have := h2 m hm
  rw [e] at this
  simpa using this
theorem m_index (hK : X.K = κ.K) (hu : X.A.units + 70 < cLine) : MtR X "list.index" (fun x xs H Q => ∃ y, xs = [y] ∧ rB κ (bF .index) x y H Q) := by
  intro pins s σ H x xs v us Q I rx rv h
  obtain ⟨y, rfl, F, d, e, z, f, k, hx, hy, hg, q⟩ := h
  refine mt_indexD (by omega) pins s σ H x [y] v us Q I rx rv ?_
  rw [hK]
  simp only [bF] at hg
  split at hg
  · rename_i l
    simp only [Option.map_eq_some_iff] at hg
    obtain ⟨n, hn, e1⟩ := hg
    cases e1
    unfold indexD at hn
    simp only [Option.bind_eq_some_iff] at hn
    obtain ⟨ps, h1, p, h2, h3⟩ := hn
    split at h3
    · rename_i hd
      obtain ⟨zz, a1, a2, a3⟩ := findIdx_spec h3
      have hl : (D.lst l).py = some (.list ps) := by rw [D.py, h1]; rfl
      obtain ⟨a, xs, rfl, _⟩ := hx.lst k
      exact ⟨a, y, p, ps, n, zz, rfl, rfl, hx.dp k hl, hy.dp k h2, shaped_of hl hd.1, shaped_of h2 hd.2, a1, a2, a3, fin_val k (.int _) q⟩
    · cases h3
  · cases hg
end

/-! ### views -/
def valsO (p d : Addr) : HO := .ext fun h => h.IsValuesView p d
section
variable {κ : Ctx} {X : Cx}
theorem m_items : MtR X "dict.items" (fun x xs H Q => ∃ a es, x = .ref a ∧ xs = [] ∧ H a = some (DicO a es) ∧ ∀ p, H p = none → Q (.ref p) (upd H p (itemsO p a))) := by
  intro pins s σ H x xs v us Q I rx rv h
  obtain ⟨a, es, rfl, rfl, h1, q⟩ := h
  cases rx
  cases rv
  obtain ⟨hS, _, raw, _⟩ := dic_at I h1
  refine PySem.call_meetsIn F.slot_dict_items raw.typeIs F.entry_dict_items (F.args_dict_items_1 _) (PySem.meets_dict_items_raw a hS) ⟨⟨_, _, raw⟩, ?_⟩
  exact ⟨.ref s.heap.objs.size, _, I.laid (t' := s.toks) (fun b u e => Heap.get?_push_of_some _ e) (Nat.le_refl _) (itemsO_ok (Heap.get?_push_size _ rfl)), rfl, q _ (I.hok.fresh (Nat.le_refl _))⟩
theorem m_values : MtR X "dict.values" (fun x xs H Q => ∃ a es, x = .ref a ∧ xs = [] ∧ H a = some (DicO a es) ∧ ∀ p, H p = none → Q (.ref p) (upd H p (valsO p a))) := by
  intro pins s σ H x xs v us Q I rx rv h
  obtain ⟨a, es, rfl, rfl, h1, q⟩ := h
  cases rx
  cases rv
  obtain ⟨hS, _, raw, _⟩ := dic_at I h1
  refine PySem.call_meetsIn F.slot_dict_values raw.typeIs F.entry_dict_values (F.args_dict_values_1 _) (PySem.meets_dict_values_raw a hS) ⟨⟨_, _, raw⟩, ?_⟩
  have e : (s.heap.push { cls := .type "dict_values", data := .fields #[.ref a] }).get? s.heap.objs.size = some { cls := .type "dict_values", data := .fields #[.ref a] } := Heap.get?_push_size _ rfl
  exact ⟨.ref s.heap.objs.size, _, I.laid (t' := s.toks) (fun b u e => Heap.get?_push_of_some _ e) (Nat.le_refl _) (show ObjOk X.prog X.w _ _ _ (valsO s.heap.objs.size a) from ⟨⟨_, e, rfl, rfl⟩, ⟨_, e⟩, fun h1 h2 x k => let ⟨o, ho, r⟩ := x; ⟨o, k o ho, r⟩⟩), rfl, q _ (I.hok.fresh (Nat.le_refl _))⟩
end
end WW
end
section
set_option maxHeartbeats 1000000
/-! lists of a dict's items, values -/
namespace WW
open PySem PySem.Spec PyProof.Rows L2 L2.DX
section
variable {κ : Ctx} {X : Cx} {pins : List (Addr × Obj)} {σ : L2.St} {H H1 : Hp} {s : Shared} {F : Fz}
def itemsD (l : List (D × D)) : List D := l.map fun p => .tup [p.1, p.2]
theorem vals_refs' (as : List Addr) : Vals (as.map V.ref) (as.map Value.ref) := by
  induction as with
  | nil => exact .nil
  | cons a as ih => exact .cons rfl ih
/-- the pairs made are tracked -/
theorem items_take {h' : Heap} {tk : Nat} {es : List (Int × V × V)} {l : List (D × D)} {ents : Array DictEntry} {as : List Addr} (I0 : Inv X pins σ H s) (I1 : Inv X pins σ H1 { s with heap := h', toks := tk }) (k : Fk F H1) (q : RepD κ F es l) (e : EntR es ents.toList)
    (hl : as.length = ents.size) (g : PySem.W.DilG ents s.heap.objs.size h' as) (hn : ∀ a ∈ as, H1 a = none) :
    ∃ H2 F2, Inv X pins σ H2 { s with heap := h', toks := tk } ∧ Pure H1 F H2 F2 ∧ RepL κ F2 (as.map V.ref) (itemsD l) ∧ ∀ b, b ∉ as → F2.m b = F.m b := by
  have nd : as.Nodup := List.Pairwise.imp (fun h => Nat.ne_of_lt h) g.rise
  have elen : ents.size = es.length := by rw [← Array.length_toList, e.length]
  obtain ⟨H2, I2, ext, ht⟩ := takeT (P := fun a vs => ∃ j hh kk vv, as[j]? = some a ∧ es[j]? = some (hh, kk, vv) ∧ vs = [kk, vv]) I0 as H1 I1 nd fun a ha => by
    obtain ⟨j, hj⟩ := List.mem_iff_getElem?.mp ha
    obtain ⟨hlt, hg⟩ := g.pairs j a hj
    have hjl : j < es.length := by omega
    obtain ⟨en, e1, _, e3, e4⟩ := e.get (List.getElem?_eq_getElem hjl)
    rw [Array.getElem?_toList, Array.getElem?_eq_getElem hlt] at e1
    cases e1
    refine ⟨Nat.le_of_lt (g.above a ha), hn a ha, [(es[j]).2.1, (es[j]).2.2], ⟨j, (es[j]).1, _, _, hj, List.getElem?_eq_getElem hjl, rfl⟩, fun H2 => ⟨by rw [sizeLine_eq]; simp, [(ents[j]).key, (ents[j]).val], .cons e3 (.cons e4 .nil), ?_⟩⟩
    exact ⟨_, hg, rfl, _, rfl⟩
  have fn : ∀ a ∈ as, F.m a = none := fun a ha => by
    cases z : F.m a with
    | none => rfl
    | some u => exact absurd (k _ _ z) (by rw [hn a ha]; simp)
  have k2 : Fk F H2 := fun b o z => ext b o (k b o z)
  refine ⟨H2, F.add as H2, I2, ⟨ext, add_le fn, add_fk k2, rfl, rfl, fun b hb => hn b (add_only hb)⟩, ?_, fun b hb => add_out hb⟩
  have go : ∀ (j : Nat) (es' : List (Int × V × V)) (l' : List (D × D)) (as' : List Addr), RepD κ F es' l' → as'.length = es'.length → (∀ (i : Nat) (a : Addr), as'[i]? = some a → a ∈ as ∧ ∃ hh kk vv, es'[i]? = some (hh, kk, vv) ∧ H2 a = some (.tup [kk, vv])) → RepL κ (F.add as H2) (as'.map V.ref) (itemsD l') := by
    intro j es' l'
    induction l' generalizing es' with
    | nil =>
      intro as' r hlen _
      cases r
      cases as' with
      | nil => exact .nil
      | cons _ _ => simp at hlen
    | cons p l' ih =>
      intro as' r hlen h
      cases r with
      | cons r1 r2 r3 =>
        cases as' with
        | nil => simp at hlen
        | cons a as' =>
          obtain ⟨ha, hh, kk, vv, e1, e2⟩ := h 0 a rfl
          simp only [List.getElem?_cons_zero, Option.some.injEq, Prod.mk.injEq] at e1
          obtain ⟨rfl, rfl, rfl⟩ := e1
          refine .cons (.tup (.inl (.inl ((add_in ha).trans e2))) (.cons (r1.le (add_le fn)) (.cons (r2.le (add_le fn)) .nil))) (ih _ as' r3 (by simpa using hlen) fun i a' ha' => ?_)
          have := h (i + 1) a' (by simpa using ha')
          simpa using this
  refine go 0 es l as q (by omega) fun i a ha => ⟨List.mem_of_getElem? ha, ?_⟩
  obtain ⟨vs, ⟨j, hh, kk, vv, h1, h2, rfl⟩, h3⟩ := ht a (List.mem_of_getElem? ha)
  have : i = j := by
    have hi := (List.getElem?_eq_some_iff.mp ha)
    have hj := (List.getElem?_eq_some_iff.mp h1)
    obtain ⟨hi, ei⟩ := hi
    obtain ⟨hj, ej⟩ := hj
    exact (List.getElem_inj nd).mp (ei.trans ej.symm)
  subst this
  exact ⟨hh, kk, vv, h2, h3⟩
/-- a view's reading -/
def rV (κ : Ctx) (O : Addr → Addr → HO) (z : List (D × D) → Option (List D)) : List V → Hp → VK → Prop := fun xs H Q => ∃ p a F es l o, xs = [.ref p] ∧ Fk F H ∧ H p = some (O p a) ∧ H a = some (DicO a es) ∧ RepD κ F es.1 l ∧ l.length ≤ sizeLine ∧ z l = some o ∧
  ∀ v H' F', Pure H F H' F' → VP κ H H' F' v (.lst o) true → Q v H'
theorem c_listItems (hK : X.K = κ.K) (hc : X.calm = true) : CallR X (.type "list") (rV κ itemsO fun l => some (itemsD l)) := by
  intro pins s σ H xs us Q I r h
  obtain ⟨p, a, F, es, l, o, rfl, k, hp, ha, q, hsz, ho, hQ⟩ := h
  cases ho
  obtain ⟨u, rfl, rx⟩ := vals1 r
  cases rx
  have view : s.heap.IsItemsView p a := (show ObjOk X.prog X.w H s.heap p (itemsO p a) from I.hok p _ hp).1
  obtain ⟨hS, hl, ents, ep, o, h3, h4, h5, h6, h7⟩ := dic_full I ha q
  refine PySem.W.dil_call (I.ok.hd hc) view ⟨o, h3, h4, h5⟩ (by omega) fun h' tk acc c as hk hL hlen hG hacc => ?_
  have n0 : H s.heap.objs.size = none := I.hok.fresh (Nat.le_refl _)
  have f0 : F.m s.heap.objs.size = none := by
    cases z : F.m s.heap.objs.size with
    | none => rfl
    | some u => exact absurd (k _ _ z) (by rw [n0]; simp)
  have ne : ∀ a ∈ as, a ≠ s.heap.objs.size := fun a ha => Nat.ne_of_gt (hG.above a ha)
  have I1 : Inv X pins σ (upd H s.heap.objs.size (.lst (as.map V.ref))) { s with heap := h', toks := tk } := I.laid (t' := tk) hk (Nat.le_refl _) ⟨by rw [List.length_map]; omega, acc.toList, c, by rw [hacc]; exact vals_refs' as, by rw [Array.toArray_toList]; exact hL⟩
  have p1 : Pure H F (upd H s.heap.objs.size (.lst (as.map V.ref))) F := .made k n0
  obtain ⟨H2, F2, I2, p2, rl, ot⟩ := items_take I I1 p1.fk q h6 hlen hG fun a ha => by
    rw [upd_ne (ne a ha)]
    exact I.hok.fresh (Nat.le_of_lt (hG.above a ha))
  refine ⟨.ref s.heap.objs.size, H2, I2, rfl, hQ _ H2 F2 (p1.trans p2) ⟨_, rfl, n0, ?_, ⟨rfl, _, p2.h _ _ upd_same, rl⟩, rfl⟩⟩
  rw [ot _ fun z => ne _ z rfl]
  exact f0
theorem c_sortedItems (hK : X.K = κ.K) (hc : X.calm = true) (hu : X.A.units + 70 < cLine) : CallR X (.builtin "sorted") (rV κ itemsO fun l => (pys (itemsD l)).bind fun ps => sortF (ps.zip (itemsD l))) := by
  intro pins s σ H xs us Q I r h
  obtain ⟨p, a, F, es, l, so, rfl, k, hp, ha, q, hsz, ho, hQ⟩ := h
  simp only [Option.bind_eq_some_iff] at ho
  obtain ⟨ps, hps, hs⟩ := ho
  obtain ⟨u, rfl, rx⟩ := vals1 r
  cases rx
  have view : s.heap.IsItemsView p a := (show ObjOk X.prog X.w H s.heap p (itemsO p a) from I.hok p _ hp).1
  obtain ⟨hS, hl, ents, ep, o, h3, h4, h5, h6, h7⟩ := dic_full I ha q
  refine Calls.call_function_entry PyProof.Rows.kind_sorted PyProof.Rows.plain_sorted PyProof.Rows.entry_sorted (PyProof.Rows.args_sorted1 _) ?_
  unfold Builtin.«sorted»
  refine wpAny_bind (m := checkCount "sorted" 1 1 _) (wpAny_pure ?_)
  refine wpAny_bind (PySem.W.dil_collect (A := X.A.in1) (I.ok.hd hc) view ⟨o, h3, h4, h5⟩ (by omega) fun h' tk as hk hlen hG => ?_)
  have I1 : Inv X pins σ H { s with heap := h', toks := tk } := I.kept hk
  obtain ⟨H2, F2, I2, p2, rl, ot⟩ := items_take I I1 k q h6 hlen hG fun a ha => I.hok.fresh (Nat.le_of_lt (hG.above a ha))
  have il : (itemsD l).length = l.length := List.length_map _
  refine wpAny_bind (wpAny_newList ?_ (by rw [List.length_map]; omega))
  refine wpAny_bind (wpAny_holding (wpAny_mono (sort_tail (s := { s with heap := h', toks := tk }) (h' := h') (tk := tk) hK hu p2.fk I2 (fun _ _ z => z) rl (vals_refs' as) hps hs fun v H' F' p3 vp => hQ v H' F' (p2.trans p3) ?_) (fun _ s' x => ?_) fun _ _ e => e))
  · obtain ⟨b, rfl, n, nf, rt⟩ := vp
    refine ⟨b, rfl, ?_, nf, rt⟩
    cases z : H b with
    | none => rfl
    | some u => exact absurd (p2.h _ _ z) (by rw [n]; simp)
  · exact wpAny_pure ⟨_, rfl, x⟩
theorem raw_vals {ents : Array DictEntry} {i : Nat} {v : Value} (h : ∃ hi : i < ents.size, v = ents[i].val) : (ents.toList.map (·.val))[i]? = some v := by
  obtain ⟨hi, rfl⟩ := h
  rw [List.getElem?_map, Array.getElem?_toList, Array.getElem?_eq_getElem hi]
  rfl
theorem c_listVals (hK : X.K = κ.K) (hc : X.calm = true) : CallR X (.type "list") (rV κ valsO fun l => some (l.map (·.2))) := by
  intro pins s σ H xs us Q I r h
  obtain ⟨p, a, F, es, l, o, rfl, k, hp, ha, q, hsz, ho, hQ⟩ := h
  cases ho
  obtain ⟨u, rfl, rx⟩ := vals1 r
  cases rx
  have view : s.heap.IsValuesView p a := (show ObjOk X.prog X.w H s.heap p (valsO p a) from I.hok p _ hp).1
  obtain ⟨hS, hl, ents, ep, o, h3, h4, h5, h6, h7⟩ := dic_full I ha q
  refine PySem.W.kdl_call (PySem.KdlSrc.rawValues (es := ents) (ep := ep)) (I.ok.hd hc) ⟨view, o, h3, h4, h5⟩ (by omega) fun h' tk acc' c' hkeep hSz hacc => ?_
  have e := items_eq (us := ents.toList.map (·.val)) (by rw [List.length_map, Array.length_toList]; exact hacc) fun i v z => raw_vals z
  have n0 : H s.heap.objs.size = none := I.hok.fresh (Nat.le_refl _)
  refine ⟨.ref s.heap.objs.size, _, I.laid (t' := tk) hkeep (Nat.le_refl _) (show ObjOk X.prog X.w _ _ _ (.lst (es.1.map fun q => q.2.2)) from ⟨by rw [List.length_map]; exact hl, acc'.toList, c', ?_, ?_⟩), rfl, fin_lst k q.vals hQ _ n0⟩
  · rw [e]; exact vals_vals h6
  · rw [Array.toArray_toList]; exact hSz
end
end WW
end
section
set_option maxHeartbeats 1000000
/-! expressions, one after the other -/
namespace WW
open PySem PySem.Spec PyProof.Rows L2 L2.DX

/-- what a context is known to be -/
structure XC (κ : Ctx) (X : Cx) : Prop where
  K : X.K = κ.K
  w : X.w = κ.w
  mg : X.mg = κ.mg
  hu : X.A.units + 70 < cLine
  calm : X.calm = true
  nd : X.N.Nodup

/-! ### what an expression is not -/
def nSlice : Expr → Bool
  | .Slice _ _ _ _ => false
  | _ => true
theorem plainIx {e : Expr} (h : nSlice e = true) : PlainIx e := fun o i => by
  cases e <;> first | rfl | simp [nSlice] at h
def nSet : Expr → Bool
  | .Set _ _ _ => false
  | _ => true
theorem nMark {e : Expr} (h : nSet e = true) (op : CmpOp) : behindInMarks op e = false := by
  cases e <;> first | rfl | simp [nSet] at h
def nCall0 : Expr → Bool
  | .Call _ [] [] _ => false
  | _ => true
theorem attrBase {o : Expr} (h : nCall0 o = true) (m : Str) (env : PySem.Env) (wh : Sem Value) : attributeBase o m env wh = wh := by
  unfold attributeBase
  cases o with
  | Call f a kw p =>
    cases f with
    | Name id q =>
      cases a with
      | nil =>
        cases kw with
        | nil => simp [nCall0] at h
        | cons _ _ => rfl
      | cons _ _ => rfl
    | _ => rfl
  | _ => rfl
theorem star_plain {e : Expr} {es : List Expr} (h : nStar e = true) (hs : es.all nStar = true) (pos : Pos) (env : PySem.Env) : (backTo pos (starEach es env)).any (·.1) = false := by
  induction es with
  | nil => rfl
  | cons x es ih =>
    rw [List.all_cons, Bool.and_eq_true] at hs
    rw [starEach_cons hs.1]
    show (false || _) = false
    rw [Bool.false_or]
    exact ih hs.2
theorem star_few {es : List Expr} (hs : es.all nStar = true) (pos : Pos) (env : PySem.Env) : (backTo pos (starEach es env)).all (fun x => !x.1) = true := by
  induction es with
  | nil => rfl
  | cons x es ih =>
    rw [List.all_cons, Bool.and_eq_true] at hs
    rw [starEach_cons hs.1]
    show (true && _) = true
    rw [Bool.true_and]
    exact ih hs.2

section
variable {κ : Ctx} {C : Cl} {X : Cx} {a b c e : Expr} {a' b' c' e' : E} {es : List Expr} {es' : List E} {pos : Pos}
/-! ### constants, names -/
theorem sn_c {d : D} {v : V} {e : Expr} (h : PE X e (tC v)) (r : ∀ F, Rep κ F v d) : PE X e (tV κ C (.c d)) := h.imp fun σ H Q q => by
  obtain ⟨Gd, A, r', g, F, t, f, st, q, h, k⟩ := q
  cases h
  exact k v H F A .rfl q (r F)
theorem sn_v {i : Nat} {x : Str} (hN : X.N[i]? = some x) (hv : Vis X.env.scope x) (hd : (x == ("__debug__" : Str)) = false) (hcd : (x == ("__classdict__" : Str)) = false) : PE X (.Name x pos) (tV κ C (.v i)) := (pe_var hN hv hd hcd).imp fun σ H Q q => by
  obtain ⟨Gd, A, r, g, F, t, f, st, q, h, k⟩ := q
  simp only [ev, Option.map_eq_some_iff, ok] at h
  obtain ⟨d, h1, h2⟩ := h
  cases h2
  obtain ⟨F', gr, q', v, hs, rp⟩ := q.frz h1
  exact ⟨v, hs, k v H F' A gr q' rp⟩
theorem sn_p {i : Nat} {x : Str} (hN : X.N[i]? = some x) (hv : Vis X.env.scope x) (hd : (x == ("__debug__" : Str)) = false) (hcd : (x == ("__classdict__" : Str)) = false) : PE X (.Name x pos) (tV κ C (.p i)) := (pe_var hN hv hd hcd).imp fun σ H Q q => by
  obtain ⟨Gd, A, r, g, F, t, f, st, q, h, k⟩ := q
  simp only [ev, Option.map_eq_some_iff] at h
  obtain ⟨d, h1, h2⟩ := h
  cases h2
  obtain ⟨v, hs, _⟩ := q.look h1
  obtain ⟨F', A', gr, q'⟩ := q.inn i
  exact ⟨v, hs, k v H F' A' gr q' hs⟩
theorem sn_fn (xc : XC κ X) {x : Str} {ad : Addr} (hg : Gl X x) (hm : κ.mg x = some (.ref ad)) (hd : (x == ("__debug__" : Str)) = false) : PE X (.Name x pos) (tV κ C (.fn x)) :=
  (pe_glob hg (by rw [xc.mg]; exact hm) (v := .ref ad) rfl hd).imp fun σ H Q q => by
    obtain ⟨Gd, A, r, g, F, t, f, st, q, h, k⟩ := q
    cases h
    exact k _ H F A .rfl q (.fn hm)
/-! ### operations -/
theorem sn_bin {op : Operator} {o : B} (ho : OpR X (binaryOp op) (rB κ (bF o))) (ha : PE X a (tV κ C a')) (hb : PE X b (tV κ C b')) : PE X (.BinOp a op b pos) (tV κ C (.b o a' b')) :=
  (pe_op ho ha hb).imp fun _ _ _ q => op2 q
theorem sn_un {op : UnaryOp} {o : U} (ho : UnR X (unaryOp op) (rU κ (uF o))) (ha : PE X a (tV κ C a')) : PE X (.UnaryOp op a pos) (tV κ C (.u o a')) :=
  (pe_un ho ha).imp fun _ _ _ q => op1 q
theorem sn_cmp {op : CmpOp} {o : B} (ho : OpR X (compareOp op) (rB κ (bF o))) (ha : PE X a (tV κ C a')) (hb : PE X b (tV κ C b')) (hm : nSet b = true) : PE X (.Compare a [op] [b] pos) (tV κ C (.b o a' b')) :=
  (pe_cmpR ho ha hb (nMark hm op)).imp fun _ _ _ q => op2 q
theorem ro_non {H : Hp} {F : Fz} {v : V} {d : D} (h : RO κ H F v d) : (v = .non) ↔ d = .non := by
  constructor
  · intro e
    subst e
    rcases h with h | ⟨a, _, e, _⟩
    · cases h; rfl
    · cases e
  · intro e
    subst e
    exact h.non
theorem sn_isN {j : Nat} {p' : Pos} (ha : PE X a (tV κ C a')) : PE X (.Compare a [.Is] [.Constant .none j p'] pos) (tV κ C (.u .isN a')) :=
  (pe_cmp (pc_isN ha) (nMark rfl _)).imp fun σ H Q q => by
    obtain ⟨Gd, A, r, g, F, t, f, st, q, h, k⟩ := q
    simp only [ev, Option.bind_eq_some_iff, Option.map_eq_some_iff, ok] at h
    obtain ⟨⟨t1, f1, s1⟩, h1, d, h3, ⟨z, f'⟩, h5, h6⟩ := h
    cases h6
    refine tV.op q h1 fun v1 H1 F1 A1 g1 q1 o1 => ?_
    have ro := rsl_ro q1 o1 .rfl h3
    have e : z = .bl (decide (v1 = .non)) ∧ f' = false := by
      simp only [uF] at h5
      split at h5
      · cases h5; exact ⟨by rw [decide_eq_true ((ro_non ro).mpr rfl)], rfl⟩
      · rename_i hn; cases h5; exact ⟨by rw [decide_eq_false fun z => hn ((ro_non ro).mp z)], rfl⟩
    obtain ⟨rfl, rfl⟩ := e
    exact k _ H1 F1 A1 g1 q1 (Rep.bl _)
theorem sn_notN {j : Nat} {p' : Pos} (ha : PE X a (tV κ C a')) : PE X (.Compare a [.IsNot] [.Constant .none j p'] pos) (tV κ C (.u .notN a')) :=
  (pe_cmp (pc_notN ha) (nMark rfl _)).imp fun σ H Q q => by
    obtain ⟨Gd, A, r, g, F, t, f, st, q, h, k⟩ := q
    simp only [ev, Option.bind_eq_some_iff, Option.map_eq_some_iff, ok] at h
    obtain ⟨⟨t1, f1, s1⟩, h1, d, h3, ⟨z, f'⟩, h5, h6⟩ := h
    cases h6
    refine tV.op q h1 fun v1 H1 F1 A1 g1 q1 o1 => ?_
    have ro := rsl_ro q1 o1 .rfl h3
    have e : z = .bl (!decide (v1 = .non)) ∧ f' = false := by
      simp only [uF] at h5
      split at h5
      · cases h5; exact ⟨by rw [decide_eq_true ((ro_non ro).mpr rfl)]; rfl, rfl⟩
      · rename_i hn; cases h5; exact ⟨by rw [decide_eq_false fun z => hn ((ro_non ro).mp z)]; rfl, rfl⟩
    obtain ⟨rfl, rfl⟩ := e
    exact k _ H1 F1 A1 g1 q1 (Rep.bl _)
theorem sn_ix (xc : XC κ X) (ha : PE X a (tV κ C a')) (hb : PE X b (tV κ C b')) (hs : nSlice b = true) : PE X (.Subscript a b pos) (tV κ C (.b .idx a' b')) :=
  (pe_ix (i_idx xc.K xc.w xc.hu) ha hb (plainIx hs)).imp fun _ _ _ q => op2 q
/-- a value whose flag is shared, told so -/
theorem vr_bl {Gd : Hp} {A : Nat → List Addr} {r : Env} {H : Hp} {F : Fz} {v : V} {b : Bool} {f : Bool} (h : VR κ Gd A r H F v (.bl b) f) : v = .bl b := by
  cases f with
  | false => cases (show Rep κ F v (.bl b) from h); rfl
  | true => obtain ⟨a, _, rt, _⟩ := h; exact rt.elim
theorem sn_and {rest : List Expr} (ha : PE X a (tV κ C a')) (hb : PE X (.BoolOp .And (b :: rest) pos) (tV κ C b')) : PE X (.BoolOp .And (a :: b :: rest) pos) (tV κ C (.and a' b')) :=
  (pe_and ha hb).imp fun σ H Q q => by
    obtain ⟨Gd, A, r, g, F, t, f, st, q, h, k⟩ := q
    simp only [ev, Option.bind_eq_some_iff] at h
    obtain ⟨⟨d, f1, s1⟩, h1, h2⟩ := h
    refine ⟨Gd, A, r, g, F, _, _, s1, q, toE_some h1, fun v H1 F1 A1 g1 q1 o1 => ?_⟩
    dsimp only at h2
    split at h2
    · simp only [Option.map_eq_some_iff, ok] at h2
      obtain ⟨⟨e, f2, s2⟩, h3, h4⟩ := h2
      cases h4
      refine ⟨true, vr_bl o1, ?_⟩
      rw [if_pos rfl]
      refine tV.op q1 (toE_some h3) fun v2 H2 F2 A2 g2 q2 o2 => k v2 H2 F2 A2 (g1.trans g2) q2 o2
    · cases h2
      refine ⟨false, vr_bl o1, ?_⟩
      rw [if_neg (by simp)]
      exact k _ H1 F1 A1 g1 q1 (Rep.bl _)
    · cases h2
theorem sn_or {rest : List Expr} (ha : PE X a (tV κ C a')) (hb : PE X (.BoolOp .Or (b :: rest) pos) (tV κ C b')) : PE X (.BoolOp .Or (a :: b :: rest) pos) (tV κ C (.or a' b')) :=
  (pe_or ha hb).imp fun σ H Q q => by
    obtain ⟨Gd, A, r, g, F, t, f, st, q, h, k⟩ := q
    simp only [ev, Option.bind_eq_some_iff] at h
    obtain ⟨⟨d, f1, s1⟩, h1, h2⟩ := h
    refine ⟨Gd, A, r, g, F, _, _, s1, q, toE_some h1, fun v H1 F1 A1 g1 q1 o1 => ?_⟩
    dsimp only at h2
    split at h2
    · cases h2
      refine ⟨true, vr_bl o1, ?_⟩
      rw [if_pos rfl]
      exact k _ H1 F1 A1 g1 q1 (Rep.bl _)
    · simp only [Option.map_eq_some_iff, ok] at h2
      obtain ⟨⟨e, f2, s2⟩, h3, h4⟩ := h2
      cases h4
      refine ⟨false, vr_bl o1, ?_⟩
      rw [if_neg (by simp)]
      refine tV.op q1 (toE_some h3) fun v2 H2 F2 A2 g2 q2 o2 => k v2 H2 F2 A2 (g1.trans g2) q2 o2
    · cases h2
theorem sn_not (ha : PE X a (tV κ C a')) : PE X (.UnaryOp .Not a pos) (tV κ C (.not a')) :=
  (pe_not ha).imp fun σ H Q q => by
    obtain ⟨Gd, A, r, g, F, t, f, st, q, h, k⟩ := q
    simp only [ev, Option.bind_eq_some_iff] at h
    obtain ⟨⟨d, f1, s1⟩, h1, h2⟩ := h
    refine ⟨Gd, A, r, g, F, _, _, s1, q, toE_some h1, fun v H1 F1 A1 g1 q1 o1 => ?_⟩
    dsimp only at h2
    split at h2
    · cases h2
      exact ⟨_, vr_bl o1, k _ H1 F1 A1 g1 q1 (Rep.bl _)⟩
    · cases h2

/-! ### tests -/
def tT (κ : Ctx) (C : Cl) (e : E) : TT := fun σ H Q => ∃ (Gd : Hp) (A : Nat → List Addr) (r : Env) (g : G) (F : Fz) (b : Bool) (f : Bool) (st : St),
  R κ Gd A r g σ H F ∧ ev C e ⟨r, g⟩ = some (.inr (.bl b), f, st) ∧ ∀ H' F' A', Grow Gd F F' → R κ Gd A' st.r st.g σ H' F' → Q b H'
theorem _root_.L2.PT.imp {t t' : TT} (h : PT X e t) (i : ∀ σ H Q, t' σ H Q → t σ H Q) : PT X e t' := ⟨fun pins s σ H Q I q => h.run pins s σ H Q I (i _ _ _ q)⟩
theorem _root_.L2.PW.imp {t t' : TT} (h : PW X e t) (i : ∀ σ H Q, t' σ H Q → t σ H Q) : PW X e t' := ⟨fun wh pins s σ H Q I q => h.run wh pins s σ H Q I (i _ _ _ q)⟩
/-- its test is its value's truth -/
def plainT : Expr → Bool
  | .UnaryOp .Not _ _ => false
  | .BoolOp _ _ _ => false
  | .IfExp _ _ _ _ => false
  | .Compare _ _ _ _ => false
  | _ => true
theorem isTrue_of {e : Expr} (h : plainT e = true) (env : PySem.Env) (wh : Sem Value) : isTrue e env wh = (do let v ← wh; standAt e.pos; holding [v] (truthy v)) := by
  cases e with
  | UnaryOp op x p => cases op <;> first | rfl | simp [plainT] at h
  | BoolOp _ _ _ => simp [plainT] at h
  | IfExp _ _ _ _ => simp [plainT] at h
  | Compare _ _ _ _ => simp [plainT] at h
  | _ => rfl
theorem sn_tru (xc : XC κ X) (hp : plainT e = true) (ha : PE X e (tV κ C e')) : PT X e (tT κ C (.u .tru e')) := by
  refine ⟨fun pins s σ H Q I q => ?_⟩
  obtain ⟨Gd, A, r, g, F, b, f, st, q, h, k⟩ := q
  simp only [ev, Option.bind_eq_some_iff, Option.map_eq_some_iff, ok] at h
  obtain ⟨⟨t1, f1, s1⟩, h1, d, h3, ⟨z, f'⟩, h5, h6⟩ := h
  cases h6
  simp only [uF, Option.map_eq_some_iff] at h5
  obtain ⟨bq, h5, h7⟩ := h5
  cases h7
  have hr : tV κ C e' σ H fun x H1 => rTr κ x H1 Q := tV.op q h1 fun v1 H1 F1 A1 g1 q1 o1 => ⟨F1, d, _, q1.fk, rsl_ro q1 o1 .rfl h3, h5, k H1 F1 A1 g1 q1⟩
  exact isTrue_plain (thn (ha.run pins s σ H _ I hr) fun v s1 ⟨x, H1, I1, r1, q1⟩ => t_tru xc.K pins s1 σ H1 x v Q I1 r1 q1) (isTrue_of hp _ _)
theorem tT_of {Gd : Hp} {A : Nat → List Addr} {r : Env} {g : G} {F : Fz} {σ : L2.St} {H : Hp} {Q : Bool → Hp → Prop} {b f : Bool} {st : St} (q : R κ Gd A r g σ H F) (h : ev C e' ⟨r, g⟩ = some (.inr (.bl b), f, st)) (k : ∀ H' F' A', Grow Gd F F' → R κ Gd A' st.r st.g σ H' F' → Q b H') : tT κ C e' σ H Q :=
  ⟨Gd, A, r, g, F, b, f, st, q, h, k⟩
theorem st_and (ha : PT X a (tT κ C a')) {rest : List Expr} (hb : PW X (.BoolOp .And (b :: rest) pos) (tT κ C b')) : PW X (.BoolOp .And (a :: b :: rest) pos) (tT κ C (.and a' b')) :=
  L2.PW.imp (pw_and ha hb) fun σ H Q q => by
    obtain ⟨Gd, A, r, g, F, bb, f, st, q, h, k⟩ := q
    simp only [ev, Option.bind_eq_some_iff] at h
    obtain ⟨⟨d, f1, s1⟩, h1, h2⟩ := h
    dsimp only at h2
    split at h2
    · simp only [Option.map_eq_some_iff, ok] at h2
      obtain ⟨⟨e, f2, s2⟩, h3, h4⟩ := h2
      cases h4
      refine tT_of q (toE_some h1) fun H1 F1 A1 g1 q1 => ?_
      rw [if_pos rfl]
      exact tT_of q1 (toE_some h3) fun H2 F2 A2 g2 q2 => k H2 F2 A2 (g1.trans g2) q2
    · cases h2
      refine tT_of q (toE_some h1) fun H1 F1 A1 g1 q1 => ?_
      rw [if_neg (by simp)]
      exact k H1 F1 A1 g1 q1
    · cases h2
theorem st_or (ha : PT X a (tT κ C a')) {rest : List Expr} (hb : PW X (.BoolOp .Or (b :: rest) pos) (tT κ C b')) : PW X (.BoolOp .Or (a :: b :: rest) pos) (tT κ C (.or a' b')) :=
  L2.PW.imp (pw_or ha hb) fun σ H Q q => by
    obtain ⟨Gd, A, r, g, F, bb, f, st, q, h, k⟩ := q
    simp only [ev, Option.bind_eq_some_iff] at h
    obtain ⟨⟨d, f1, s1⟩, h1, h2⟩ := h
    dsimp only at h2
    split at h2
    · cases h2
      refine tT_of q (toE_some h1) fun H1 F1 A1 g1 q1 => ?_
      rw [if_pos rfl]
      exact k H1 F1 A1 g1 q1
    · simp only [Option.map_eq_some_iff, ok] at h2
      obtain ⟨⟨e, f2, s2⟩, h3, h4⟩ := h2
      cases h4
      refine tT_of q (toE_some h1) fun H1 F1 A1 g1 q1 => ?_
      rw [if_neg (by simp)]
      exact tT_of q1 (toE_some h3) fun H2 F2 A2 g2 q2 => k H2 F2 A2 (g1.trans g2) q2
    · cases h2
theorem st_not (ha : PT X a (tT κ C a')) : PT X (.UnaryOp .Not a pos) (tT κ C (.not a')) :=
  L2.PT.imp (pt_not ha) fun σ H Q q => by
    obtain ⟨Gd, A, r, g, F, bb, f, st, q, h, k⟩ := q
    simp only [ev, Option.bind_eq_some_iff] at h
    obtain ⟨⟨d, f1, s1⟩, h1, h2⟩ := h
    dsimp only at h2
    split at h2
    · cases h2
      exact tT_of q (toE_some h1) fun H1 F1 A1 g1 q1 => k H1 F1 A1 g1 q1
    · cases h2
/-- a comparison as a test -/
theorem st_cmp {op : CmpOp} {o : B} (ho : OpR X (compareOp op) (rB κ (bF o))) (ha : PE X a (tV κ C a')) (hb : PE X b (tV κ C b')) (hm : nSet b = true) : PT X (.Compare a [op] [b] pos) (tT κ C (.b o a' b')) :=
  L2.PT.imp (pt_cmpR ho ha hb (nMark hm op)) fun σ H Q q => by
    obtain ⟨Gd, A, r, g, F, bb, f, st, q, h, k⟩ := q
    refine op2 ⟨Gd, A, r, g, F, _, f, st, q, h, fun v H' F' A' gr q' tv => ⟨bb, vr_bl tv, k H' F' A' gr q'⟩⟩
theorem st_isN {j : Nat} {p' : Pos} (ha : PE X a (tV κ C a')) : PT X (.Compare a [.Is] [.Constant .none j p'] pos) (tT κ C (.u .isN a')) := by
  refine L2.PT.imp (pt_cmp (pc_isN ha) (nMark rfl _)) fun σ H Q q => ?_
  obtain ⟨Gd, A, r, g, F, bb, f, st, q, h, k⟩ := q
  simp only [ev, Option.bind_eq_some_iff, Option.map_eq_some_iff, ok] at h
  obtain ⟨⟨t1, f1, s1⟩, h1, d, h3, ⟨z, f'⟩, h5, h6⟩ := h
  cases h6
  refine tV.op q h1 fun v1 H1 F1 A1 g1 q1 o1 => ?_
  have ro := rsl_ro q1 o1 .rfl h3
  have e : bb = decide (v1 = .non) := by
    simp only [uF] at h5
    split at h5
    · cases h5; rw [decide_eq_true ((ro_non ro).mpr rfl)]
    · rename_i hn; cases h5; rw [decide_eq_false fun z => hn ((ro_non ro).mp z)]
  subst e
  exact ⟨_, rfl, k H1 F1 A1 g1 q1⟩
theorem st_notN {j : Nat} {p' : Pos} (ha : PE X a (tV κ C a')) : PT X (.Compare a [.IsNot] [.Constant .none j p'] pos) (tT κ C (.u .notN a')) := by
  refine L2.PT.imp (pt_cmp (pc_notN ha) (nMark rfl _)) fun σ H Q q => ?_
  obtain ⟨Gd, A, r, g, F, bb, f, st, q, h, k⟩ := q
  simp only [ev, Option.bind_eq_some_iff, Option.map_eq_some_iff, ok] at h
  obtain ⟨⟨t1, f1, s1⟩, h1, d, h3, ⟨z, f'⟩, h5, h6⟩ := h
  cases h6
  refine tV.op q h1 fun v1 H1 F1 A1 g1 q1 o1 => ?_
  have ro := rsl_ro q1 o1 .rfl h3
  have e : bb = !decide (v1 = .non) := by
    simp only [uF] at h5
    split at h5
    · cases h5; rw [decide_eq_true ((ro_non ro).mpr rfl)]; rfl
    · rename_i hn; cases h5; rw [decide_eq_false fun z => hn ((ro_non ro).mp z)]; rfl
  subst e
  exact ⟨_, rfl, k H1 F1 A1 g1 q1⟩
theorem sn_ite (hc : PT X c (tT κ C c')) (ha : PE X a (tV κ C a')) (hb : PE X b (tV κ C b')) : PE X (.IfExp c a b pos) (tV κ C (.ite c' a' b')) :=
  (pe_ifExp hc ha hb).imp fun σ H Q q => by
    obtain ⟨Gd, A, r, g, F, t, f, st, q, h, k⟩ := q
    simp only [ev, Option.bind_eq_some_iff] at h
    obtain ⟨⟨d, f1, s1⟩, h1, h2⟩ := h
    dsimp only at h2
    split at h2
    · simp only [Option.map_eq_some_iff, ok] at h2
      obtain ⟨⟨e, f2, s2⟩, h3, h4⟩ := h2
      cases h4
      refine tT_of q (toE_some h1) fun H1 F1 A1 g1 q1 => ?_
      rw [if_pos rfl]
      exact ⟨Gd, A1, s1.r, s1.g, F1, _, _, _, q1, toE_some h3, fun v2 H2 F2 A2 g2 q2 o2 => k v2 H2 F2 A2 (g1.trans g2) q2 o2⟩
    · simp only [Option.map_eq_some_iff, ok] at h2
      obtain ⟨⟨e, f2, s2⟩, h3, h4⟩ := h2
      cases h4
      refine tT_of q (toE_some h1) fun H1 F1 A1 g1 q1 => ?_
      rw [if_neg (by simp)]
      exact ⟨Gd, A1, s1.r, s1.g, F1, _, _, _, q1, toE_some h3, fun v2 H2 F2 A2 g2 q2 o2 => k v2 H2 F2 A2 (g1.trans g2) q2 o2⟩
    · cases h2
/-! ### displays -/
theorem sa_nil : PA X [] (tEs κ C []) := pa_nil.imp fun _ _ _ q => q.nil
theorem sa_cons (he : PE X e (tV κ C e')) (hr : PA X es (tEs κ C es')) (hs : nStar e = true) : PA X (e :: es) (tEs κ C (e' :: es')) :=
  (pa_cons he hr (starEach_cons hs es X.env)).imp fun _ _ _ q => q.cons
theorem fin_tup' {Gd : Hp} {A : Nat → List Addr} {r : Env} {g : G} {σ : L2.St} {H : Hp} {F F0 : Fz} {ds : List D} {vs : List V} {K : V → Hp → Prop} (q : R κ Gd A r g σ H F) (gr : Grow Gd F0 F) (rl : RepL κ F vs ds)
    (k : ∀ v H' F' A', Grow Gd F0 F' → R κ Gd A' r g σ H' F' → TV κ Gd A' r σ H' F' v false (.inr (.tup ds)) → K v H') : ∀ p, H p = none → K (.ref p) (upd H p (.tup vs)) := fin_tup q.fk rl fun v H' F' p vp => fin_op q gr k v H' F' p vp
theorem fin_lst' {Gd : Hp} {A : Nat → List Addr} {r : Env} {g : G} {σ : L2.St} {H : Hp} {F F0 : Fz} {ds : List D} {vs : List V} {K : V → Hp → Prop} (q : R κ Gd A r g σ H F) (gr : Grow Gd F0 F) (rl : RepL κ F vs ds)
    (k : ∀ v H' F' A', Grow Gd F0 F' → R κ Gd A' r g σ H' F' → TV κ Gd A' r σ H' F' v true (.inr (.lst ds)) → K v H') : ∀ p, H p = none → K (.ref p) (upd H p (.lst vs)) := fin_lst q.fk rl fun v H' F' p vp => fin_op q gr k v H' F' p vp
theorem sn_tup {x1 : Nat} (h : PA X es (tEs κ C es')) : PE X (.Tuple es x1 pos) (tV κ C (.tup es')) :=
  (pe_tup h).imp fun σ H Q q => by
    obtain ⟨Gd, A, r, g, F, t, f, st, q, h, k⟩ := q
    simp only [ev, Option.bind_eq_some_iff] at h
    obtain ⟨⟨ds, s1⟩, h1, h2⟩ := h
    dsimp only at h2
    split at h2
    · rename_i hl
      cases h2
      exact ⟨Gd, A, r, g, F, ds, _, q, h1, fun vs H' F' A' gr q' rl => ⟨by rw [rl.length]; exact hl, fin_tup' q' gr rl k⟩⟩
    · cases h2
theorem sn_lst (h : PA X es (tEs κ C es')) : PE X (.List es pos) (tV κ C (.lst es')) :=
  (pe_lst h).imp fun σ H Q q => by
    obtain ⟨Gd, A, r, g, F, t, f, st, q, h, k⟩ := q
    simp only [ev, Option.bind_eq_some_iff] at h
    obtain ⟨⟨ds, s1⟩, h1, h2⟩ := h
    dsimp only at h2
    split at h2
    · rename_i hl
      cases h2
      exact ⟨Gd, A, r, g, F, ds, _, q, h1, fun vs H' F' A' gr q' rl => ⟨by rw [rl.length]; exact hl, fin_lst' q' gr rl k⟩⟩
    · cases h2
/-! ### calls of what is built in -/
theorem call1 {o : U} {σ : L2.St} {H : Hp} {Q : VK} (q : tV κ C (.u o e') σ H Q) : tCB (rC κ (uF o)) (tCons (tV κ C e') tNil) σ H Q := by
  have := op1 q
  obtain ⟨Gd, A, r, g, F, t, f, st, q, h, k⟩ := this
  exact ⟨Gd, A, r, g, F, t, f, st, q, h, fun v H' F' A' gr q' tv => ⟨v, rfl, k v H' F' A' gr q' tv⟩⟩
theorem call2 {o : B} {σ : L2.St} {H : Hp} {Q : VK} (q : tV κ C (.b o a' b') σ H Q) : tCB (rC2 κ (bF o)) (tCons (tV κ C a') (tCons (tV κ C b') tNil)) σ H Q := by
  have := op2 q
  obtain ⟨Gd, A, r, g, F, t, f, st, q, h, k⟩ := this
  refine ⟨Gd, A, r, g, F, t, f, st, q, h, fun v H' F' A' gr q' tv => ?_⟩
  obtain ⟨Gd, A, r, g, F, t, f, st, q, h, k⟩ := k v H' F' A' gr q' tv
  exact ⟨Gd, A, r, g, F, t, f, st, q, h, fun v2 H' F' A' gr q' tv => ⟨v, v2, rfl, k v2 H' F' A' gr q' tv⟩⟩
variable {x : Str} {p : Pos}
theorem sn_blt1 {o : U} {id : String} (xc : XC κ X) (hc : CallR X (.builtin id) (rC κ (uF o))) (hg : Gl X x) (hm : κ.mg x = none) (hv : bootBuiltins x = some (.builtin id)) (hn : x ≠ "__name__") (hd : (x == ("__debug__" : Str)) = false) (he : PE X e (tV κ C e')) (hs : nStar e = true) :
    PE X (.Call (.Name x p) [e] [] pos) (tV κ C (.u o e')) :=
  (pe_callB hc hg (by rw [xc.mg]; exact hm) hv (pa_cons he pa_nil (starEach_cons hs [] X.env)) hn hd (starEach_cons hs [] X.env) rfl).imp fun _ _ _ q => call1 q
theorem sn_ty1 {o : U} {id : String} (xc : XC κ X) (hc : CallR X (.type id) (rC κ (uF o))) (hg : Gl X x) (hm : κ.mg x = none) (hv : bootBuiltins x = some (.type id)) (hn : x ≠ "__name__") (hd : (x == ("__debug__" : Str)) = false) (he : PE X e (tV κ C e')) (hs : nStar e = true) :
    PE X (.Call (.Name x p) [e] [] pos) (tV κ C (.u o e')) :=
  (pe_callTy hc hg (by rw [xc.mg]; exact hm) hv (pa_cons he pa_nil (starEach_cons hs [] X.env)) hn hd (starEach_cons hs [] X.env) rfl).imp fun _ _ _ q => call1 q
theorem sn_blt2 {o : B} {id : String} (xc : XC κ X) (hc : CallR X (.builtin id) (rC2 κ (bF o))) (hg : Gl X x) (hm : κ.mg x = none) (hv : bootBuiltins x = some (.builtin id)) (hn : x ≠ "__name__") (hd : (x == ("__debug__" : Str)) = false) (ha : PE X a (tV κ C a')) (hb : PE X b (tV κ C b')) (hs : nStar a = true) (hs2 : nStar b = true) :
    PE X (.Call (.Name x p) [a, b] [] pos) (tV κ C (.b o a' b')) :=
  (pe_callB hc hg (by rw [xc.mg]; exact hm) hv (pa_cons ha (pa_cons hb pa_nil (starEach_cons hs2 [] X.env)) (starEach_cons hs [b] X.env)) hn hd (starEach_cons hs [b] X.env) (star_plain hs (by simp [hs2]) _ _)).imp fun _ _ _ q => call2 q
end
end WW
end
section
set_option maxHeartbeats 1000000
/-! expressions: isinstance, slices, methods, displays of dicts -/
namespace WW
open PySem PySem.Spec PyProof.Rows L2 L2.DX
section
variable {κ : Ctx} {C : Cl} {X : Cx} {a b c e : Expr} {a' b' c' e' : E} {es : List Expr} {es' : List E} {pos : Pos} {x : Str} {p : Pos}
/-! ### isinstance -/
/-- the types' names are the built-in ones' -/
def tyName (X : Cx) (n : Str) (t : Ty) : Prop := Gl X n ∧ X.mg n = none ∧ bootBuiltins n = some (.type t.nm) ∧ n ≠ "__name__" ∧ (n == ("__debug__" : Str)) = false
theorem pe_ty {n : Str} {t : Ty} (h : tyName X n t) : PE X (.Name n p) (tC (.ty t.nm)) := pe_bltn h.1 h.2.1 h.2.2.1 rfl h.2.2.2.1 h.2.2.2.2
theorem sn_isi1 (xc : XC κ X) {n : Str} {t : Ty} {p1 p2 : Pos} (hg : Gl X x) (hm : κ.mg x = none) (hv : bootBuiltins x = some (.builtin "isinstance")) (hn : x ≠ "__name__") (hd : (x == ("__debug__" : Str)) = false) (he : PE X e (tV κ C e')) (hs : nStar e = true) (ht : tyName X n t) :
    PE X (.Call (.Name x p1) [e, .Name n p2] [] pos) (tV κ C (.u (.isi [t]) e')) :=
  (pe_callB (c_isi (ts := [t]) xc.K) hg (by rw [xc.mg]; exact hm) hv (pa_cons he (pa_cons (pe_ty ht) pa_nil (starEach_cons rfl [] X.env)) (starEach_cons hs [_] X.env)) hn hd (starEach_cons hs [_] X.env) (star_plain hs rfl _ _)).imp fun σ H Q q => by
    obtain ⟨Gd, A, r, g, F, tt, f, st, q, h, k⟩ := q
    simp only [ev, Option.bind_eq_some_iff, Option.map_eq_some_iff, ok] at h
    obtain ⟨⟨t1, f1, s1⟩, h1, d, h3, ⟨z, f'⟩, h5, h6⟩ := h
    cases h6
    refine tV.op q h1 fun v1 H1 F1 A1 g1 q1 o1 => ?_
    exact ⟨v1, _, F1, d, z, _, rfl, q1.fk, rsl_ro q1 o1 .rfl h3, h5, .inl ⟨t, rfl, rfl⟩, fin_op q1 g1 k⟩
theorem pa_tys {ts : List Ty} : ∀ {ns : List (Str × Pos)}, ns.length = ts.length → (∀ (i : Nat) (n : Str × Pos) (t : Ty), ns[i]? = some n → ts[i]? = some t → tyName X n.1 t) →
    PA X (ns.map fun n => Expr.Name n.1 n.2) (fun _ H Q => Q (ts.map fun t => V.ty t.nm) H) := by
  induction ts with
  | nil =>
    intro ns hl _
    cases ns with
    | nil => exact pa_nil
    | cons _ _ => simp at hl
  | cons t ts ih =>
    intro ns hl h
    cases ns with
    | nil => simp at hl
    | cons n ns => exact pa_cons (pe_ty (h 0 n t rfl rfl)) (ih (by simpa using hl) fun i n' t' e1 e2 => h (i + 1) n' t' (by simpa using e1) (by simpa using e2)) (starEach_cons rfl _ X.env)
theorem sn_isiT (xc : XC κ X) {ns : List (Str × Pos)} {ts : List Ty} {p1 p2 : Pos} {x1 : Nat} (hg : Gl X x) (hm : κ.mg x = none) (hv : bootBuiltins x = some (.builtin "isinstance")) (hn : x ≠ "__name__") (hd : (x == ("__debug__" : Str)) = false) (he : PE X e (tV κ C e')) (hs : nStar e = true)
    (hl : ns.length = ts.length) (hl2 : ts.length ≤ 30) (ht : ∀ (i : Nat) (n : Str × Pos) (t : Ty), ns[i]? = some n → ts[i]? = some t → tyName X n.1 t) :
    PE X (.Call (.Name x p1) [e, .Tuple (ns.map fun n => Expr.Name n.1 n.2) x1 p2] [] pos) (tV κ C (.u (.isi ts) e')) :=
  (pe_callB (c_isi (ts := ts) xc.K) hg (by rw [xc.mg]; exact hm) hv (pa_cons he (pa_cons (pe_tup (pa_tys hl ht)) pa_nil (starEach_cons rfl [] X.env)) (starEach_cons hs [_] X.env)) hn hd (starEach_cons hs [_] X.env) (star_plain hs rfl _ _)).imp fun σ H Q q => by
    obtain ⟨Gd, A, r, g, F, tt, f, st, q, h, k⟩ := q
    simp only [ev, Option.bind_eq_some_iff, Option.map_eq_some_iff, ok] at h
    obtain ⟨⟨t1, f1, s1⟩, h1, d, h3, ⟨z, f'⟩, h5, h6⟩ := h
    cases h6
    refine tV.op q h1 fun v1 H1 F1 A1 g1 q1 o1 => ?_
    refine ⟨by rw [List.length_map, sizeLine_eq]; omega, fun tp n => ?_⟩
    have pm := Pure.made (o := .tup (ts.map fun t => V.ty t.nm)) q1.fk n
    have q2 := pm.keepR q1
    have o2 : TO_ κ σ F1 v1 t1 := o1
    exact ⟨v1, _, F1, d, z, _, rfl, q2.fk, rsl_ro q2 o2 .rfl h3, h5, .inr ⟨tp, rfl, upd_same⟩, fin_op q2 g1 k⟩
/-! ### slices -/
theorem ro_int {H : Hp} {F : Fz} {v : V} {i : Int} (h : RO κ H F v (.int i)) : v = .int i := h.int
theorem sn_sla (xc : XC κ X) {p2 : Pos} (ha : PE X a (tV κ C a')) (hb : PE X b (tV κ C b')) : PE X (.Subscript a (.Slice (some b) none none p2) pos) (tV κ C (.b .sla a' b')) :=
  (pe_slice (s_slice xc.K) ha (po_some hb) po_none).imp fun σ H Q q => by
    obtain ⟨Gd, A, r, g, F, t, f, st, q, h, k⟩ := q
    simp only [ev, Option.bind_eq_some_iff, Option.map_eq_some_iff, ok] at h
    obtain ⟨⟨t1, f1, s1⟩, h1, ⟨t2, f2, s2⟩, h2, d, h3, e, h4, ⟨z, f'⟩, h5, h6⟩ := h
    cases h6
    refine tV.op q h1 fun v1 H1 F1 A1 g1 q1 o1 => tV.op q1 h2 fun v2 H2 F2 A2 g2 q2 o2 => ?_
    have r1 := rsl_ro q2 o1 g2.le h3
    have r2 := rsl_ro q2 o2 .rfl h4
    simp only [bF] at h5
    split at h5
    · cases h5
      exact ⟨_, r2.int, F2, _, _, _, q2.fk, r1, rfl, fin_op q2 (g1.trans g2) k⟩
    · cases h5
      exact ⟨_, r2.int, F2, _, _, _, q2.fk, r1, rfl, fin_op q2 (g1.trans g2) k⟩
    · cases h5
theorem sn_slb (xc : XC κ X) {p2 : Pos} (ha : PE X a (tV κ C a')) (hb : PE X b (tV κ C b')) : PE X (.Subscript a (.Slice none (some b) none p2) pos) (tV κ C (.b .slb a' b')) :=
  (pe_slice (s_slice xc.K) ha po_none (po_some hb)).imp fun σ H Q q => by
    obtain ⟨Gd, A, r, g, F, t, f, st, q, h, k⟩ := q
    simp only [ev, Option.bind_eq_some_iff, Option.map_eq_some_iff, ok] at h
    obtain ⟨⟨t1, f1, s1⟩, h1, ⟨t2, f2, s2⟩, h2, d, h3, e, h4, ⟨z, f'⟩, h5, h6⟩ := h
    cases h6
    refine tV.op q h1 fun v1 H1 F1 A1 g1 q1 o1 => tV.op q1 h2 fun v2 H2 F2 A2 g2 q2 o2 => ?_
    have r1 := rsl_ro q2 o1 g2.le h3
    have r2 := rsl_ro q2 o2 .rfl h4
    simp only [bF] at h5
    split at h5
    · cases h5
      exact ⟨_, r2.int, F2, _, _, _, q2.fk, r1, rfl, fin_op q2 (g1.trans g2) k⟩
    · cases h5
      exact ⟨_, r2.int, F2, _, _, _, q2.fk, r1, rfl, fin_op q2 (g1.trans g2) k⟩
    · cases h5
theorem sn_slc (xc : XC κ X) {p2 : Pos} (ha : PE X a (tV κ C a')) (hb : PE X b (tV κ C b')) (hc : PE X c (tV κ C c')) : PE X (.Subscript a (.Slice (some b) (some c) none p2) pos) (tV κ C (.b3 .slc a' b' c')) :=
  (pe_slice (s_slice xc.K) ha (po_some hb) (po_some hc)).imp fun σ H Q q => by
    obtain ⟨Gd, A, r, g, F, t, f, st, q, h, k⟩ := q
    simp only [ev, Option.bind_eq_some_iff, Option.map_eq_some_iff, ok] at h
    obtain ⟨⟨t1, f1, s1⟩, h1, ⟨e, f2, s2⟩, h2, ⟨y, f3, s3⟩, h2', d, h3, ⟨z, f'⟩, h5, h6⟩ := h
    cases h6
    refine tV.op q h1 fun v1 H1 F1 A1 g1 q1 o1 => tV.op q1 (toE_some h2) fun v2 H2 F2 A2 g2 q2 o2 => ?_
    have o2 : Rep κ F2 v2 e := o2
    simp only [b3F] at h5
    split at h5
    · cases h5
      cases o2
      refine ⟨_, rfl, tV.op q2 (toE_some h2') fun v3 H3 F3 A3 g3 q3 o3 => ?_⟩
      have o3 : Rep κ F3 v3 _ := o3
      cases o3
      exact ⟨_, rfl, F3, _, _, _, q3.fk, rsl_ro q3 o1 (g2.le.trans g3.le) h3, rfl, fin_op q3 ((g1.trans g2).trans g3) k⟩
    · cases h5
      cases o2
      refine ⟨_, rfl, tV.op q2 (toE_some h2') fun v3 H3 F3 A3 g3 q3 o3 => ?_⟩
      have o3 : Rep κ F3 v3 _ := o3
      cases o3
      exact ⟨_, rfl, F3, _, _, _, q3.fk, rsl_ro q3 o1 (g2.le.trans g3.le) h3, rfl, fin_op q3 ((g1.trans g2).trans g3) k⟩
    · cases h5
theorem sn_rev (xc : XC κ X) {k0 : Nat} {p1 p2 p3 : Pos} (ha : PE X a (tV κ C a')) : PE X (.Subscript a (.Slice none none (some (.UnaryOp .USub (.Constant (.int 1) k0 p1) p2)) p3) pos) (tV κ C (.u .rev a')) :=
  (pe_revL ha).imp fun σ H Q q => by
    obtain ⟨Gd, A, r, g, F, t, f, st, q, h, k⟩ := q
    simp only [ev, Option.bind_eq_some_iff, Option.map_eq_some_iff, ok] at h
    obtain ⟨⟨t1, f1, s1⟩, h1, d, h3, ⟨z, f'⟩, h5, h6⟩ := h
    cases h6
    refine tV.op q h1 fun v1 H1 F1 A1 g1 q1 o1 => ?_
    have r1 := rsl_ro q1 o1 .rfl h3
    simp only [uF] at h5
    split at h5
    · cases h5
      obtain ⟨ad, xs, rfl, e1, e2⟩ := r1.lst q1.fk
      exact ⟨ad, xs, rfl, .inl (.inl e1), fin_lst' q1 g1 e2.reverse k⟩
    · cases h5
/-! ### chains -/
theorem sn_ch (xc : XC κ X) {op op' : CmpOp} {o o' : B} (ho : OpR X (compareOp op) (rB κ (bF o))) (ho' : OpR X (compareOp op') (rB κ (bF o'))) (ha : PE X a (tV κ C a')) (hb : PE X b (tV κ C b')) (hc : PE X c (tV κ C c')) (hs : nSet c = true) :
    PE X (.Compare a [op, op'] [b, c] pos) (tV κ C (.ch o o' a' b' c')) := by
  refine (pe_chain ho ho' ha hb hc ?_).imp fun σ H Q q => ?_
  · show behindInMarks op' c = false
    exact nMark hs op'
  obtain ⟨Gd, A, r, g, F, t, f, st, q, h, k⟩ := q
  simp only [ev, Option.bind_eq_some_iff] at h
  obtain ⟨⟨t1, f1, s1⟩, h1, ⟨t2, f2, s2⟩, h2, d, h3, e, h4, ⟨z, f'⟩, h5, h6⟩ := h
  refine tV.op q h1 fun v1 H1 F1 A1 g1 q1 o1 => tV.op q1 h2 fun v2 H2 F2 A2 g2 q2 o2 => ?_
  refine ⟨F2, d, e, z, f', q2.fk, rsl_ro q2 o1 g2.le h3, rsl_ro q2 o2 .rfl h4, h5, fin_op (K := fun zz H3 => _) q2 .rfl fun v3 H3 F3 A3 g3 q3 tv => ?_⟩
  dsimp only at h6
  split at h6
  · simp only [Option.bind_eq_some_iff, Option.map_eq_some_iff, ok] at h6
    obtain ⟨⟨t4, f4, s4⟩, h7, e2, h8, y, h9, ⟨zz, f5⟩, h10, h11⟩ := h6
    cases h11
    refine ⟨true, vr_bl tv, ?_⟩
    rw [if_pos rfl]
    refine tV.op q3 h7 fun v4 H4 F4 A4 g4 q4 o4 => ?_
    exact ⟨F4, e2, y, zz, _, q4.fk, rsl_ro q4 o2 (g3.le.trans g4.le) h8, rsl_ro q4 o4 .rfl h9, h10, fin_op q4 (((g1.trans g2).trans g3).trans g4) k⟩
  · cases h6
    refine ⟨false, vr_bl tv, ?_⟩
    rw [if_neg (by simp)]
    exact k _ H3 F3 A3 ((g1.trans g2).trans g3) q3 (Rep.bl _)
  · cases h6
end
end WW
end
section
set_option maxHeartbeats 1000000
/-! expressions: methods -/
namespace WW
open PySem PySem.Spec PyProof.Rows L2 L2.DX
section
variable {κ : Ctx} {C : Cl} {X : Cx} {a b c e : Expr} {a' b' c' e' : E} {es : List Expr} {es' : List E} {pos : Pos} {x : Str} {p apos cpos : Pos}
theorem few1 {es : List Expr} (hs : es.all nStar = true) (hl : es.length < 28) (cpos : Pos) (env : PySem.Env) : ((backTo cpos (starEach es env)).all (fun x => !x.1) && (backToKw cpos (keywordEach [] env)).all (fun x => x.1.isSome)
      && decide (es.length + ([] : List Keyword).length + (if ([] : List Keyword).isEmpty then 0 else 1) < 30)) = true := by
  rw [star_few hs]
  show (true && true && decide _) = true
  simp
  omega
theorem ro_ty {H : Hp} {F : Fz} {v : V} {d : D} {o : B} (k : Fk F H) (h : RO κ H F v d) (hm : mOk o d = true) : (o = .get ∧ TyI X "dict" v H) ∨ (o = .index ∧ TyI X "list" v H) := by
  unfold mOk at hm
  split at hm
  · exact .inl ⟨rfl, ty_dct k h⟩
  · exact .inr ⟨rfl, ty_lst k h⟩
  · cases hm
theorem sn_get1 (xc : XC κ X) (ha : PE X a (tV κ C a')) (hb : PE X b (tV κ C b')) (h0 : nCall0 a = true) (hs : nStar b = true) (hl : (apos.endLine == cpos.line) = true) :
    PE X (.Call (.Attribute a "get" apos) [b] [] cpos) (tV κ C (.m .get a' b')) :=
  (pe_m F.plainAttrs_dict F.slot_dict_get F.type_dict_get (m_get xc.K xc.w xc.hu) ha (pa_cons hb pa_nil (starEach_cons hs [] X.env)) (attrBase h0 _ _ _) (few1 (by simp [hs]) (by simp) _ _) hl (starEach_cons hs [] X.env) rfl).imp fun σ H Q q => by
    obtain ⟨Gd, A, r, g, F, t, f, st, q, h, k⟩ := q
    simp only [ev, Option.bind_eq_some_iff] at h
    obtain ⟨⟨t1, f1, s1⟩, h1, d0, h2, ⟨e, f2, s2⟩, h3, d, h4, h5⟩ := h
    split at h5
    · rename_i hm
      simp only [Option.map_eq_some_iff, ok] at h5
      obtain ⟨⟨z, f'⟩, h5, h6⟩ := h5
      cases h6
      refine tV.op q h1 fun v1 H1 F1 A1 g1 q1 o1 => ⟨?_, tV.op q1 (toE_some h3) fun v2 H2 F2 A2 g2 q2 o2 => .inl ⟨v2, rfl, F2, d, e, z, _, q2.fk, rsl_ro q2 o1 g2.le h4, .inl o2, h5, fin_op q2 (g1.trans g2) k⟩⟩
      rcases ro_ty (X := X) q1.fk (rsl_ro q1 o1 .rfl h2) hm with ⟨_, z⟩ | ⟨z, _⟩
      · exact z
      · cases z
    · cases h5
theorem sn_get2 (xc : XC κ X) (ha : PE X a (tV κ C a')) (hb : PE X b (tV κ C b')) (hc : PE X c (tV κ C c')) (h0 : nCall0 a = true) (hs : nStar b = true) (hs2 : nStar c = true) (hl : (apos.endLine == cpos.line) = true) :
    PE X (.Call (.Attribute a "get" apos) [b, c] [] cpos) (tV κ C (.m3 a' b' c')) :=
  (pe_m F.plainAttrs_dict F.slot_dict_get F.type_dict_get (m_get xc.K xc.w xc.hu) ha (pa_cons hb (pa_cons hc pa_nil (starEach_cons hs2 [] X.env)) (starEach_cons hs [c] X.env)) (attrBase h0 _ _ _) (few1 (by simp [hs, hs2]) (by simp) _ _) hl (starEach_cons hs [c] X.env) (star_plain hs (by simp [hs2]) _ _)).imp fun σ H Q q => by
    obtain ⟨Gd, A, r, g, F, t, f, st, q, h, k⟩ := q
    simp only [ev, Option.bind_eq_some_iff] at h
    obtain ⟨⟨t1, f1, s1⟩, h1, d0, h2, ⟨e, f2, s2⟩, h3, ⟨y, f3, s3⟩, h3', d, h4, h5⟩ := h
    split at h5
    · rename_i hm
      simp only [Option.map_eq_some_iff, ok] at h5
      obtain ⟨⟨z, f'⟩, h5, h6⟩ := h5
      cases h6
      refine tV.op q h1 fun v1 H1 F1 A1 g1 q1 o1 => ⟨?_, tV.op q1 (toE_some h3) fun v2 H2 F2 A2 g2 q2 o2 => tV.op q2 (toE_some h3') fun v3 H3 F3 A3 g3 q3 o3 =>
        .inr ⟨v2, v3, F3, d, e, y, z, _, rfl, q3.fk, rsl_ro q3 o1 (g2.le.trans g3.le) h4, .inl (Rep.le g3.le o2), o3, h5, fin_op q3 ((g1.trans g2).trans g3) k⟩⟩
      rcases ro_ty (X := X) q1.fk (rsl_ro q1 o1 .rfl h2) hm with ⟨_, z⟩ | ⟨z, _⟩
      · exact z
      · cases z
    · cases h5
theorem sn_index (xc : XC κ X) (ha : PE X a (tV κ C a')) (hb : PE X b (tV κ C b')) (h0 : nCall0 a = true) (hs : nStar b = true) (hl : (apos.endLine == cpos.line) = true) :
    PE X (.Call (.Attribute a "index" apos) [b] [] cpos) (tV κ C (.m .index a' b')) :=
  (pe_m F.plainAttrs_list F.slot_list_index F.type_list_index (m_index xc.K xc.hu) ha (pa_cons hb pa_nil (starEach_cons hs [] X.env)) (attrBase h0 _ _ _) (few1 (by simp [hs]) (by simp) _ _) hl (starEach_cons hs [] X.env) rfl).imp fun σ H Q q => by
    obtain ⟨Gd, A, r, g, F, t, f, st, q, h, k⟩ := q
    simp only [ev, Option.bind_eq_some_iff] at h
    obtain ⟨⟨t1, f1, s1⟩, h1, d0, h2, ⟨e, f2, s2⟩, h3, d, h4, h5⟩ := h
    split at h5
    · rename_i hm
      simp only [Option.map_eq_some_iff, ok] at h5
      obtain ⟨⟨z, f'⟩, h5, h6⟩ := h5
      cases h6
      refine tV.op q h1 fun v1 H1 F1 A1 g1 q1 o1 => ⟨?_, tV.op q1 (toE_some h3) fun v2 H2 F2 A2 g2 q2 o2 => ⟨v2, rfl, F2, d, e, z, _, q2.fk, rsl_ro q2 o1 g2.le h4, .inl o2, h5, fin_op q2 (g1.trans g2) k⟩⟩
      rcases ro_ty (X := X) q1.fk (rsl_ro q1 o1 .rfl h2) hm with ⟨z, _⟩ | ⟨_, z⟩
      · cases z
      · exact z
    · cases h5
/-! ### views made into lists -/
theorem view_end {o : U} {O : Addr → Addr → HO} {z : List (D × D) → Option (List D)} (hO : ∀ d r, uF o d = some r → ∃ l s, d = .dct l ∧ l.length ≤ sizeLine ∧ z l = some s ∧ r = (.lst s, true)) {σ : L2.St} {H : Hp} {Q : VK} (q : tV κ C (.u o e') σ H Q) :
    tCB (rV κ O z) (tCons (fun σ H Q => tV κ C e' σ H fun x H1 => TyI X "dict" x H1 ∧ ∃ a es, x = .ref a ∧ ([] : List V) = [] ∧ H1 a = some (DicO a es) ∧ ∀ p, H1 p = none → Q (.ref p) (upd H1 p (O p a))) tNil) σ H Q := by
  obtain ⟨Gd, A, r, g, F, t, f, st, q, h, k⟩ := q
  simp only [ev, Option.bind_eq_some_iff, Option.map_eq_some_iff, ok] at h
  obtain ⟨⟨t1, f1, s1⟩, h1, d, h3, ⟨y, f'⟩, h5, h6⟩ := h
  cases h6
  obtain ⟨l, s, rfl, hl, hz, e1⟩ := hO _ _ h5
  cases e1
  refine tV.op q h1 fun v1 H1 F1 A1 g1 q1 o1 => ?_
  have ro := rsl_ro q1 o1 .rfl h3
  obtain ⟨ad, es, rfl, e1, e2, w⟩ := ro.dct q1.fk
  refine ⟨ty_dic e1, ad, es, rfl, rfl, e1, fun p n => ?_⟩
  have pm := Pure.made (o := O p ad) q1.fk n
  have q2 := pm.keepR q1
  refine ⟨p, ad, F1, es, l, s, rfl, q2.fk, upd_same, pm.h _ _ e1, e2, hl, hz, fin_op q2 g1 k⟩
theorem sn_items (xc : XC κ X) (hg : Gl X x) (hm : κ.mg x = none) (hv : bootBuiltins x = some (.type "list")) (hn : x ≠ "__name__") (hd : (x == ("__debug__" : Str)) = false) (he : PE X e (tV κ C e')) (h0 : nCall0 e = true) (hl : (apos.endLine == cpos.line) = true) :
    PE X (.Call (.Name x p) [.Call (.Attribute e "items" apos) [] [] cpos] [] pos) (tV κ C (.u .items e')) :=
  (pe_callTy (c_listItems xc.K xc.calm) hg (by rw [xc.mg]; exact hm) hv (pa_cons (pe_m0 F.plainAttrs_dict F.slot_dict_items F.type_dict_items m_items he (attrBase h0 _ _ _) hl) pa_nil (starEach_cons rfl [] X.env)) hn hd (starEach_cons rfl [] X.env) rfl).imp fun σ H Q q => by
    refine view_end (o := .items) (fun d r h => ?_) q
    simp only [uF] at h
    split at h
    · split at h
      · cases h; exact ⟨_, _, rfl, by assumption, rfl, rfl⟩
      · cases h
    · cases h
theorem sn_sitems (xc : XC κ X) (hg : Gl X x) (hm : κ.mg x = none) (hv : bootBuiltins x = some (.builtin "sorted")) (hn : x ≠ "__name__") (hd : (x == ("__debug__" : Str)) = false) (he : PE X e (tV κ C e')) (h0 : nCall0 e = true) (hl : (apos.endLine == cpos.line) = true) :
    PE X (.Call (.Name x p) [.Call (.Attribute e "items" apos) [] [] cpos] [] pos) (tV κ C (.u .sitems e')) :=
  (pe_callB (c_sortedItems xc.K xc.calm xc.hu) hg (by rw [xc.mg]; exact hm) hv (pa_cons (pe_m0 F.plainAttrs_dict F.slot_dict_items F.type_dict_items m_items he (attrBase h0 _ _ _) hl) pa_nil (starEach_cons rfl [] X.env)) hn hd (starEach_cons rfl [] X.env) rfl).imp fun σ H Q q => by
    refine view_end (o := .sitems) (fun d r h => ?_) q
    simp only [uF] at h
    split at h
    · split at h
      · simp only [Option.bind_eq_some_iff, Option.map_eq_some_iff] at h
        obtain ⟨ps, h1, s, h2, rfl⟩ := h
        exact ⟨_, s, rfl, by assumption, by unfold itemsD; rw [h1]; exact h2, rfl⟩
      · cases h
    · cases h
theorem sn_vals (xc : XC κ X) (hg : Gl X x) (hm : κ.mg x = none) (hv : bootBuiltins x = some (.type "list")) (hn : x ≠ "__name__") (hd : (x == ("__debug__" : Str)) = false) (he : PE X e (tV κ C e')) (h0 : nCall0 e = true) (hl : (apos.endLine == cpos.line) = true) :
    PE X (.Call (.Name x p) [.Call (.Attribute e "values" apos) [] [] cpos] [] pos) (tV κ C (.u .vals e')) :=
  (pe_callTy (c_listVals xc.K xc.calm) hg (by rw [xc.mg]; exact hm) hv (pa_cons (pe_m0 F.plainAttrs_dict F.slot_dict_values F.type_dict_values m_values he (attrBase h0 _ _ _) hl) pa_nil (starEach_cons rfl [] X.env)) hn hd (starEach_cons rfl [] X.env) rfl).imp fun σ H Q q => by
    refine view_end (o := .vals) (fun d r h => ?_) q
    simp only [uF] at h
    split at h
    · split at h
      · cases h; exact ⟨_, _, rfl, by assumption, rfl, rfl⟩
      · cases h
    · cases h
end
end WW
end
section
set_option maxHeartbeats 1000000
/-! expressions: displays of dicts, methods that change what a slot alone holds -/
namespace WW
open PySem PySem.Spec PyProof.Rows L2 L2.DX
section
variable {κ : Ctx} {C : Cl} {X : Cx} {a b c e : Expr} {a' b' c' e' : E} {es : List Expr} {es' : List E} {pos : Pos} {x : Str} {p apos cpos : Pos}
theorem dic_new {pins : List (Addr × Obj)} {σ : L2.St} {H : Hp} {s : Shared} (I : L2.Inv X pins σ H s) : ∃ i : L2.Inv X pins σ (upd H s.heap.objs.size (DicO s.heap.objs.size ([], #[], 0))) { s with heap := s.heap.push { cls := .type "dict", data := .dict #[] } }, True :=
  ⟨I.laid (t' := s.toks) (fun b o z => Heap.get?_push_of_some _ z) (Nat.le_refl _) (dicO_ok (ents := #[]) (ep := 0) (beq_eq_false_iff_ne.mpr (Nat.ne_of_gt I.big)) (by simp) ⟨_, Heap.get?_push_size _ rfl, ⟨rfl, rfl, rfl⟩, rfl⟩ .nil), trivial⟩
theorem sn_dnew : PE X (.Dict [] [] pos) (tV κ C .dnew) := ⟨fun pins s σ H Q I q => by
  obtain ⟨Gd, A, r, g, F, t, f, st, q, h, k⟩ := q
  cases h
  obtain ⟨I1, _⟩ := dic_new I
  have n := I.hok.fresh (Nat.le_refl s.heap.objs.size)
  refine wpAny_Dict_empty ⟨.ref s.heap.objs.size, _, I1, rfl, ?_⟩
  exact fin_dct q.fk .nil .nil (fun v H' F' p vp => fin_op q .rfl k v H' F' p vp) _ n⟩
/-- the pairs' words -/
def tPs (κ : Ctx) (C : Cl) (es : List E) : L2.St → Hp → (List (V × V) → Hp → Prop) → Prop := fun σ H Q => ∃ (Gd : Hp) (A : Nat → List Addr) (r : Env) (g : G) (F : Fz) (ds : List D) (ps : List (D × D)) (st : WW.St),
  R κ Gd A r g σ H F ∧ evs C es ⟨r, g⟩ = some (ds, st) ∧ pairUp ds = some ps ∧ ∀ vs H' F' A', Grow Gd F F' → R κ Gd A' st.r st.g σ H' F' → RepL κ F' (vs.map (·.1)) (ps.map (·.1)) → RepL κ F' (vs.map (·.2)) (ps.map (·.2)) → Q vs H'
structure PPx (X : Cx) (pos : Pos) (keys : List (Option Expr)) (values : List Expr) (t : L2.St → Hp → (List (V × V) → Hp → Prop) → Prop) : Prop where
  run : ∀ (pins : List (Addr × Obj)) (s : Shared) (σ : L2.St) (H : Hp) (Q : List (V × V) → Hp → Prop), Inv X pins σ H s → t σ H Q →
    wpAny (model X.prog X.w) X.A (evalPairs (pairTrees keys values X.env pos)) (fun vs s' => ∃ ps H', Inv X pins σ H' s' ∧ VV ps vs ∧ Q ps H') X.xe s
theorem px_nil : PPx X pos [] [] (tPs κ C []) := ⟨fun pins s σ H Q I q => by
  obtain ⟨Gd, A, r, g, F, ds, ps, st, q, h, h2, k⟩ := q
  cases h
  cases h2
  exact pairTrees_nil_walk ⟨[], H, I, .nil, k [] H F A .rfl q .nil .nil⟩⟩
theorem px_cons {ks : List (Option Expr)} {vs : List Expr} (ha : PE X a (tV κ C a')) (hb : PE X b (tV κ C b')) (hr : PPx X pos ks vs (tPs κ C es')) : PPx X pos (some a :: ks) (b :: vs) (tPs κ C (a' :: b' :: es')) := ⟨fun pins s σ H Q I q => by
  obtain ⟨Gd, A, r, g, F, ds, ps, st, q, h, h2, k⟩ := q
  simp only [evs, Option.bind_eq_some_iff, Option.map_eq_some_iff] at h
  obtain ⟨⟨d1, f1, s1⟩, h1, ⟨ds1, s2⟩, ⟨⟨d2, f2, s3⟩, h3, ⟨ds2, s4⟩, h4, h5⟩, h6⟩ := h
  cases h5
  cases h6
  simp only [pairUp, Option.map_eq_some_iff] at h2
  obtain ⟨ps', h7, rfl⟩ := h2
  have t : tV κ C a' σ H fun x H1 => tV κ C b' σ H1 fun y H2 => tPs κ C es' σ H2 fun qs H3 => Q ((x, y) :: qs) H3 :=
    tV.op q (toE_some h1) fun v1 H1 F1 A1 g1 q1 o1 => tV.op q1 (toE_some h3) fun v2 H2 F2 A2 g2 q2 o2 =>
      ⟨Gd, A2, s3.r, s3.g, F2, ds2, ps', _, q2, h4, h7, fun qs H3 F3 A3 g3 q3 r1 r2 => k _ H3 F3 A3 ((g1.trans g2).trans g3) q3 (.cons (Rep.le (g2.le.trans g3.le) o1) r1) (.cons (Rep.le g3.le o2) r2)⟩
  exact pairTrees_cons_walk (thn (ha.run pins s σ H _ I t) fun u s1 ⟨x, H1, I1, rx, q1⟩ => thn (hb.run pins s1 σ H1 _ I1 q1) fun w2 s2 ⟨y, H2, I2, ry, q2⟩ =>
    thn (hr.run pins s2 σ H2 _ I2 q2) fun ws s3 ⟨ps, H3, I3, rel, q3⟩ => ⟨(x, y) :: ps, H3, I3, .cons ⟨rx, ry⟩ rel, q3⟩)⟩
theorem storeAll_D {pins : List (Addr × Obj)} {σ : L2.St} {H : Hp} {F : Fz} {ad : Addr} {R' : PUnit → Shared → Prop} (hK : X.K = κ.K) (hw : X.w = κ.w) (hu : X.A.units + 70 < cLine) (k : Fk F H) (nf : F.m ad = none) : ∀ (ps : List (D × D)) (vs : List (V × V)) (us : List (Value × Value)) (s : Shared) (es : DS) (m e : List (D × D)),
    Inv X pins σ (upd H ad (DicO ad es)) s → RepD κ F es.1 m → DWf m → RepL κ F (vs.map (·.1)) (ps.map (·.1)) → RepL κ F (vs.map (·.2)) (ps.map (·.2)) → VV vs us → dputs m ps = some e → m.length + ps.length ≤ sizeLine →
    (∀ s' (es' : DS), Inv X pins σ (upd H ad (DicO ad es')) s' → RepD κ F es'.1 e → DWf e → R' PUnit.unit s') → wpAny (model X.prog X.w) X.A (storeAll ad us) R' X.xe s
  | [], vs, us, s, es, m, e, I, rd, wf, r1, r2, vv, hd, hz, hq => by
    cases hd
    cases vs with
    | nil =>
      cases vv
      unfold storeAll
      rw [List.forIn_nil]
      exact wpAny_pure (hq s es I rd wf)
    | cons _ _ => cases r1
  | (kd, vd) :: ps, vs, us, s, es, m, e, I, rd, wf, r1, r2, vv, hd, hz, hq => by
    cases vs with
    | nil => cases r1
    | cons v vs =>
      rw [List.map_cons, List.map_cons] at r1 r2
      cases r1 with
      | cons ra rb =>
        cases r2 with
        | cons rc rdd =>
          cases vv with
          | cons hv vv =>
            rename_i u us
            simp only [dputs] at hd
            split at hd
            · rename_i hk
              obtain ⟨hS, hl, ents, ep, o, h3, h4, h5, h6, h7⟩ := dic_full I upd_same rd
              have kF : Fk F (upd H ad (DicO ad es)) := fun b o z => by
                rw [upd_ne fun (y : b = ad) => by rw [y, nf] at z; cases z]
                exact k b o z
              have As := asked hK kF I rd wf h6 hk ra hv.1
              rw [← hw] at As
              unfold storeAll
              rw [List.forIn_cons]
              refine wpAny_bind (wpAny_bind (set_N (A := X.A) (by omega) h3 h4 h5 As (by rw [h7]; have : ((kd, vd) :: ps).length = ps.length + 1 := rfl; omega) fun h' ep' raw sb => ?_))
              refine wpAny_pure ?_
              have hz' : (dput m kd vd).length + ps.length ≤ sizeLine := by
                have := dput_len (l := m) (k := kd) (v := vd)
                have : ((kd, vd) :: ps).length = ps.length + 1 := rfl
                omega
              have rput := rd.put wf hk ra rc
              have I2 : Inv X pins σ (upd H ad (DicO ad (esPutV es.1 ((keyN kd).hash κ.w) v.1 v.2 (at_ (kns m) (keyN kd)), esPut ents ((keyN kd).hash X.w) u.1 u.2 (at_ (kns m) (keyN kd)), ep'))) { s with heap := h', toks := s.toks + (keyN kd).draws } := by
                have e1 : upd H ad (DicO ad (esPutV es.1 ((keyN kd).hash κ.w) v.1 v.2 (at_ (kns m) (keyN kd)), esPut ents ((keyN kd).hash X.w) u.1 u.2 (at_ (kns m) (keyN kd)), ep')) = upd (upd H ad (DicO ad es)) ad (DicO ad (esPutV es.1 ((keyN kd).hash κ.w) v.1 v.2 (at_ (kns m) (keyN kd)), esPut ents ((keyN kd).hash X.w) u.1 u.2 (at_ (kns m) (keyN kd)), ep')) := upd_upd.symm
                rw [e1]
                refine d_write I (by rw [upd_same]; trivial) sb ⟨_, raw.choose_spec.1⟩ (dicO_ok hS (by rw [rput.length]; exact (by omega : (dput m kd vd).length ≤ sizeLine)) raw ?_)
                have := h6.put hv.1 hv.2 (h := (keyN kd).hash κ.w) (at_ (kns m) (keyN kd))
                rw [← hw] at this ⊢
                exact this
              exact storeAll_D hK hw hu k nf ps vs us _ _ _ e I2 rput (wf.put hk) rb rdd vv hd hz' hq
            · cases hd
theorem sn_dct (xc : XC κ X) {ks : List (Option Expr)} {vs : List Expr} (h : PPx X pos ks vs (tPs κ C es')) (hall : ks.all (·.isSome) = true) (hl : ks.length = vs.length) (h0 : ks ≠ []) (h15 : ks.length ≤ 15) : PE X (.Dict ks vs pos) (tV κ C (.dct es')) := ⟨fun pins s σ H Q I q => by
  obtain ⟨Gd, A, r, g, F, t, f, st, q, h1, k⟩ := q
  simp only [ev, Option.bind_eq_some_iff] at h1
  obtain ⟨⟨ds, s1⟩, h2, ps, h3, h4⟩ := h1
  split at h4
  · rename_i hps
    simp only [Option.map_eq_some_iff, ok] at h4
    obtain ⟨e, h5, h6⟩ := h4
    cases h6
    obtain ⟨I1, _⟩ := dic_new I
    have n := I.hok.fresh (Nat.le_refl s.heap.objs.size)
    have pm := Pure.made (o := DicO s.heap.objs.size ([], #[], 0)) q.fk n
    have q1 := pm.keepR q
    have vr : VR κ Gd A r (upd H s.heap.objs.size (DicO s.heap.objs.size ([], #[], 0))) F (.ref s.heap.objs.size) (.dct []) true := pm.vr q (f := true) ⟨_, rfl, n, by
      cases z : F.m s.heap.objs.size with
      | none => rfl
      | some u => exact absurd (q.fk _ _ z) (by rw [n]; simp), ⟨rfl, ([], #[], 0), upd_same, .nil, .nil⟩, rfl⟩
    obtain ⟨ad, o, ea, ho, hg, qg, back⟩ := q1.guard vr
    cases ea
    rw [upd_same] at ho
    cases ho
    refine wpAny_Dict_any hall hl h0 h15 ?_
    refine thn (h.run pins _ σ _ (fun vs H' => ∃ F' A', Grow Gd F F' ∧ R κ Gd A' st.r st.g σ H' F' ∧ VR κ Gd A' st.r H' F' (.ref s.heap.objs.size) (.dct []) true ∧ RepL κ F' (vs.map (·.1)) (ps.map (·.1)) ∧ RepL κ F' (vs.map (·.2)) (ps.map (·.2)) ∧ H' s.heap.objs.size = some (DicO s.heap.objs.size ([], #[], 0))) I1 ?_) fun ws s2 ⟨vs2, H2, I2, rel, F2, A2, g2, q2, vr2, r1, r2, hd2⟩ => ?_
    · refine ⟨_, A, r, g, F, ds, ps, st, qg, h2, h3, fun vs H' F' A' gr q' r1 r2 => ?_⟩
      obtain ⟨b1, b2, b3⟩ := back A' st.r st.g σ H' F' gr q'
      exact ⟨F', A', b1, b2, b3, r1, r2, q'.gk _ _ upd_same⟩
    · obtain ⟨a2, e2, rt2, ow2, _, sp2⟩ := vr2
      cases e2
      have eH : upd H2 s.heap.objs.size (DicO s.heap.objs.size ([], #[], 0)) = H2 := by
        funext b
        unfold upd
        split
        · rename_i z; rw [z, hd2]
        · rfl
      refine storeAll_D (F := F2) (H := H2) xc.K xc.w xc.hu q2.fk ow2.f ps vs2 ws s2 ([], #[], 0) [] e (by rw [eH]; exact I2) .nil .nil r1 r2 rel h5 (by rw [sizeLine_eq]; simp; omega) fun s' es2 I3 rd3 wf3 => ?_
      refine ⟨.ref s.heap.objs.size, _, I3, rfl, k _ _ F2 A2 g2 ?_ ?_⟩
      · exact q2.poke ow2 sp2
      · exact ⟨_, rfl, ⟨rfl, es2, upd_same, rd3, wf3⟩, ⟨ow2.f, ow2.g, ow2.s, _, upd_same, dicNt⟩, rfl, sp2⟩
  · cases h4⟩
end
end WW
end
section
set_option maxHeartbeats 1000000
/-! expressions: methods that change what a slot alone holds -/
namespace WW
open PySem PySem.Spec PyProof.Rows L2 L2.DX
section
variable {κ : Ctx} {C : Cl} {X : Cx} {a b c e : Expr} {a' b' c' e' : E} {x : Str} {p apos cpos : Pos} {i : Nat}
theorem own_ro {Gd : Hp} {A : Nat → List Addr} {r : Env} {g : G} {σ : L2.St} {H : Hp} {F : Fz} {d : D} (q : R κ Gd A r g σ H F) (h : owned r i = some d) : ∃ v, σ[i]? = some (some v) ∧ RO κ H F v d := by
  obtain ⟨a, h1, h2⟩ := q.ow i d (of_owned h)
  exact ⟨_, h1, .inr ⟨a, _, rfl, h2⟩⟩
theorem sn_pop (hN : X.N[i]? = some x) (hv : Vis X.env.scope x) (hd : (x == ("__debug__" : Str)) = false) (hcd : (x == ("__classdict__" : Str)) = false) (hl : (apos.endLine == cpos.line) = true) :
    PE X (.Call (.Attribute (.Name x p) "pop" apos) [] [] cpos) (tV κ C (.pop i)) :=
  (pe_m0 F.plainAttrs_list F.slot_list_pop F.type_list_pop mt_pop (pe_var hN hv hd hcd) (attrBase rfl _ _ _) hl).imp fun σ H Q q => by
    obtain ⟨Gd, A, r, g, F, t, f, st, q, h, k⟩ := q
    simp only [ev, Option.bind_eq_some_iff] at h
    obtain ⟨d, h1, h2⟩ := h
    split at h2
    · rename_i l
      simp only [Option.map_eq_some_iff, ok] at h2
      obtain ⟨y, h3, h4⟩ := h2
      cases h4
      obtain ⟨v, hs, ro⟩ := own_ro q h1
      obtain ⟨ad, xs, e1, e2, e3, e4, e5⟩ := q.mutL (of_owned h1)
      rw [hs] at e1
      cases e1
      have h3' : l[l.length - 1]? = some y := h3
      rw [← e3.length] at h3'
      obtain ⟨w, w1, w2⟩ := e3.get h3'
      obtain ⟨A', q'⟩ := e5 xs.dropLast l.dropLast e3.dropLast
      exact ⟨.ref ad, hs, ty_lst q.fk ro, ad, xs, w, rfl, rfl, e2, w1, k w _ F A' .rfl q' w2⟩
    · cases h2
theorem sn_popAt (ha : PE X a (tV κ C a')) (hs : nStar a = true) (hN : X.N[i]? = some x) (hv : Vis X.env.scope x) (hd : (x == ("__debug__" : Str)) = false) (hcd : (x == ("__classdict__" : Str)) = false) (hl : (apos.endLine == cpos.line) = true) :
    PE X (.Call (.Attribute (.Name x p) "pop" apos) [a] [] cpos) (tV κ C (.popAt i a')) :=
  (pe_m F.plainAttrs_list F.slot_list_pop F.type_list_pop mt_popAt (pe_var hN hv hd hcd) (pa_cons ha pa_nil (starEach_cons hs [] X.env)) (attrBase rfl _ _ _) (few1 (by simp [hs]) (by simp) _ _) hl (starEach_cons hs [] X.env) rfl).imp fun σ H Q q => by
    obtain ⟨Gd, A, r, g, F, t, f, st, q, h, k⟩ := q
    simp only [ev, Option.bind_eq_some_iff] at h
    obtain ⟨d0, h0, ⟨kk, f1, s1⟩, h1, d, h2, h3⟩ := h
    split at h3
    · rename_i l n hk
      simp only at hk
      subst hk
      split at h3
      · rename_i hn
        simp only [Option.map_eq_some_iff, ok] at h3
        obtain ⟨y, h4, h5⟩ := h3
        cases h5
        obtain ⟨v, hs, ro⟩ := own_ro q h0
        refine ⟨v, hs, ty_lst q.fk ro, tV.op q (toE_some h1) fun v1 H1 F1 A1 g1 q1 o1 => ?_⟩
        obtain ⟨ad, xs, e1, e2, e3, e4, e5⟩ := q1.mutL (of_owned h2)
        rw [hs] at e1
        cases e1
        have o1 : Rep κ F1 v1 (.int n) := o1
        cases o1
        obtain ⟨w, w1, w2⟩ := e3.get (show l[n.toNat]? = some y from h4)
        obtain ⟨A', q'⟩ := e5 (xs.eraseIdx n.toNat) (l.eraseIdx n.toNat) (e3.eraseIdx _)
        refine ⟨ad, xs, n, n.toNat, w, rfl, rfl, e2, by omega, hn.2.2, ?_, w1, k w _ F1 A' g1 q' w2⟩
        have hlen := e3.length
        have hj : (if n < 0 then n + (xs.length : Int) else n) = n := if_neg (by omega)
        have h1' : (decide (0 ≤ n) && decide (n < (xs.length : Int))) = true := by
          rw [Bool.and_eq_true, decide_eq_true_eq, decide_eq_true_eq]
          omega
        show (if (decide (0 ≤ (if n < 0 then n + (xs.length : Int) else n)) && decide ((if n < 0 then n + (xs.length : Int) else n) < (xs.length : Int))) = true then some (if n < 0 then n + (xs.length : Int) else n).toNat else none) = some n.toNat
        rw [hj, if_pos h1']
      · cases h3
    · cases h3

/-- d.setdefault(k, v), d what slot i alone holds -/
def rSetd (κ : Ctx) : V → List V → Hp → VK → Prop := fun x xs H Q => ∃ a y z F es l kd vd, x = .ref a ∧ xs = [y, z] ∧ Fk F H ∧ H a = some (DicO a es) ∧ RepD κ F es.1 l ∧ DWf l ∧ Rep κ F y kd ∧ Rep κ F z vd ∧ kOk l kd = true ∧ l.length < sizeLine ∧
  (∀ w, dget l kd = some w → ∀ v, Rep κ F v w → Q v H) ∧ (dget l kd = none → ∀ es' : DS, RepD κ F es'.1 (l ++ [(kd, vd)]) → DWf (l ++ [(kd, vd)]) → Q z (upd H a (DicO a es')))
theorem m_setd (hK : X.K = κ.K) (hw : X.w = κ.w) (hu : X.A.units + 70 < cLine) : MtR X "dict.setdefault" (rSetd κ) := by
  intro pins s σ H x xs v us Q I rx rv h
  obtain ⟨a, y, z, F, es, l, kd, vd, rfl, rfl, k, ha, rd, wf, ry, rz, hk, hl, q1, q2⟩ := h
  cases rx
  obtain ⟨u1, u2, rfl, r1, r2⟩ := vals2 rv
  obtain ⟨hS, _, ents, ep, o, h3, h4, h5, h6, h7⟩ := dic_full I ha rd
  have As := asked hK k I rd wf h6 hk ry r1
  have gd := dget_at wf.ok (kOk_key hk)
  have hlt : ∀ i, at_ (kns l) (keyN kd) = some i → i < l.length := fun i e => by
    have := at_lt e
    rw [List.length_map] at this
    exact this
  rw [← hw] at As
  refine setdefM_N (A := X.A) (by omega) hS h3 h4 h5 As (by omega) (fun i e g1 g2 => ?_) (fun g1 h' ep' raw sb => ?_) fun i e => by rw [h7]; exact hlt i e
  · have hi := hlt i g1
    obtain ⟨en, vv, e1, e2, e3⟩ := val_at rd h6 (x := (l[i]).1) (y := (l[i]).2) (List.getElem?_eq_getElem hi)
    rw [g2] at e1
    cases e1
    refine ⟨vv, H, I.tok _, e2, q1 (l[i]).2 ?_ vv e3⟩
    rw [gd, g1, Option.bind_some, List.getElem?_eq_getElem hi]
    rfl
  · have gn : dget l kd = none := by rw [gd, g1]; rfl
    have rp : RepD κ F (es.1 ++ [((keyN kd).hash κ.w, y, z)]) (l ++ [(kd, vd)]) := rd.push ry rz
    have ep2 := h6.push r1 r2 (h := (keyN kd).hash κ.w)
    rw [← hw] at rp ep2
    refine ⟨z, _, d_write I (by rw [ha]; trivial) sb ⟨_, raw.choose_spec.1⟩ (dicO_ok hS ?_ raw ?_), r2, q2 gn (_, _, _) rp (wf.push hk g1)⟩
    · rw [List.length_append, rd.length]; simp; omega
    · rw [Array.toList_push]
      exact ep2
theorem sn_setd (xc : XC κ X) (ha : PE X a (tV κ C a')) (hb : PE X b (tV κ C b')) (hs : nStar a = true) (hs2 : nStar b = true) (hN : X.N[i]? = some x) (hv : Vis X.env.scope x) (hd : (x == ("__debug__" : Str)) = false) (hcd : (x == ("__classdict__" : Str)) = false) (hl : (apos.endLine == cpos.line) = true) :
    PE X (.Call (.Attribute (.Name x p) "setdefault" apos) [a, b] [] cpos) (tV κ C (.setd i a' b')) :=
  (pe_m F.plainAttrs_dict F.slot_dict_setdefault F.type_dict_setdefault (m_setd xc.K xc.w xc.hu) (pe_var hN hv hd hcd) (pa_cons ha (pa_cons hb pa_nil (starEach_cons hs2 [] X.env)) (starEach_cons hs [b] X.env)) (attrBase rfl _ _ _) (few1 (by simp [hs, hs2]) (by simp) _ _) hl (starEach_cons hs [b] X.env) (star_plain hs (by simp [hs2]) _ _)).imp fun σ H Q q => by
    obtain ⟨Gd, A, r, g, F, t, f, st, q, h, k⟩ := q
    simp only [ev, Option.bind_eq_some_iff] at h
    obtain ⟨d0, h0, ⟨kk, f1, s1⟩, h1, ⟨vv, f2, s2⟩, h1', d, h2, h3⟩ := h
    split at h3
    · rename_i l
      split at h3
      · rename_i hk
        obtain ⟨v, hs, ro⟩ := own_ro q h0
        refine ⟨v, hs, ty_dct q.fk ro, tV.op q (toE_some h1) fun v1 H1 F1 A1 g1 q1 o1 => tV.op q1 (toE_some h1') fun v2 H2 F2 A2 g2 q2 o2 => ?_⟩
        obtain ⟨ad, es, e1, e2, e3, e4, e5, e6⟩ := q2.mutD (of_owned h2)
        rw [hs] at e1
        cases e1
        refine ⟨ad, v1, v2, F2, es, l, kk, vv, rfl, rfl, q2.fk, e2, e3, e4, Rep.le g2.le o1, o2, hk.1, hk.2, fun w hw v3 r3 => ?_, fun hn es' rd wf => ?_⟩
        · rw [hw] at h3
          cases h3
          exact k v3 H2 F2 A2 (g1.trans g2) q2 r3
        · rw [hn] at h3
          cases h3
          obtain ⟨A', q'⟩ := e6 es' _ rd wf
          exact k v2 _ F2 A' (g1.trans g2) q' o2
      · cases h3
    · cases h3
end
end WW
end
section
set_option maxHeartbeats 1000000
/-! zip over a list and a tuple -/
namespace WW
open PySem PySem.Spec PyProof.Rows L2 L2.DX RZ
/-- b: a list; else a tuple -/
def ItB (b : Bool) (h : Heap) (it l : Addr) (k : Nat) : Prop := match b with
  | true => h.IsListIter it l k
  | false => h.IsTupleIter it l k
def SqB (b : Bool) (h : Heap) (l : Addr) (xs : Array Value) : Prop := match b with
  | true => h.IsList l xs
  | false => h.IsTuple l xs
section
variable {b c : Bool} {h h' : Heap} {it l i1 i2 : Addr} {k : Nat} {xs : Array Value}
theorem ItB.at (q : ItB b h it l k) (e : ∀ o, h.get? it = some o → h'.get? it = some o) : ItB b h' it l k := by
  cases b
  · exact Heap.IsTupleIter.at q e
  · exact Heap.IsListIter.at q e
theorem SqB.at (q : SqB b h l xs) (e : ∀ o, h.get? l = some o → h'.get? l = some o) : SqB b h' l xs := by
  cases b
  · exact Heap.IsTuple.at q e
  · exact Heap.IsList.at q e
theorem ItB.there (q : ItB b h it l k) : ∃ o, h.get? it = some o ∧ ∀ v, o.data ≠ .cell v := by
  cases b
  · obtain ⟨o, h1, _, h3⟩ := q; exact ⟨o, h1, fun v e => by rw [h3] at e; cases e⟩
  · obtain ⟨o, h1, _, h3⟩ := q; exact ⟨o, h1, fun v e => by rw [h3] at e; cases e⟩
theorem SqB.lt (q : SqB b h l xs) : l < h.objs.size := by
  cases b
  · obtain ⟨o, h1, _⟩ := q; exact Heap.lt_size h1
  · obtain ⟨o, h1, _⟩ := q; exact Heap.lt_size h1
end
section
variable {prog : Program} {w : World} {A : Around} {E : Value → Shared → Prop} {s : Shared} {b c : Bool}
theorem nx_item {it l : Addr} {i : Nat} {xs : Array Value} {x : Value} {Q : Value → Shared → Prop} (hi : ItB b s.heap it l i) (hl : SqB b s.heap l xs) (hx : xs[i]? = some x)
    (hQ : ∀ h', ItB b h' it l (i + 1) → Heap.SameBut it s.heap h' → Q x { s with heap := h' }) : wpAny (model prog w) A (Builtin.SmallTypes.nextOf (.ref it)) Q E s := by
  cases b
  · exact nextOf_tuple_item hi hl hx hQ
  · exact wpAny_nextOf_list_item hi hl hx hQ
theorem nx_end {it l : Addr} {i : Nat} {xs : Array Value} {Q : Value → Shared → Prop} (hh : A.handled = none) (hi : ItB b s.heap it l i) (hl : SqB b s.heap l xs) (hx : xs[i]? = none)
    (hE : ∀ h' e, Heap.ExtBut it s.heap h' → (∃ o, h'.get? e = some o ∧ o.cls = .type "StopIteration") → E (.ref e) { s with heap := h' }) : wpAny (model prog w) A (Builtin.SmallTypes.nextOf (.ref it)) Q E s := by
  cases b
  · exact nextOf_tuple_end hh hi hl hx hE
  · exact wpAny_nextOf_list_end hh hi hl hx hE
/-- all that stands but at these four -/
abbrev Kp (z TO i1 i2 : Addr) (h h' : Heap) : Prop := ∀ c o, c ≠ z → c ≠ TO → c ≠ i1 → c ≠ i2 → h.get? c = some o → h'.get? c = some o
section
variable {z TI TO i1 i2 l1 l2 : Addr} {k1 k2 : Nat} {xs ys : Array Value} {x y u v : Value}
theorem zm_item {Q : Value → Shared → Prop} (D : ZipApart z TI TO i1 i2 l1 l2) (hz : IsZip s.heap z TI TO .none) (hTI : IsPair s.heap TI (.ref i1) (.ref i2)) (hTO : IsPair s.heap TO u v)
    (h1 : ItB b s.heap i1 l1 k1) (h2 : ItB c s.heap i2 l2 k2) (q1 : SqB b s.heap l1 xs) (q2 : SqB c s.heap l2 ys) (hx : xs[k1]? = some x) (hy : ys[k2]? = some y)
    (hQ : ∀ h', IsZip h' z TI TO (rawInt s.heap.objs.size) → IsPair h' TO x y → ItB b h' i1 l1 (k1 + 1) → ItB c h' i2 l2 (k2 + 1) → IsPair h' s.heap.objs.size x y → h'.objs.size = s.heap.objs.size + 1 → Kp z TO i1 i2 s.heap h' → Q (.ref s.heap.objs.size) { s with heap := h' }) :
    wpAny (model prog w) A (Builtin.«zip.__next__» ⟨[.ref z], []⟩) (fun fin s' => ∃ v, fin = .done (.ret v) ∧ Q v s') E s := by
  show wpAny _ _ (field (.ref z) 2 >>= _) _ _ _
  refine wpAny_bind (wpAny_field hz rfl (x := .bool false) rfl (show wpAny _ _ (field (.ref z) 3 >>= _) _ _ _ from wpAny_bind (wpAny_field hz rfl (x := .ref TI) rfl (wpAny_bind (wpAny_seqItems hTI rfl (show wpAny _ _ (Builtin.SmallTypes.ownedTupleIsFree (.ref z) >>= _) _ _ _ from wpAny_bind ?_))))))
  unfold Builtin.SmallTypes.ownedTupleIsFree
  refine wpAny_bind (wpAny_field hz rfl (x := .none) rfl (wpAny_pure ?_))
  simp only [if_true]
  refine wpAny_bind (wpAny_rule (wpAny_bind (wpAny_field hz rfl (x := .ref TO) rfl (wpAny_bind (wpAny_setField_rec hz (by simp) fun g₁ gz₁ e₁ => ?_)))))
  have gz₁ : IsZip g₁ z TI TO .ellipsis := gz₁
  refine wpAny_bind ?_
  simp only [List.zipIdx_cons, List.zipIdx_nil, List.forIn_cons, List.forIn_nil]
  refine wpAny_bind (wpAny_bind (wpAny_onRaise (show wpAny _ _ (Builtin.SmallTypes.nextOf (.ref i1) >>= _) _ _ _ from wpAny_bind (nx_item (h1.at fun o q => e₁.extBut _ _ D.i1z q) (q1.at fun o q => e₁.extBut _ _ D.l1z q) hx fun g₂ j₂ e₂ => wpAny_pure ?_))))
  have t₂ : IsPair g₂ TO u v := e₂.extBut _ _ D.TOi1 (e₁.extBut _ _ D.TOz hTO)
  refine wpAny_bind (wpAny_seqItems t₂ rfl (wpAny_bind (wpAny_updateSeq_pair t₂ fun g₃ t₃ e₃ => ?_)))
  have t₃ : IsPair g₃ TO x v := t₃
  refine wpAny_bind (wpAny_letGo (wpAny_pure (wpAny_bind (wpAny_bind (wpAny_onRaise (show wpAny _ _ (Builtin.SmallTypes.nextOf (.ref i2) >>= _) _ _ _ from wpAny_bind (nx_item (h2.at fun o q => e₃.extBut _ _ D.TOi2.symm (e₂.extBut _ _ D.i12.symm (e₁.extBut _ _ D.i2z q)))
    (q2.at fun o q => e₃.extBut _ _ D.l2TO (e₂.extBut _ _ D.l2i1 (e₁.extBut _ _ D.l2z q))) hy fun g₄ j₄ e₄ => wpAny_pure ?_)))))))
  have t₄ : IsPair g₄ TO x v := e₄.extBut _ _ D.TOi2 t₃
  refine wpAny_bind (wpAny_seqItems t₄ rfl (wpAny_bind (wpAny_updateSeq_pair t₄ fun g₅ t₅ e₅ => ?_)))
  have t₅ : IsPair g₅ TO x y := t₅
  refine wpAny_bind (wpAny_letGo (wpAny_pure (wpAny_pure (wpAny_bind (wpAny_seqItems t₅ rfl (wpAny_bind (wpAny_newTuple ?_)))))))
  have sz : g₅.objs.size = s.heap.objs.size := by rw [e₅.1, e₄.1, e₃.1, e₂.1, e₁.1]
  have gz₅ : IsZip g₅ z TI TO .ellipsis := e₅.extBut _ _ D.TOz.symm (e₄.extBut _ _ D.i2z.symm (e₃.extBut _ _ D.TOz.symm (e₂.extBut _ _ D.i1z.symm gz₁)))
  have kp₅ : Kp z TO i1 i2 s.heap g₅ := fun a o n1 n2 n3 n4 q => e₅.extBut _ _ n2 (e₄.extBut _ _ n4 (e₃.extBut _ _ n2 (e₂.extBut _ _ n3 (e₁.extBut _ _ n1 q))))
  have j1 : ItB b g₅ i1 l1 (k1 + 1) := j₂.at fun o q => e₅.extBut _ _ D.TOi1.symm (e₄.extBut _ _ D.i12 (e₃.extBut _ _ D.TOi1.symm q))
  have j2 : ItB c g₅ i2 l2 (k2 + 1) := j₄.at fun o q => e₅.extBut _ _ D.TOi2.symm q
  have zlt : z < g₅.objs.size := Heap.lt_size gz₅
  show wpAny _ _ (Builtin.SmallTypes.ownedTupleHandOut (.ref z) (.ref g₅.objs.size) >>= _) _ _ _
  refine wpAny_bind ?_
  unfold Builtin.SmallTypes.ownedTupleHandOut
  have gz₆ : IsZip (g₅.push { cls := .type "tuple", data := .seq #[x, y] }) z TI TO .ellipsis := Heap.get?_push_of_some _ gz₅
  refine wpAny_bind (wpAny_setField_rec gz₆ (by simp) fun g₇ gz₇ e₇ => wpAny_setField_rec (show IsZip g₇ z TI TO (rawInt g₅.objs.size) from gz₇) (by simp) fun g₈ gz₈ e₈ => ?_)
  have gz₈ : IsZip g₈ z TI TO (rawInt g₅.objs.size) := gz₈
  have up : ∀ a o, a ≠ z → g₅.get? a = some o → g₈.get? a = some o := fun a o n q => e₈.extBut _ _ n (e₇.extBut _ _ n (Heap.get?_push_of_some _ q))
  have t₈ : IsPair g₈ g₅.objs.size x y := e₈.extBut _ _ (Nat.ne_of_gt zlt) (e₇.extBut _ _ (Nat.ne_of_gt zlt) (Heap.get?_push_size _ rfl))
  have s₈ : g₈.objs.size = g₅.objs.size + 1 := by rw [e₈.1, e₇.1, Heap.size_push]
  rw [sz] at gz₈ t₈ s₈
  refine wpAny_pure ⟨_, rfl, ?_⟩
  show Q (.ref g₅.objs.size) _
  rw [sz]
  exact hQ g₈ gz₈ (up _ _ D.TOz t₅) (j1.at fun o q => up _ o D.i1z q) (j2.at fun o q => up _ o D.i2z q) t₈ s₈ fun a o n1 n2 n3 n4 q => up a o n1 (kp₅ a o n1 n2 n3 n4 q)
theorem zm_end {Q : Fin → Shared → Prop} (hh : A.handled = none) (D : ZipApart z TI TO i1 i2 l1 l2) (hz : IsZip s.heap z TI TO .none) (hTI : IsPair s.heap TI (.ref i1) (.ref i2)) (hTO : IsPair s.heap TO u v)
    (h1 : ItB b s.heap i1 l1 k1) (h2 : ItB c s.heap i2 l2 k2) (q1 : SqB b s.heap l1 xs) (q2 : SqB c s.heap l2 ys) (he : xs[k1]? = none ∨ ys[k2]? = none)
    (hE : ∀ h' e, Kp z TO i1 i2 s.heap h' → (∃ o, h'.get? e = some o ∧ o.cls = .type "StopIteration") → E (.ref e) { s with heap := h' }) : wpAny (model prog w) A (Builtin.«zip.__next__» ⟨[.ref z], []⟩) Q E s := by
  show wpAny _ _ (field (.ref z) 2 >>= _) _ _ _
  refine wpAny_bind (wpAny_field hz rfl (x := .bool false) rfl (show wpAny _ _ (field (.ref z) 3 >>= _) _ _ _ from wpAny_bind (wpAny_field hz rfl (x := .ref TI) rfl (wpAny_bind (wpAny_seqItems hTI rfl (show wpAny _ _ (Builtin.SmallTypes.ownedTupleIsFree (.ref z) >>= _) _ _ _ from wpAny_bind ?_))))))
  unfold Builtin.SmallTypes.ownedTupleIsFree
  refine wpAny_bind (wpAny_field hz rfl (x := .none) rfl (wpAny_pure ?_))
  simp only [if_true]
  refine wpAny_bind (wpAny_rule (wpAny_bind (wpAny_field hz rfl (x := .ref TO) rfl (wpAny_bind (wpAny_setField_rec hz (by simp) fun g₁ gz₁ e₁ => ?_)))))
  have gz₁ : IsZip g₁ z TI TO .ellipsis := gz₁
  refine wpAny_bind ?_
  simp only [List.zipIdx_cons, List.zipIdx_nil, List.forIn_cons, List.forIn_nil]
  refine wpAny_bind (wpAny_bind (wpAny_onRaise ?_))
  show wpAny _ _ (Builtin.SmallTypes.nextOf (.ref i1) >>= _) _ _ _
  cases hx : xs[k1]? with
  | none =>
    refine wpAny_bind (nx_end hh (h1.at fun o q => e₁.extBut _ _ D.i1z q) (q1.at fun o q => e₁.extBut _ _ D.l1z q) hx fun g₂ e e₂ st => ?_)
    obtain ⟨oe, ho, hc⟩ := st
    have gz₂ : IsZip g₂ z TI TO .ellipsis := e₂ _ _ D.i1z.symm gz₁
    have ez : e ≠ z := fun x => by subst x; rw [gz₂] at ho; cases ho; simp at hc
    exact wpAny_setField_rec gz₂ (by simp) fun g₃ _ e₃ => hE g₃ e (fun a o n1 _ n3 _ q => e₃.extBut _ _ n1 (e₂ _ _ n3 (e₁.extBut _ _ n1 q))) ⟨oe, e₃.extBut _ _ ez ho, hc⟩
  | some x =>
    have hy : ys[k2]? = none := by rcases he with h | h; rw [hx] at h; cases h; exact h
    refine wpAny_bind (nx_item (h1.at fun o q => e₁.extBut _ _ D.i1z q) (q1.at fun o q => e₁.extBut _ _ D.l1z q) hx fun g₂ j₂ e₂ => wpAny_pure ?_)
    have t₂ : IsPair g₂ TO u v := e₂.extBut _ _ D.TOi1 (e₁.extBut _ _ D.TOz hTO)
    refine wpAny_bind (wpAny_seqItems t₂ rfl (wpAny_bind (wpAny_updateSeq_pair t₂ fun g₃ t₃ e₃ => wpAny_bind (wpAny_letGo (wpAny_pure (wpAny_bind (wpAny_bind (wpAny_onRaise ?_))))))))
    show wpAny _ _ (Builtin.SmallTypes.nextOf (.ref i2) >>= _) _ _ _
    refine wpAny_bind (nx_end hh (h2.at fun o q => e₃.extBut _ _ D.TOi2.symm (e₂.extBut _ _ D.i12.symm (e₁.extBut _ _ D.i2z q))) (q2.at fun o q => e₃.extBut _ _ D.l2TO (e₂.extBut _ _ D.l2i1 (e₁.extBut _ _ D.l2z q))) hy fun g₄ e e₄ st => ?_)
    obtain ⟨oe, ho, hc⟩ := st
    have gz₄ : IsZip g₄ z TI TO .ellipsis := e₄ _ _ D.i2z.symm (e₃.extBut _ _ D.TOz.symm (e₂.extBut _ _ D.i1z.symm gz₁))
    have ez : e ≠ z := fun x => by subst x; rw [gz₄] at ho; cases ho; simp at hc
    exact wpAny_setField_rec gz₄ (by simp) fun g₅ _ e₅ => hE g₅ e (fun a o n1 n2 n3 n4 q => e₅.extBut _ _ n1 (e₄ _ _ n4 (e₃.extBut _ _ n2 (e₂.extBut _ _ n3 (e₁.extBut _ _ n1 q))))) ⟨oe, e₅.extBut _ _ ez ho, hc⟩
theorem nm_item {Q : Option Value → Shared → Prop} (D : ZipApart z TI TO i1 i2 l1 l2) (hz : IsZip s.heap z TI TO .none) (hTI : IsPair s.heap TI (.ref i1) (.ref i2)) (hTO : IsPair s.heap TO u v)
    (h1 : ItB b s.heap i1 l1 k1) (h2 : ItB c s.heap i2 l2 k2) (q1 : SqB b s.heap l1 xs) (q2 : SqB c s.heap l2 ys) (hx : xs[k1]? = some x) (hy : ys[k2]? = some y)
    (hQ : ∀ h', IsZip h' z TI TO (rawInt s.heap.objs.size) → IsPair h' TO x y → ItB b h' i1 l1 (k1 + 1) → ItB c h' i2 l2 (k2 + 1) → IsPair h' s.heap.objs.size x y → h'.objs.size = s.heap.objs.size + 1 → Kp z TO i1 i2 s.heap h' → Q (some (.ref s.heap.objs.size)) { s with heap := h' }) :
    wpAny (model prog w) A (pyNext (.ref z)) Q E s := by
  have ty : s.TypeIs (.ref z) "zip" := ⟨_, hz, rfl⟩
  unfold pyNext
  exact wpAny_bind (wpAny_attempt (wpAny_callSpecial?_slot (name := Str.ofString "__next__") ty F.slot_zip_next (wpAny_call_entry F.slot_zip_next ty F.entry_zip_next
    (zm_item D hz hTI hTO h1 h2 q1 q2 hx hy fun h' a1 a2 a3 a4 a5 a6 a7 => wpAny_pure (hQ h' a1 a2 a3 a4 a5 a6 a7)) (F.args_zip_next_1 _))))
theorem nm_end {Q : Option Value → Shared → Prop} (hh : A.handled = none) (D : ZipApart z TI TO i1 i2 l1 l2) (hz : IsZip s.heap z TI TO .none) (hTI : IsPair s.heap TI (.ref i1) (.ref i2)) (hTO : IsPair s.heap TO u v)
    (h1 : ItB b s.heap i1 l1 k1) (h2 : ItB c s.heap i2 l2 k2) (q1 : SqB b s.heap l1 xs) (q2 : SqB c s.heap l2 ys) (he : xs[k1]? = none ∨ ys[k2]? = none)
    (hQ : ∀ h', Kp z TO i1 i2 s.heap h' → Q none { s with heap := h' }) : wpAny (model prog w) A (pyNext (.ref z)) Q E s := by
  have ty : s.TypeIs (.ref z) "zip" := ⟨_, hz, rfl⟩
  unfold pyNext
  refine wpAny_bind (wpAny_attempt (wpAny_callSpecial?_slot (name := Str.ofString "__next__") ty F.slot_zip_next (wpAny_call_entry F.slot_zip_next ty F.entry_zip_next (zm_end hh D hz hTI hTO h1 h2 q1 q2 he fun h' e hk st => ?_) (F.args_zip_next_1 _))))
  obtain ⟨o, ho, hc⟩ := st
  exact wpAny_bind (wpAny_isInstance (T := "StopIteration") (b := true) ⟨o, ho, hc⟩ isSubtype_stop (wpAny_pure (hQ _ hk)))
end
/-! ### a zip is made -/
def itO (b : Bool) (l : Addr) : Obj := { cls := .type (if b then "list_iterator" else "tuple_iterator"), data := .fields #[.ref l, .int 0 0] }
theorem it_of {h : Heap} {a l : Addr} (e : h.get? a = some (itO b l)) : ItB b h a l 0 := by
  cases b
  · exact ⟨_, e, rfl, rfl⟩
  · exact ⟨_, e, rfl, rfl⟩
def zh2 (h : Heap) (b c : Bool) (l1 l2 : Addr) : Heap := (h.push (itO b l1)).push (itO c l2)
def zh3 (h : Heap) (b c : Bool) (l1 l2 : Addr) : Heap := (zh2 h b c l1 l2).push { cls := .type "tuple", data := .seq #[.ref h.objs.size, .ref (h.push (itO b l1)).objs.size] }
def zh4 (h : Heap) (b c : Bool) (l1 l2 : Addr) : Heap := (zh3 h b c l1 l2).push { cls := .type "tuple", data := .seq #[.none, .none] }
def zh5 (h : Heap) (b c : Bool) (l1 l2 : Addr) : Heap := (zh4 h b c l1 l2).push { cls := .type "zip", data := .fields #[.none, .bool false, .bool false, .ref (zh2 h b c l1 l2).objs.size, .ref (zh3 h b c l1 l2).objs.size] }
theorem zm_new (b c : Bool) (l1 l2 : Addr) (xs ys : Array Value) :
    Meets (Builtin.«zip.__new__» ⟨[.type "zip", .ref l1, .ref l2], []⟩) (fun _ R s => SqB b s.heap l1 xs ∧ SqB c s.heap l2 ys ∧ R (.ok (.ret (.ref (zh4 s.heap b c l1 l2).objs.size))) { s with heap := zh5 s.heap b c l1 l2 }) :=
  .of_wp fun prog w A R s h => by
    obtain ⟨hp, g, d, tk, os⟩ := s
    obtain ⟨hl1, hl2, h⟩ := h
    have hs := sub_zip
    cases b <;> cases c
    · have L1 : Heap.IsTuple (Shared.heap ⟨hp, g, d, tk, os⟩) l1 xs := hl1
      have L2 : Heap.IsTuple (Shared.heap ⟨hp.push { cls := .type "tuple_iterator", data := .fields #[.ref l1, .int 0 0] }, g, d, tk, os⟩) l2 ys := Heap.IsTuple.push hl2 _
      wp_walk using wpAny_pyIter_tuple L1, wpAny_pyIter_tuple L2
      exact ⟨_, rfl, h⟩
    · have L1 : Heap.IsTuple (Shared.heap ⟨hp, g, d, tk, os⟩) l1 xs := hl1
      have L2 : Heap.IsList (Shared.heap ⟨hp.push { cls := .type "tuple_iterator", data := .fields #[.ref l1, .int 0 0] }, g, d, tk, os⟩) l2 ys := Heap.IsList.push hl2 _
      wp_walk using wpAny_pyIter_tuple L1, wpAny_pyIter_list L2
      exact ⟨_, rfl, h⟩
    · have L1 : Heap.IsList (Shared.heap ⟨hp, g, d, tk, os⟩) l1 xs := hl1
      have L2 : Heap.IsTuple (Shared.heap ⟨hp.push { cls := .type "list_iterator", data := .fields #[.ref l1, .int 0 0] }, g, d, tk, os⟩) l2 ys := Heap.IsTuple.push hl2 _
      wp_walk using wpAny_pyIter_list L1, wpAny_pyIter_tuple L2
      exact ⟨_, rfl, h⟩
    · have L1 : Heap.IsList (Shared.heap ⟨hp, g, d, tk, os⟩) l1 xs := hl1
      have L2 : Heap.IsList (Shared.heap ⟨hp.push { cls := .type "list_iterator", data := .fields #[.ref l1, .int 0 0] }, g, d, tk, os⟩) l2 ys := Heap.IsList.push hl2 _
      wp_walk using wpAny_pyIter_list L1, wpAny_pyIter_list L2
      exact ⟨_, rfl, h⟩
theorem zm_call {l1 l2 : Addr} {xs ys : Array Value} {Q : Value → Shared → Prop} (hl1 : SqB b s.heap l1 xs) (hl2 : SqB c s.heap l2 ys)
    (h : ∀ h', IsZip h' (s.heap.objs.size + 4) (s.heap.objs.size + 2) (s.heap.objs.size + 3) .none → IsPair h' (s.heap.objs.size + 2) (.ref s.heap.objs.size) (.ref (s.heap.objs.size + 1)) →
      IsPair h' (s.heap.objs.size + 3) .none .none → ItB b h' s.heap.objs.size l1 0 → ItB c h' (s.heap.objs.size + 1) l2 0 → h'.objs.size = s.heap.objs.size + 5 →
      (∀ a o, s.heap.get? a = some o → h'.get? a = some o) → Q (.ref (s.heap.objs.size + 4)) { s with heap := h' }) :
    wpAny (model prog w) A (call (.type "zip") [.ref l1, .ref l2]) Q E s := by
  refine callType_new F.called_zip (by decide) (F.typeCall_zip_2 _ _) (F.newCall_zip_2 _ _) (fun obj => F.args_object_init_3 obj _ _) F.entry_zip_new (zm_new b c l1 l2 xs ys) ⟨hl1, hl2, ?_⟩
  have z1 : (s.heap.push (itO b l1)).objs.size = s.heap.objs.size + 1 := Heap.size_push ..
  have z2 : (zh2 s.heap b c l1 l2).objs.size = s.heap.objs.size + 2 := by unfold zh2; rw [Heap.size_push, z1]
  have z3 : (zh3 s.heap b c l1 l2).objs.size = s.heap.objs.size + 3 := by unfold zh3; rw [Heap.size_push, z2]
  have z4 : (zh4 s.heap b c l1 l2).objs.size = s.heap.objs.size + 4 := by unfold zh4; rw [Heap.size_push, z3]
  have z5 : (zh5 s.heap b c l1 l2).objs.size = s.heap.objs.size + 5 := by unfold zh5; rw [Heap.size_push, z4]
  have g5 : (zh5 s.heap b c l1 l2).get? (zh4 s.heap b c l1 l2).objs.size = some { cls := .type "zip", data := .fields #[.none, .bool false, .bool false, .ref (zh2 s.heap b c l1 l2).objs.size, .ref (zh3 s.heap b c l1 l2).objs.size] } := Heap.get?_push_size _ rfl
  have g4 : (zh5 s.heap b c l1 l2).get? (zh3 s.heap b c l1 l2).objs.size = some { cls := .type "tuple", data := .seq #[.none, .none] } := Heap.get?_push_of_some _ (Heap.get?_push_size _ rfl)
  have g3 : (zh5 s.heap b c l1 l2).get? (zh2 s.heap b c l1 l2).objs.size = some { cls := .type "tuple", data := .seq #[.ref s.heap.objs.size, .ref (s.heap.push (itO b l1)).objs.size] } := Heap.get?_push_of_some _ (Heap.get?_push_of_some _ (Heap.get?_push_size _ rfl))
  have g2 : (zh5 s.heap b c l1 l2).get? (s.heap.push (itO b l1)).objs.size = some (itO c l2) := Heap.get?_push_of_some _ (Heap.get?_push_of_some _ (Heap.get?_push_of_some _ (Heap.get?_push_size _ (by cases c <;> rfl))))
  have g1 : (zh5 s.heap b c l1 l2).get? s.heap.objs.size = some (itO b l1) := Heap.get?_push_of_some _ (Heap.get?_push_of_some _ (Heap.get?_push_of_some _ (Heap.get?_push_of_some _ (Heap.get?_push_size _ (by cases b <;> rfl)))))
  rw [z2, z3, z4] at g5
  rw [z1, z2] at g3
  rw [z3] at g4
  rw [z1] at g2
  show _ ∧ _
  rw [z4]
  exact ⟨⟨_, g5, rfl⟩, h _ g5 g3 g4 (it_of g1) (it_of g2) z5 fun a o q => Heap.get?_push_of_some _ (Heap.get?_push_of_some _ (Heap.get?_push_of_some _ (Heap.get?_push_of_some _ (Heap.get?_push_of_some _ q))))⟩
end
/-! ### its walk -/
/-- a list or a tuple that the heap tells -/
def SqO (K : PySem.W.Frag) (b : Bool) (H : Hp) (a : Addr) (xs : List V) : Prop := match b with
  | true => SqL K H a xs
  | false => SqT K H a xs
theorem SqO.get {X : Cx} {pins : List (Addr × Obj)} {σ : L2.St} {H : Hp} {s : Shared} {b : Bool} {a : Addr} {xs : List V} (I : L2.Inv X pins σ H s) (q : SqO X.K b H a xs) : ∃ its : List Value, Vals xs its ∧ SqB b s.heap a its.toArray := by
  cases b
  · obtain ⟨its, rv, p, _⟩ := I.tuple q; exact ⟨its, rv, p⟩
  · obtain ⟨its, rv, p, _⟩ := I.list q; exact ⟨its, rv, p.isList⟩
theorem SqO.inj {X : Cx} {pins : List (Addr × Obj)} {σ : L2.St} {H : Hp} {s : Shared} {b : Bool} {a : Addr} {xs ys : List V} (I : L2.Inv X pins σ H s) (q : SqO X.K b H a xs) (r : SqO X.K b H a ys) : xs = ys := by
  cases b
  · exact I.tuple_inj q r
  · exact I.list_inj q r
def Izm (K : PySem.W.Frag) (b c : Bool) (l m : Addr) : It :=
  ⟨fun i H => ∃ (xs ys : List V) (x y : V), SqO K b H l xs ∧ SqO K c H m ys ∧ xs[i]? = some x ∧ ys[i]? = some y,
    fun i H v H' => ∃ T x y, v = .ref T ∧ H T = none ∧ H' = upd H T (.tup [x, y]) ∧ (∀ xs, SqO K b H l xs → xs[i]? = some x) ∧ ∀ ys, SqO K c H m ys → ys[i]? = some y,
    fun i H => ∃ xs ys : List V, SqO K b H l xs ∧ SqO K c H m ys ∧ (xs.length ≤ i ∨ ys.length ≤ i)⟩
theorem turn_zm {P : Program} {w : World} {K : PySem.W.Frag} {elts : List Expr} {kk : Nat} {tpos : Pos} {b c : Bool} {l m z TI TO i1 i2 : Addr} (D : ZipApart z TI TO i1 i2 l m) :
    Turn P w K (.Tuple elts kk tpos) (Izm K b c l m) [z, TI, TO, i1, i2] z (fun i h => IsZip h z TI TO .none ∧ IsPair h TI (.ref i1) (.ref i2) ∧ (∃ x y, IsPair h TO x y) ∧ ItB b h i1 l i ∧ ItB c h i2 m i) where
  mem := by simp
  obj := fun i h st a ha => by
    obtain ⟨hz, hTI, ⟨x, y, hTO⟩, h1, h2⟩ := st
    have e : a = z ∨ a = TI ∨ a = TO ∨ a = i1 ∨ a = i2 := by simpa using ha
    rcases e with q | q | q | q | q
    · rw [q]; exact ⟨_, hz, fun v q => nomatch q⟩
    · rw [q]; exact ⟨_, hTI, fun v q => nomatch q⟩
    · rw [q]; exact ⟨_, hTO, fun v q => nomatch q⟩
    · rw [q]; exact h1.there
    · rw [q]; exact h2.there
  keep := fun i h h' st k => by
    obtain ⟨hz, hTI, ⟨x, y, hTO⟩, h1, h2⟩ := st
    exact ⟨k z (by simp) _ hz, k TI (by simp) _ hTI, ⟨x, y, k TO (by simp) _ hTO⟩, h1.at fun o q => k i1 (by simp) o q, h2.at fun o q => k i2 (by simp) o q⟩
  item := by
    intro X hP hw hK hc i pins s σ H E I hf st hg
    subst hP hw hK
    obtain ⟨hz, hTI, ⟨x0, y0, hTO⟩, h1, h2⟩ := st
    obtain ⟨xs, ys, x, y, qx, qy, hx, hy⟩ := hg
    obtain ⟨its, rv, p⟩ := qx.get I
    obtain ⟨its2, rv2, p2⟩ := qy.get I
    obtain ⟨u, hu, ru⟩ := rv.get hx
    obtain ⟨u2, hu2, ru2⟩ := rv2.get hy
    have hzl : z < s.heap.objs.size := Heap.lt_size hz
    refine nm_item D hz hTI hTO h1 h2 p p2 (x := u) (y := u2) (by simpa using hu) (by simpa using hu2) fun h' z' TO' h1' h2' hT hsz hk => ⟨_, rfl, wpAny_letOwnedTupleGo_zip (s := { s with heap := h' }) z' fun g z'' sb => ?_⟩
    have hT2 : g.get? s.heap.objs.size = some { cls := .type "tuple", data := .seq #[u, u2] } := (sb.2 _ (Nat.ne_of_gt hzl)).trans hT
    have new : ObjOk X.prog X.w (upd H s.heap.objs.size (.tup [x, y])) g s.heap.objs.size (.tup [x, y]) := ⟨by show 2 ≤ sizeLine; decide, [u, u2], .cons ru (.cons ru2 .nil), ⟨_, hT2, rfl, _, rfl⟩⟩
    have I1 : L2.Inv X pins σ (upd H s.heap.objs.size (.tup [x, y])) { s with heap := g } :=
      I.turnedNew (t' := s.toks) (ch := [z, TI, TO, i1, i2]) (fun a o hb q => (sb.2 a (fun e => hb (by simp [e]))).trans (hk a o (fun e => hb (by simp [e])) (fun e => hb (by simp [e])) (fun e => hb (by simp [e])) (fun e => hb (by simp [e])) q)) hf (Nat.le_refl _) new
    refine ⟨.ref s.heap.objs.size, _, I1, rfl, ⟨_, x, y, rfl, I.hok.fresh (Nat.le_refl _), rfl, fun r hr => by rw [hr.inj I qx]; exact hx, fun r hr => by rw [hr.inj I qy]; exact hy⟩, ⟨z'', ?_, ⟨u, u2, ?_⟩, ?_, ?_⟩, fun a ham => ?_⟩
    · exact (sb.2 _ D.TIz).trans (hk _ _ D.TIz D.TITO D.TIi1 D.TIi2 hTI)
    · exact (sb.2 _ D.TOz).trans TO'
    · exact h1'.at fun o q => (sb.2 _ D.i1z).trans q
    · exact h2'.at fun o q => (sb.2 _ D.i2z).trans q
    · have hlt : a < s.heap.objs.size := by
        have e : a = z ∨ a = TI ∨ a = TO ∨ a = i1 ∨ a = i2 := by simpa using ham
        rcases e with q | q | q | q | q
        · rw [q]; exact hzl
        · rw [q]; exact Heap.lt_size hTI
        · rw [q]; exact Heap.lt_size hTO
        · rw [q]; obtain ⟨_, e1, _⟩ := h1.there; exact Heap.lt_size e1
        · rw [q]; obtain ⟨_, e2, _⟩ := h2.there; exact Heap.lt_size e2
      rw [upd_ne (Nat.ne_of_lt hlt)]
      exact (hf a ham).1
  done := by
    intro X hP hw hK hc i pins s σ H E I hf st hg
    subst hP hw hK
    obtain ⟨hz, hTI, ⟨x0, y0, hTO⟩, h1, h2⟩ := st
    obtain ⟨xs, ys, qx, qy, hend⟩ := hg
    obtain ⟨its, rv, p⟩ := qx.get I
    obtain ⟨its2, rv2, p2⟩ := qy.get I
    have l1 := rv.length
    have l2 := rv2.length
    have he : its.toArray[i]? = none ∨ its2.toArray[i]? = none := by
      rcases hend with q | q
      · exact .inl (by simp; omega)
      · exact .inr (by simp; omega)
    exact nm_end (I.ok.hd hc) D hz hTI hTO h1 h2 p p2 he fun h' hk => ⟨rfl, I.turnedL (t' := s.toks) (ch := [z, TI, TO, i1, i2]) (fun a o hb q => hk a o (fun e => hb (by simp [e])) (fun e => hb (by simp [e])) (fun e => hb (by simp [e])) (fun e => hb (by simp [e])) q) hf⟩
  self := fun A i s Q E st h => wpAny_pyIter_zip st.1 h
def iZm (K : PySem.W.Frag) (ta : TA) : TI := fun σ H R => ta σ H fun vs H1 => ∃ l m xs ys b c, vs = [.ref l, .ref m] ∧ SqO K b H1 l xs ∧ SqO K c H1 m ys ∧ R (Izm K b c l m) H1
theorem pi_zm {X : Cx} {e e2 : Expr} {ta : TA} {p pos tpos : Pos} {elts : List Expr} {kk : Nat} (hg : Gl X "zip") (hm : X.mg "zip" = none) (ha : PA X [e, e2] ta)
    (hs : starEach [e, e2] X.env = (false, eval e X.env) :: starEach [e2] X.env) (hpl : (backTo pos (starEach [e2] X.env)).any (·.1) = false) :
    PI X (.Tuple elts kk tpos) (.Call (.Name "zip" p) [e, e2] [] pos) (iZm X.K ta) := by
  refine ⟨fun pins s σ H R I h => Call_ (ld_blt I hg hm PyProof.Rows.boot_zip (PyProof.Rows.callWith_type1 (thn (ha.run pos pins s σ H _ I h) fun us s1 ⟨vs, H1, I1, r1, q1⟩ => ?_) hs hpl))⟩
  obtain ⟨l, m, xs, ys, b, c, ex, qx, qy, q⟩ := q1
  subst ex
  cases r1 with
  | cons r rr =>
    cases rr with
    | cons r' rr =>
      cases rr
      cases r
      cases r'
      have fresh : ∀ a, a ∈ [s1.heap.objs.size + 4, s1.heap.objs.size + 2, s1.heap.objs.size + 3, s1.heap.objs.size, s1.heap.objs.size + 1] → FpOk X pins H1 a := fun a ham => by
        have hle : s1.heap.objs.size ≤ a := by
          simp only [List.mem_cons, List.not_mem_nil, or_false] at ham
          omega
        exact I1.fpOk hle (I1.hok.fresh hle)
      obtain ⟨its, rv, p1⟩ := qx.get I1
      obtain ⟨its2, rv2, p2⟩ := qy.get I1
      refine zm_call p1 p2 fun h' hz hTI hTO h1 h2 hsz hk => wpAny_pyIter_zip hz ?_
      have I2 : L2.Inv X pins σ H1 { s1 with heap := h' } := I1.kept (t' := s1.toks) hk
      exact ⟨s1.heap.objs.size + 4, [s1.heap.objs.size + 4, s1.heap.objs.size + 2, s1.heap.objs.size + 3, s1.heap.objs.size, s1.heap.objs.size + 1], _, _, H1, rfl, I2, turn_zm (PySem.W.ktu_apart s1.heap.objs.size l m p1.lt p2.lt), ⟨hz, hTI, ⟨_, _, hTO⟩, h1, h2⟩, fresh, q⟩
end WW
end
section
set_option maxHeartbeats 1000000
/-! targets, walks -/
namespace WW
open PySem PySem.Spec PyProof.Rows L2 L2.DX
section
variable {κ : Ctx} {Gd : Hp} {A A' : Nat → List Addr} {r : Env} {g : G} {σ : L2.St} {H H' : Hp} {F F' : Fz} {i : Nat} {d e : D} {a : Addr} {as : List Addr}
theorem wip_get : ∀ {vs : List Nat} {i : Nat} {x : D × Bool}, (wip r vs)[i]? = some (some x) → r[i]? = some (some x) ∧ i ∉ vs
  | [], i, x, h => ⟨h, by simp⟩
  | v :: vs, i, x, h => by
    have h : ((wip r vs).set v none)[i]? = some (some x) := h
    by_cases z : i = v
    · subst z
      have := set_self h
      cases this
    · rw [set_get z] at h
      obtain ⟨h1, h2⟩ := wip_get h
      exact ⟨h1, by simp [z, h2]⟩
theorem wip_len : ∀ vs : List Nat, (wip r vs).length = r.length
  | [] => rfl
  | v :: vs => by show ((wip r vs).set v none).length = _; rw [List.length_set, wip_len vs]
theorem R.sub {r' : Env} {σ' : L2.St} (q : R κ Gd A r g σ H F) (hl : σ'.length = r'.length) (h : ∀ (i : Nat) (x : D × Bool), r'[i]? = some (some x) → r[i]? = some (some x) ∧ σ'[i]? = σ[i]?) : R κ Gd A r' g σ' H F :=
  ⟨q.gk, q.fk, q.st, q.gs, q.gt, q.tb, hl, fun i d e => by rw [(h i _ e).2]; exact q.sh i d (h i _ e).1, fun i d e => by rw [(h i _ e).2]; exact q.ow i d (h i _ e).1, fun i d b e m => q.oa i d b (h i _ e).1 m, fun i j d e b h1 h2 => q.sep i j d e b (h i _ h1).1 (h j _ h2).1⟩
theorem R.wipe (q : R κ Gd A r g σ H F) (vs : List Nat) : R κ Gd A (wip r vs) g (L2.wipe σ vs) H F := q.sub (by rw [wip_len, wipe_length]; exact q.len) fun i x h => by
  obtain ⟨h1, h2⟩ := wip_get h
  exact ⟨h1, wipe_out h2⟩
theorem back_get {r0 : Env} : ∀ {vs : List Nat} {i : Nat} {x : D × Bool}, (back r r0 vs)[i]? = some (some x) → (i ∉ vs ∧ r[i]? = some (some x)) ∨ (i ∈ vs ∧ r0[i]? = some (some x) ∧ x.2 = false)
  | [], i, x, h => .inl ⟨by simp, h⟩
  | v :: vs, i, x, h => by
    have h : ((back r r0 vs).set v (keepS r0[v]?))[i]? = some (some x) := h
    by_cases z : i = v
    · subst z
      have := set_self h
      unfold keepS at this
      split at this
      · rename_i d e
        cases this
        exact .inr ⟨by simp, e, rfl⟩
      · cases this
    · rw [set_get z] at h
      rcases back_get h with ⟨h1, h2⟩ | ⟨h1, h2⟩
      · exact .inl ⟨by simp [z, h1], h2⟩
      · exact .inr ⟨by simp [h1], h2⟩
theorem back_len {r0 : Env} : ∀ vs : List Nat, (back r r0 vs).length = r.length
  | [] => rfl
  | v :: vs => by show ((back r r0 vs).set v _).length = _; rw [List.length_set, back_len vs]
/-- behind a block: its own slots as they were, where they were shared -/
theorem R.back {r0 : Env} {A0 : Nat → List Addr} {g0 : G} {H0 : Hp} {F0 : Fz} {vs : List Nat} (q0 : R κ Gd A0 r0 g0 σ H0 F0) (le : F0.Le F) (q : R κ Gd A (wip r vs) g (L2.wipe σ vs) H F) : R κ Gd A (back r r0 vs) g σ H F := by
  have len : σ.length = r.length := by have := q.len; rw [wip_len, wipe_length] at this; exact this
  have own : ∀ (i : Nat) (d : D), (WW.back r r0 vs)[i]? = some (some (d, true)) → (wip r vs)[i]? = some (some (d, true)) ∧ (L2.wipe σ vs)[i]? = σ[i]? := fun i d h => by
    rcases back_get h with ⟨h1, h2⟩ | ⟨_, _, h3⟩
    · refine ⟨?_, wipe_out h1⟩
      have : ∀ {ws : List Nat}, i ∉ ws → (wip r ws)[i]? = r[i]? := by
        intro ws
        induction ws with
        | nil => intro _; rfl
        | cons w ws ih =>
          intro hw
          simp only [List.mem_cons, not_or] at hw
          show ((wip r ws).set w none)[i]? = _
          rw [set_get hw.1]
          exact ih hw.2
      rw [this h1]
      exact h2
    · cases h3
  refine ⟨q.gk, q.fk, q.st, q.gs, q.gt, q.tb, by rw [back_len]; exact len, fun i d h => ?_, fun i d h => ?_, fun i d b h m => q.oa i d b (own i d h).1 m, fun i j d e b h1 h2 => q.sep i j d e b (own i d h1).1 (own j e h2).1⟩
  · rcases back_get h with ⟨h1, h2⟩ | ⟨_, h2, _⟩
    · have : ∀ {ws : List Nat}, i ∉ ws → (wip r ws)[i]? = r[i]? := by
        intro ws
        induction ws with
        | nil => intro _; rfl
        | cons w ws ih =>
          intro hw
          simp only [List.mem_cons, not_or] at hw
          show ((wip r ws).set w none)[i]? = _
          rw [set_get hw.1]
          exact ih hw.2
      obtain ⟨v, z1, z2⟩ := q.sh i d (by rw [this h1]; exact h2)
      rw [wipe_out h1] at z1
      exact ⟨v, z1, z2⟩
    · obtain ⟨v, z1, z2⟩ := q0.sh i d h2
      exact ⟨v, z1, z2.le le⟩
  · obtain ⟨z1, z2⟩ := own i d h
    rw [← z2]
    exact q.ow i d z1
end

/-! ### targets -/
mutual
def slots : T → List Nat
  | .n i => [i]
  | .t l => slotss l
def slotss : List T → List Nat
  | [] => []
  | t :: ts => slots t ++ slotss ts
end
def tG (κ : Ctx) (t : T) : TG := fun v σ H Q => ∃ (Gd : Hp) (A : Nat → List Addr) (r : Env) (g : G) (F : Fz) (d : D) (f : Bool) (r' : Env),
  R κ Gd A r g σ H F ∧ VR κ Gd A r H F v d f ∧ asgT t d f r = some r' ∧ ∀ σ' A', R κ Gd A' r' g σ' H F → (∀ vs : List Nat, (∀ i ∈ slots t, i ∈ vs) → L2.wipe σ' vs = L2.wipe σ vs) → Q σ' H
def tGs (κ : Ctx) (ts : List T) : TGs := fun vs σ H Q => ∃ (Gd : Hp) (A : Nat → List Addr) (r : Env) (g : G) (F : Fz) (ds : List D) (r' : Env),
  R κ Gd A r g σ H F ∧ RepL κ F vs ds ∧ asgTs ts ds r = some r' ∧ ∀ σ' A', R κ Gd A' r' g σ' H F → (∀ vs : List Nat, (∀ i ∈ slotss ts, i ∈ vs) → L2.wipe σ' vs = L2.wipe σ vs) → Q σ' H
theorem _root_.L2.PG.imp {X : Cx} {e : Expr} {t t' : TG} (h : PG X e t) (i : ∀ v σ H Q, t' v σ H Q → t v σ H Q) : PG X e t' := ⟨fun pins s σ H v u Q I r q => h.run pins s σ H v u Q I r (i _ _ _ _ q)⟩
theorem _root_.L2.PGs.imp {X : Cx} {e : List Expr} {t t' : TGs} (h : PGs X e t) (i : ∀ v σ H Q, t' v σ H Q → t v σ H Q) : PGs X e t' := ⟨fun pins s σ H v u Q I r q => h.run pins s σ H v u Q I r (i _ _ _ _ q)⟩
theorem wipe_set {σ : L2.St} {i : Nat} {x : Option V} : ∀ {vs : List Nat}, i ∈ vs → L2.wipe (σ.set i x) vs = L2.wipe σ vs := by
  intro vs hi
  refine List.ext_getElem? fun j => ?_
  have key : ∀ {ws : List Nat} {τ : L2.St}, j ∈ ws → (L2.wipe τ ws)[j]? = if j < τ.length then some none else none := by
    intro ws
    induction ws with
    | nil => intro _ h; simp at h
    | cons w ws ih =>
      intro τ h
      show ((L2.wipe τ ws).set w none)[j]? = _
      by_cases z : j = w
      · subst z
        split
        · rw [List.getElem?_set_self (by rw [wipe_length]; assumption)]
        · rw [List.getElem?_eq_none_iff.mpr (by rw [List.length_set, wipe_length]; omega)]
      · rw [set_get z]
        exact ih (by simpa [z] using h)
  by_cases hj : j ∈ vs
  · rw [key hj, key hj, List.length_set]
  · rw [wipe_out hj, wipe_out hj, set_get fun z => hj (by rw [z]; exact hi)]
section
variable {κ : Ctx} {C : Cl} {X : Cx} {pos : Pos}
theorem gn_n {i : Nat} {x : Str} (xc : XC κ X) (hi : X.N[i]? = some x) (hx : Loc X.env.scope x) (hf : X.fn x = true ∨ X.env.scope.names.lookup x = some .local) : PG X (.Name x pos) (tG κ (.n i)) := by
  refine ⟨fun pins s σ H v u Q I rv q => ?_⟩
  refine (pg_name xc.nd hi hx hf).run pins s σ H v u Q I rv ?_
  obtain ⟨Gd, A, r, g, F, d, f, r', q, vr, h, k⟩ := q
  cases h
  have hl : i < r.length := by rw [← q.len, I.len]; exact (List.getElem?_eq_some_iff.mp hi).1
  obtain ⟨A', q', _⟩ := q.put vr hl
  exact k _ A' q' fun vs hv => wipe_set (hv i (by simp [slots]))
theorem gs_nil : PGs X [] (tGs κ []) := pgs_nil.imp fun vs σ H Q q => by
  obtain ⟨Gd, A, r, g, F, ds, r', q, rl, h, k⟩ := q
  cases ds with
  | nil => cases rl; cases h; exact ⟨rfl, k _ A q fun _ _ => rfl⟩
  | cons _ _ => cases h
theorem nStar_asg {e : Expr} (h : nStar e = true) (es : List Expr) (env : PySem.Env) : assignEach (e :: es) env = (false, assign e env) :: assignEach es env := by
  cases e <;> first | rfl | simp [nStar] at h
theorem gs_cons {e : Expr} {es : List Expr} {t : T} {ts : List T} (h1 : PG X e (tG κ t)) (h2 : PGs X es (tGs κ ts)) (hs : nStar e = true) : PGs X (e :: es) (tGs κ (t :: ts)) :=
  (pgs_cons h1 h2 (by rw [nStar_asg hs]; rfl)).imp fun vs σ H Q q => by
    obtain ⟨Gd, A, r, g, F, ds, r', q, rl, h, k⟩ := q
    cases ds with
    | nil => cases h
    | cons d ds =>
      simp only [asgTs, Option.bind_eq_some_iff] at h
      obtain ⟨r1, h1, h2⟩ := h
      cases rl with
      | cons ra rb =>
        refine ⟨_, _, rfl, Gd, A, r, g, F, d, false, r1, q, ra, h1, fun σ1 A1 q1 w1 => ⟨Gd, A1, r1, g, F, ds, r', q1, rb, h2, fun σ2 A2 q2 w2 => k σ2 A2 q2 fun vs hv => ?_⟩⟩
        have s1 : ∀ i ∈ slots t, i ∈ vs := fun i hi => hv i (by simp [slotss, hi])
        have s2 : ∀ i ∈ slotss ts, i ∈ vs := fun i hi => hv i (by simp [slotss, hi])
        exact (w2 vs s2).trans (w1 vs s1)
theorem asg_len {es : List Expr} (hs : es.all nStar = true) (env : PySem.Env) : (assignEach es env).length = es.length ∧ (assignEach es env).findIdx? (·.1) = none := by
  induction es with
  | nil => exact ⟨rfl, rfl⟩
  | cons e es ih =>
    rw [List.all_cons, Bool.and_eq_true] at hs
    rw [nStar_asg hs.1]
    obtain ⟨h1, h2⟩ := ih hs.2
    refine ⟨by simp [h1], ?_⟩
    rw [List.findIdx?_cons]
    simp [h2]
theorem asgTs_len : ∀ {ts : List T} {ds : List D} {r r' : Env}, asgTs ts ds r = some r' → ds.length = ts.length
  | [], [], _, _, _ => rfl
  | [], _ :: _, _, _, h => by cases h
  | _ :: _, [], _, _, h => by cases h
  | t :: ts, d :: ds, r, r', h => by
    simp only [asgTs, Option.bind_eq_some_iff] at h
    obtain ⟨r1, _, h2⟩ := h
    simp [asgTs_len h2]
theorem gn_t {es : List Expr} {ts : List T} {k0 : Nat} (xc : XC κ X) (h : PGs X es (tGs κ ts)) (hs : es.all nStar = true) (hl : es.length = ts.length) : PG X (.Tuple es k0 pos) (tG κ (.t ts)) :=
  (pg_tup xc.calm h (asg_len hs X.env).1 (asg_len hs X.env).2).imp fun v σ H Q q => by
    obtain ⟨Gd, A, r, g, F, d, f, r', q, vr, h, k⟩ := q
    cases d with
    | tup ds =>
      simp only [asgT] at h
      have rp : Rep κ F v (.tup ds) := by
        cases f with
        | false => exact vr
        | true => obtain ⟨_, _, rt, _⟩ := vr; exact rt.elim
      cases rp with
      | tup q1 q2 =>
        have hq := sqT_fk q.fk q1
        rw [← xc.K] at hq
        exact ⟨_, _, rfl, hq, by rw [q2.length, asgTs_len h, hl], Gd, A, r, g, F, ds, r', q, q2, h, k⟩
    | _ => simp [asgT] at h
end
end WW
end
section
set_option maxHeartbeats 1000000
/-! walks -/
namespace WW
open PySem PySem.Spec PyProof.Rows L2 L2.DX RZ
/-- an iterator gives these, as long as what stays stays -/
structure ItD (κ : Ctx) (J : It) (F : Fz) (xs : List D) : Prop where
  go : ∀ i H F', F.Le F' → Fk F' H → i < xs.length → J.go i H
  stop : ∀ i H F', F.Le F' → Fk F' H → xs.length ≤ i → J.stop i H
  yld : ∀ i H F' x H' d, F.Le F' → Fk F' H → xs[i]? = some d → J.yld i H x H' → ∃ F'', Pure H F' H' F'' ∧ Rep κ F'' x d
theorem ItD.le {κ : Ctx} {J : It} {F F' : Fz} {xs : List D} (h : ItD κ J F xs) (l : F.Le F') : ItD κ J F' xs :=
  ⟨fun i H G l2 => h.go i H G (l.trans l2), fun i H G l2 => h.stop i H G (l.trans l2), fun i H G x H' d l2 => h.yld i H G x H' d (l.trans l2)⟩
/-- a walk's words -/
def tI (κ : Ctx) (C : Cl) (k : Nat) (es : List E) : TI := fun σ H R' => ∃ (Gd : Hp) (A : Nat → List Addr) (r : Env) (g : G) (F : Fz) (ds : List D) (st : St) (xs : List D),
  R κ Gd A r g σ H F ∧ evs C es ⟨r, g⟩ = some (ds, st) ∧ walk k ds = some xs ∧ ∀ J H' F' A', Grow Gd F F' → R κ Gd A' st.r st.g σ H' F' → ItD κ J F' xs → R' J H'
theorem _root_.L2.PI.imp {X : Cx} {tg e : Expr} {t t' : TI} (h : PI X tg e t) (i : ∀ σ H Q, t' σ H Q → t σ H Q) : PI X tg e t' := ⟨fun pins s σ H Q I q => h.run pins s σ H Q I (i _ _ _ q)⟩

/-! ### the keys of a dict -/
def Ikd (d : Addr) (es : DS) : It := ⟨fun i H => H d = some (DicO d es) ∧ i < es.1.length, fun i H x H' => H' = H ∧ ∃ h v, es.1[i]? = some (h, x, v), fun i H => H d = some (DicO d es) ∧ es.1.length ≤ i⟩
theorem turn_kd {P : Program} {w : World} {K : PySem.W.Frag} {tg : Expr} (d : Addr) (es : DS) (it : Addr) (hl : es.1.length = es.2.1.size) : Turn P w K tg (Ikd d es) [it] it (fun i h => h.IsKeyIter it d i es.2.1.size es.2.2) where
  mem := by simp
  obj := fun i h st b hb => by
    have e : b = it := by simpa using hb
    subst e
    obtain ⟨oi, e, c, dd⟩ := st
    exact ⟨oi, e, fun v z => by rw [dd] at z; cases z⟩
  keep := fun i h h' st k => st.at fun oi e => k it (by simp) oi e
  item := by
    intro X hP hw hK hc i pins s σ H E I hf st hg
    subst hP hw hK
    obtain ⟨hd, hi⟩ := hg
    obtain ⟨f0, f1, f2, f3, f4, f5⟩ := hf it (by simp)
    obtain ⟨hS, hz, raw, er⟩ := dic_at I hd
    refine PySem.wpAny_pyNext_keys_item_raw st raw (by omega) fun h' st' sb => ?_
    have I1 : L2.Inv X pins σ H { s with heap := h' } := I.turned (t' := s.toks) (fun b ob hb e => (sb.2 b hb).trans e) f0 f1 f3 f4 f5
    obtain ⟨oi, e, c, dd⟩ := id st'
    obtain ⟨en, e1, _, e3, _⟩ := er.get (p := es.1[i]) (List.getElem?_eq_getElem hi)
    have hlt : i < es.2.1.size := by omega
    rw [Array.getElem?_toList, Array.getElem?_eq_getElem hlt] at e1
    cases e1
    exact ⟨_, rfl, go_of (s := { s with heap := h' }) e c dd (by decide) ⟨_, H, I1, e3, ⟨rfl, _, _, List.getElem?_eq_getElem hi⟩, st', fun b hb => (hf b hb).1⟩⟩
  done := by
    intro X hP hw hK hc i pins s σ H E I hf st hg
    subst hP hw hK
    obtain ⟨hd, hi⟩ := hg
    obtain ⟨f0, f1, f2, f3, f4, f5⟩ := hf it (by simp)
    obtain ⟨hS, hz, raw, er⟩ := dic_at I hd
    exact PySem.wpAny_pyNext_keys_end_raw (I.ok.hd hc) st raw (by omega) fun h' eb => ⟨rfl, I.turned (t' := s.toks) (fun b ob hb e => eb b ob hb e) f0 f1 f3 f4 f5⟩
  self := fun A i s Q E st h => wpAny_pyIter_keyiter st h
section
variable {κ : Ctx} {C : Cl} {X : Cx} {e e2 : Expr} {e' e2' : E} {tg : Expr} {pos p : Pos}
theorem itd_lst {F : Fz} {a : Addr} {xs : List V} {l : List D} (hK : X.K = κ.K) (h : F.m a = some (.lst xs)) (r : RepL κ F xs l) : ItD κ (Itl X.K a) F l where
  go := fun i H F' le k hi => ⟨xs, xs[i]'(by rw [r.length]; exact hi), .inl (.inl (k _ _ (le.m _ _ h))), List.getElem?_eq_getElem _⟩
  stop := fun i H F' le k hi => ⟨xs, .inl (.inl (k _ _ (le.m _ _ h))), by rw [r.length]; exact hi⟩
  yld := fun i H F' x H' d le k hd y => by
    obtain ⟨rfl, y⟩ := y
    obtain ⟨v, h1, h2⟩ := r.get hd
    have := y xs (.inl (.inl (k _ _ (le.m _ _ h))))
    rw [h1] at this
    cases this
    exact ⟨F', .ident k, h2.le le⟩
theorem itd_tup {F : Fz} {a : Addr} {xs : List V} {l : List D} (hK : X.K = κ.K) (h : SqT κ.K F.m a xs) (r : RepL κ F xs l) : ItD κ (Itt X.K a) F l where
  go := fun i H F' le k hi => ⟨xs, xs[i]'(by rw [r.length]; exact hi), by rw [hK]; exact sqT_fk k (sqT_le le h), List.getElem?_eq_getElem _⟩
  stop := fun i H F' le k hi => ⟨xs, by rw [hK]; exact sqT_fk k (sqT_le le h), by rw [r.length]; exact hi⟩
  yld := fun i H F' x H' d le k hd y => by
    obtain ⟨rfl, y⟩ := y
    obtain ⟨v, h1, h2⟩ := r.get hd
    have := y xs (by rw [hK]; exact sqT_fk k (sqT_le le h))
    rw [h1] at this
    cases this
    exact ⟨F', .ident k, h2.le le⟩
theorem itd_dct {F : Fz} {a : Addr} {es : DS} {l : List (D × D)} (h : F.m a = some (DicO a es)) (r : RepD κ F es.1 l) : ItD κ (Ikd a es) F (l.map (·.1)) where
  go := fun i H F' le k hi => ⟨k _ _ (le.m _ _ h), by rw [r.length]; simpa using hi⟩
  stop := fun i H F' le k hi => ⟨k _ _ (le.m _ _ h), by rw [r.length]; simpa using hi⟩
  yld := fun i H F' x H' d le k hd y => by
    obtain ⟨rfl, hh, vv, y⟩ := y
    rw [List.getElem?_map, Option.map_eq_some_iff] at hd
    obtain ⟨⟨kd, vd⟩, h1, rfl⟩ := hd
    obtain ⟨a1, b1, h2, h3, _⟩ := r.get h1
    rw [y] at h2
    cases h2
    exact ⟨F', .ident k, h3.le le⟩
/-- a list, a tuple, a dict's keys -/
def iAny (X : Cx) (tl : TE) : TI := fun σ H R' => tl σ H fun x H1 => ∃ a, x = .ref a ∧ ((∃ xs, SqL X.K H1 a xs ∧ R' (Itl X.K a) H1) ∨ (∃ xs, SqT X.K H1 a xs ∧ R' (Itt X.K a) H1) ∨ ∃ es, H1 a = some (DicO a es) ∧ R' (Ikd a es) H1)
theorem pi_any {tl : TE} (hl : PE X e tl) : PI X tg e (iAny X tl) := by
  refine ⟨fun pins s σ H R' I h => ?_⟩
  refine thn (hl.run pins s σ H _ I h) fun v s1 ⟨x, H1, I1, r1, q1⟩ => ?_
  obtain ⟨a, e, q⟩ := q1
  subst e
  cases r1
  rcases q with ⟨xs, hq, q⟩ | ⟨xs, hq, q⟩ | ⟨es, hq, q⟩
  · obtain ⟨its, rv, p, hz⟩ := I1.list hq
    refine wpAny_pyIter_list p.isList ?_
    refine ⟨s1.heap.objs.size, [s1.heap.objs.size], _, _, H1, rfl, I1.kept (t' := s1.toks) fun b o e => Heap.get?_push_of_some _ e, turn_list a _, ⟨_, Heap.get?_push_size _ rfl, rfl, rfl⟩, fun b hb => ?_, q⟩
    have e : b = s1.heap.objs.size := by simpa using hb
    subst e
    exact I1.fpOk (Nat.le_refl _) (I1.hok.fresh (Nat.le_refl _))
  · obtain ⟨its, rv, p, hz⟩ := I1.tuple hq
    refine wpAny_pyIter_tuple (show s1.heap.IsTuple a its.toArray from p) ?_
    refine ⟨s1.heap.objs.size, [s1.heap.objs.size], _, _, H1, rfl, I1.kept (t' := s1.toks) fun b o e => Heap.get?_push_of_some _ e, turn_tuple a _, ⟨_, Heap.get?_push_size _ rfl, rfl, rfl⟩, fun b hb => ?_, q⟩
    have e : b = s1.heap.objs.size := by simpa using hb
    subst e
    exact I1.fpOk (Nat.le_refl _) (I1.hok.fresh (Nat.le_refl _))
  · obtain ⟨hS, hz, raw, er⟩ := dic_at I1 hq
    refine PySem.wpAny_pyIter_dict_raw hS raw ?_
    refine ⟨s1.heap.objs.size, [s1.heap.objs.size], _, _, H1, rfl, I1.kept (t' := s1.toks) fun b o e => Heap.get?_push_of_some _ e, turn_kd a es _ er.length, ⟨_, Heap.get?_push_size _ rfl, rfl, rfl⟩, fun b hb => ?_, q⟩
    have e : b = s1.heap.objs.size := by simpa using hb
    subst e
    exact I1.fpOk (Nat.le_refl _) (I1.hok.fresh (Nat.le_refl _))
theorem sw_any (xc : XC κ X) (he : PE X e (tV κ C e')) : PI X tg e (tI κ C 0 [e']) :=
  (pi_any he).imp fun σ H R' q => by
    obtain ⟨Gd, A, r, g, F, ds, st, xs, q, h, hw, k⟩ := q
    simp only [evs, Option.bind_eq_some_iff, Option.map_eq_some_iff] at h
    obtain ⟨⟨d, f1, s1⟩, h1, ⟨ds1, s2⟩, h2, h3⟩ := h
    cases h2
    cases h3
    refine tV.op q (toE_some h1) fun v H1 F1 A1 g1 q1 o1 => ?_
    have o1 : Rep κ F1 v d := o1
    simp only [walk] at hw
    cases d with
    | lst l =>
      cases hw
      cases o1 with
      | lst z1 z2 => exact ⟨_, rfl, .inl ⟨_, .inl (.inl (q1.fk _ _ z1)), k _ H1 F1 A1 g1 q1 (itd_lst xc.K z1 z2)⟩⟩
    | tup l =>
      cases hw
      cases o1 with
      | tup z1 z2 => exact ⟨_, rfl, .inr (.inl ⟨_, by rw [xc.K]; exact sqT_fk q1.fk z1, k _ H1 F1 A1 g1 q1 (itd_tup xc.K z1 z2)⟩)⟩
    | dct l =>
      cases hw
      cases o1 with
      | dct z1 z2 z3 => exact ⟨_, rfl, .inr (.inr ⟨_, q1.fk _ _ z1, k _ H1 F1 A1 g1 q1 (itd_dct z1 z2)⟩)⟩
    | _ => cases hw
theorem itd_rng {F : Fz} {lo : Int} {n : Nat} : ItD κ (Itr lo n) F ((List.range n).map fun (m : Nat) => D.int (lo + (m : Int))) where
  go := fun i H F' le k hi => by show i < n; simpa using hi
  stop := fun i H F' le k hi => by show n ≤ i; simpa using hi
  yld := fun i H F' x H' d le k hd y => by
    obtain ⟨rfl, rfl⟩ := y
    rw [List.getElem?_map, Option.map_eq_some_iff] at hd
    obtain ⟨m, h1, rfl⟩ := hd
    obtain ⟨hi, h1⟩ := List.getElem?_eq_some_iff.mp h1
    rw [List.getElem_range] at h1
    subst h1
    exact ⟨F', .ident k, .int _⟩
theorem sw_rng1 (xc : XC κ X) (hg : Gl X "range") (hm : κ.mg "range" = none) (he : PE X e (tV κ C e')) (hs : nStar e = true) : PI X tg (.Call (.Name "range" p) [e] [] pos) (tI κ C 1 [e']) :=
  (pi_range1 hg (by rw [xc.mg]; exact hm) (sa_cons he sa_nil hs) (starEach_cons hs [] X.env)).imp fun σ H R' q => by
    obtain ⟨Gd, A, r, g, F, ds, st, xs, q, h, hw, k⟩ := q
    refine ⟨Gd, A, r, g, F, ds, st, q, h, fun vs H' F' A' gr q' rl => ?_⟩
    rcases ds with _ | ⟨d, _ | ⟨d2, ds⟩⟩
    · cases hw
    · cases d with
      | int j =>
        simp only [walk] at hw
        split at hw
        · rename_i hj
          cases hw
          cases rl with
          | cons ra rb =>
            cases ra
            cases rb
            refine ⟨j, rfl, hj.1, hj.2, k _ H' F' A' gr q' ?_⟩
            have := itd_rng (κ := κ) (F := F') (lo := 0) (n := j.toNat)
            simpa using this
        · cases hw
      | _ => cases hw
    · exfalso
      have h3 := h
      simp only [evs, Option.bind_eq_some_iff, Option.map_eq_some_iff] at h3
      obtain ⟨⟨dd, f1, s1⟩, h1, ⟨ds1, s2⟩, h2, h4⟩ := h3
      cases h2
      cases h4
theorem sw_rng2 (xc : XC κ X) (hg : Gl X "range") (hm : κ.mg "range" = none) (he : PE X e (tV κ C e')) (he2 : PE X e2 (tV κ C e2')) (hs : nStar e = true) (hs2 : nStar e2 = true) : PI X tg (.Call (.Name "range" p) [e, e2] [] pos) (tI κ C 1 [e', e2']) :=
  (pi_range2 hg (by rw [xc.mg]; exact hm) (sa_cons he (sa_cons he2 sa_nil hs2) hs) (by rw [starEach_cons hs, starEach_cons hs2]; rfl) (starEach_cons hs2 [] X.env)).imp fun σ H R' q => by
    obtain ⟨Gd, A, r, g, F, ds, st, xs, q, h, hw, k⟩ := q
    refine ⟨Gd, A, r, g, F, ds, st, q, h, fun vs H' F' A' gr q' rl => ?_⟩
    have h3 := h
    simp only [evs, Option.bind_eq_some_iff, Option.map_eq_some_iff] at h3
    obtain ⟨⟨d1, f1, s1⟩, h1, ⟨ds1, s2⟩, ⟨⟨d2, f2, s3⟩, h2, ⟨ds2, s4⟩, h4, h5⟩, h6⟩ := h3
    cases h4
    cases h5
    cases h6
    cases d1 with
    | int i =>
      cases d2 with
      | int j =>
        simp only [walk] at hw
        split at hw
        · rename_i hj
          cases hw
          cases rl with
          | cons ra rb =>
            cases ra
            cases rb with
            | cons rb rc =>
              cases rb
              cases rc
              exact ⟨i, j, rfl, ⟨hj.1, hj.2.1, hj.2.2.1, hj.2.2.2⟩, k _ H' F' A' gr q' itd_rng⟩
        · cases hw
      | _ => cases hw
    | _ => cases hw
/-! ### enumerate, zip -/
theorem itd_enum {F : Fz} {a : Addr} {xs : List V} {l : List D} (h : F.m a = some (.lst xs)) (r : RepL κ F xs l) : ItD κ (Ite X.K a) F (l.zipIdx.map fun p => D.tup [.int (p.2 : Int), p.1]) where
  go := fun i H F' le k hi => ⟨xs, xs[i]'(by rw [r.length]; simpa using hi), .inl (.inl (k _ _ (le.m _ _ h))), List.getElem?_eq_getElem _⟩
  stop := fun i H F' le k hi => ⟨xs, .inl (.inl (k _ _ (le.m _ _ h))), by rw [r.length]; simpa using hi⟩
  yld := fun i H F' x H' d le k hd y => by
    obtain ⟨T, z, rfl, hn, rfl, y⟩ := y
    rw [List.getElem?_map, Option.map_eq_some_iff] at hd
    obtain ⟨⟨dd, j⟩, h1, rfl⟩ := hd
    rw [List.getElem?_zipIdx, Option.map_eq_some_iff] at h1
    obtain ⟨d1, h2, h3⟩ := h1
    cases h3
    obtain ⟨v, h4, h5⟩ := r.get h2
    have := y xs (.inl (.inl (k _ _ (le.m _ _ h))))
    rw [h4] at this
    cases this
    have pk := Pure.kept (o := .tup [.int (i : Nat), z]) k hn
    refine ⟨_, pk, .tup (.inl (.inl upd_same)) (.cons ?_ (.cons (h5.le (le.trans pk.le)) .nil))⟩
    rw [Nat.zero_add]
    exact .int _
theorem sw_enum (xc : XC κ X) {elts : List Expr} {kk : Nat} {tpos : Pos} (hg : Gl X "enumerate") (hm : κ.mg "enumerate" = none) (he : PE X e (tV κ C e')) (hs : nStar e = true) : PI X (.Tuple elts kk tpos) (.Call (.Name "enumerate" p) [e] [] pos) (tI κ C 2 [e']) :=
  (pi_enum hg (by rw [xc.mg]; exact hm) (sa_cons he sa_nil hs) (starEach_cons hs [] X.env)).imp fun σ H R' q => by
    obtain ⟨Gd, A, r, g, F, ds, st, xs, q, h, hw, k⟩ := q
    refine ⟨Gd, A, r, g, F, ds, st, q, h, fun vs H' F' A' gr q' rl => ?_⟩
    have h3 := h
    simp only [evs, Option.bind_eq_some_iff, Option.map_eq_some_iff] at h3
    obtain ⟨⟨d1, f1, s1⟩, h1, ⟨ds1, s2⟩, h4, h6⟩ := h3
    cases h4
    cases h6
    cases d1 with
    | lst l =>
      simp only [walk] at hw
      cases hw
      cases rl with
      | cons ra rb =>
        cases rb
        cases ra with
        | lst z1 z2 => exact ⟨_, _, rfl, .inl (.inl (q'.fk _ _ z1)), k _ H' F' A' gr q' (itd_enum z1 z2)⟩
    | _ => cases hw
theorem zip2_get : ∀ {a b : List D} {i : Nat} {d : D}, (zip2 a b)[i]? = some d → ∃ x y, a[i]? = some x ∧ b[i]? = some y ∧ d = .tup [x, y]
  | [], b, i, d, h => by simp [zip2] at h
  | x :: a, [], i, d, h => by simp [zip2] at h
  | x :: a, y :: b, 0, d, h => by simp [zip2] at h; exact ⟨x, y, rfl, rfl, h.symm⟩
  | x :: a, y :: b, i + 1, d, h => by
    obtain ⟨x', y', h1, h2, h3⟩ := zip2_get (i := i) (by simpa [zip2] using h)
    exact ⟨x', y', by simpa using h1, by simpa using h2, h3⟩
theorem zip2_len : ∀ {a b : List D}, (zip2 a b).length = min a.length b.length
  | [], b => by simp [zip2]
  | x :: a, [] => by simp [zip2]
  | x :: a, y :: b => by simp [zip2, zip2_len (a := a) (b := b)]
def seqB (b : Bool) (l : List D) : D := match b with
  | true => .lst l
  | false => .tup l
theorem sqO_of {F : Fz} {b : Bool} {v : V} {l : List D} (h : Rep κ F v (seqB b l)) : ∃ a xs, v = .ref a ∧ SqO κ.K b F.m a xs ∧ RepL κ F xs l := by
  cases b
  · cases h with
    | tup q r => exact ⟨_, _, rfl, q, r⟩
  · cases h with
    | lst q r => exact ⟨_, _, rfl, .inl (.inl q), r⟩
theorem sqO_le {F F' : Fz} {b : Bool} {a : Addr} {xs : List V} {H : Hp} (le : F.Le F') (k : Fk F' H) (h : SqO κ.K b F.m a xs) : SqO κ.K b H a xs := by
  cases b
  · exact sqT_fk k (sqT_le le h)
  · exact sqL_le (κ := κ) (F := F') (F' := ⟨H, F'.s, F'.c⟩) ⟨k, fun _ z => z, fun _ _ z => z⟩ (sqL_le le h)
theorem itd_zip {F : Fz} {b c : Bool} {l0 m0 : Addr} {xs ys : List V} {l m : List D} (hK : X.K = κ.K) (h : SqO κ.K b F.m l0 xs) (r : RepL κ F xs l) (h2 : SqO κ.K c F.m m0 ys) (r2 : RepL κ F ys m) : ItD κ (Izm X.K b c l0 m0) F (zip2 l m) where
  go := fun i H F' le k hi => by
    rw [zip2_len] at hi
    exact ⟨xs, ys, xs[i]'(by rw [r.length]; omega), ys[i]'(by rw [r2.length]; omega), by rw [hK]; exact sqO_le le k h, by rw [hK]; exact sqO_le le k h2, List.getElem?_eq_getElem _, List.getElem?_eq_getElem _⟩
  stop := fun i H F' le k hi => by
    rw [zip2_len] at hi
    exact ⟨xs, ys, by rw [hK]; exact sqO_le le k h, by rw [hK]; exact sqO_le le k h2, by rw [r.length, r2.length]; omega⟩
  yld := fun i H F' x H' d le k hd y => by
    obtain ⟨T, z, z2, rfl, hn, rfl, y, y2⟩ := y
    obtain ⟨dx, dy, h3, h4, rfl⟩ := zip2_get hd
    obtain ⟨v, h5, h6⟩ := r.get h3
    obtain ⟨v2, h7, h8⟩ := r2.get h4
    have e1 := y xs (by rw [hK]; exact sqO_le le k h)
    have e2 := y2 ys (by rw [hK]; exact sqO_le le k h2)
    rw [h5] at e1
    rw [h7] at e2
    cases e1
    cases e2
    have pk := Pure.kept (o := .tup [z, z2]) k hn
    exact ⟨_, pk, .tup (.inl (.inl upd_same)) (.cons (h6.le (le.trans pk.le)) (.cons (h8.le (le.trans pk.le)) .nil))⟩
theorem walk_zip {ds xs : List D} (h : walk 3 ds = some xs) : ∃ b c l m, ds = [seqB b l, seqB c m] ∧ xs = zip2 l m := by
  unfold walk at h
  split at h <;> first | (rename_i e; cases e; done) | skip
  all_goals first | (cases h; done) | skip
  all_goals (cases h)
  · exact ⟨true, true, _, _, rfl, rfl⟩
  · exact ⟨false, false, _, _, rfl, rfl⟩
  · exact ⟨true, false, _, _, rfl, rfl⟩
  · exact ⟨false, true, _, _, rfl, rfl⟩
theorem sw_zip (xc : XC κ X) {elts : List Expr} {kk : Nat} {tpos : Pos} (hg : Gl X "zip") (hm : κ.mg "zip" = none) (he : PE X e (tV κ C e')) (he2 : PE X e2 (tV κ C e2')) (hs : nStar e = true) (hs2 : nStar e2 = true) : PI X (.Tuple elts kk tpos) (.Call (.Name "zip" p) [e, e2] [] pos) (tI κ C 3 [e', e2']) :=
  (pi_zm hg (by rw [xc.mg]; exact hm) (sa_cons he (sa_cons he2 sa_nil hs2) hs) (starEach_cons hs [e2] X.env) (star_plain (e := e) hs (by simp [hs2]) _ _)).imp fun σ H R' q => by
    obtain ⟨Gd, A, r, g, F, ds, st, xs, q, h, hw, k⟩ := q
    refine ⟨Gd, A, r, g, F, ds, st, q, h, fun vs H' F' A' gr q' rl => ?_⟩
    obtain ⟨b, c, l, m, rfl, rfl⟩ := walk_zip hw
    cases rl with
    | cons ra rb =>
      cases rb with
      | cons rb rc =>
        cases rc
        obtain ⟨a1, v1, rfl, z1, z2⟩ := sqO_of ra
        obtain ⟨a2, v2, rfl, z3, z4⟩ := sqO_of rb
        exact ⟨_, _, _, _, b, c, rfl, by rw [xc.K]; exact sqO_le .rfl q'.fk z1, by rw [xc.K]; exact sqO_le .rfl q'.fk z3, k _ H' F' A' gr q' (itd_zip xc.K z1 z2 z3 z4)⟩
end
end WW
end
section
set_option maxHeartbeats 1000000
/-! statements -/
namespace WW
open PySem PySem.Spec PyProof.Rows L2 L2.DX
def A0 : Nat → List Addr := fun _ => []
/-- what is wanted at the end of a statement -/
def EndD (κ : Ctx) (Gd : Hp) (D : Ends) (F : Fz) : Out → Prop
  | .nx s => ∀ σ' H' F' A', Grow Gd F F' → R κ Gd A' s.r s.g σ' H' F' → D.nx σ' H'
  | .ret d f g => ∀ v H' F', Grow Gd F F' → R κ Gd A0 [] g [] H' F' → VR κ Gd A0 [] H' F' v d f → D.rt v H'
  | .brk s => ∀ σ' H' F' A', Grow Gd F F' → R κ Gd A' s.r s.g σ' H' F' → D.bk σ' H'
  | .cnt s => ∀ σ' H' F' A', Grow Gd F F' → R κ Gd A' s.r s.g σ' H' F' → D.ct σ' H'
def tSt (κ : Ctx) (C : Cl) (w : Nat) (s : S) : TS := fun D σ H => ∃ (Gd : Hp) (A : Nat → List Addr) (r : Env) (g : G) (F : Fz) (o : Out), R κ Gd A r g σ H F ∧ evS C w s ⟨r, g⟩ = some o ∧ EndD κ Gd D F o
def tSs (κ : Ctx) (C : Cl) (w : Nat) (s : List S) : TS := fun D σ H => ∃ (Gd : Hp) (A : Nat → List Addr) (r : Env) (g : G) (F : Fz) (o : Out), R κ Gd A r g σ H F ∧ evSs C w s ⟨r, g⟩ = some o ∧ EndD κ Gd D F o
theorem _root_.L2.PSs.imp {X : Cx} {e : List Stmt} {t t' : TS} (h : PSs X e t) (i : ∀ D σ H, t' D σ H → t D σ H) : PSs X e t' := ⟨fun pins s σ H D I q => h.run pins s σ H D I (i _ _ _ q)⟩
section
variable {κ : Ctx} {C : Cl} {w : Nat} {X : Cx} {pos : Pos}
theorem EndD.grow {Gd : Hp} {D : Ends} {F F' : Fz} (g : Grow Gd F F') : ∀ {o : Out}, EndD κ Gd D F o → EndD κ Gd D F' o
  | .nx _, h => fun σ H F A g2 q => h σ H F A (g.trans g2) q
  | .ret _ _ _, h => fun v H F g2 q vr => h v H F (g.trans g2) q vr
  | .brk _, h => fun σ H F A g2 q => h σ H F A (g.trans g2) q
  | .cnt _, h => fun σ H F A g2 q => h σ H F A (g.trans g2) q
theorem R.nil {Gd : Hp} {A : Nat → List Addr} {r : Env} {g : G} {σ : L2.St} {H : Hp} {F : Fz} (q : R κ Gd A r g σ H F) : R κ Gd A0 [] g [] H F :=
  ⟨q.gk, q.fk, q.st, q.gs, q.gt, q.tb, rfl, fun i d h => by simp at h, fun i d h => by simp at h, fun i d b h => by simp at h, fun i j d e b h => by simp at h⟩
theorem VR.nil {Gd : Hp} {A : Nat → List Addr} {r : Env} {H : Hp} {F : Fz} {v : V} {d : D} : ∀ {f : Bool}, VR κ Gd A r H F v d f → VR κ Gd A0 [] H F v d f
  | false, h => h
  | true, h => by
    obtain ⟨a, e, rt, ow, nd, sp⟩ := h
    exact ⟨a, e, rt, ow, nd, fun i e h => by simp at h⟩
/-- a slot's thing is handed out -/
theorem R.out {Gd : Hp} {A : Nat → List Addr} {r : Env} {g : G} {σ : L2.St} {H : Hp} {F : Fz} {i : Nat} {d : D} {f : Bool} (q : R κ Gd A r g σ H F) (h : r[i]? = some (some (d, f))) (np : isPend d = false) :
    ∃ F' v, Grow Gd F F' ∧ σ[i]? = some (some v) ∧ R κ Gd A0 [] g [] H F' ∧ VR κ Gd A0 [] H F' v (norm d) f := by
  cases f with
  | false =>
    obtain ⟨v, h1, h2⟩ := q.sh i d h
    have h2 := h2.rep np
    refine ⟨F, v, .rfl, h1, q.nil, ?_⟩
    cases d with
    | dcl l => cases h2
    | _ => exact h2
  | true =>
    have key : ∀ (F' : Fz) (A' : Nat → List Addr) (r' : Env) (d' : D), norm d' = d' → Grow Gd F F' → R κ Gd A' r' g σ H F' → r'[i]? = some (some (d', true)) → (∃ b, A' i = [b]) → ∃ v, σ[i]? = some (some v) ∧ VR κ Gd A0 [] H F' v d' true := fun F' A' r' d' nd gr q' hi ⟨b, hb⟩ => by
      obtain ⟨a, h1, h2⟩ := q'.ow i d' hi
      have ha : a ∈ A' i := h2.mem
      rw [hb] at ha h2
      rw [List.mem_singleton] at ha
      subst ha
      exact ⟨_, h1, a, rfl, h2, q'.oa i d' a hi (by rw [hb]; simp), nd, fun i e h => by simp at h⟩
    obtain ⟨a, h1, h2⟩ := q.ow i d h
    cases d with
    | lst l =>
      obtain ⟨v, z1, z2⟩ := key F A r (.lst l) rfl .rfl q h ⟨a, h2.1⟩
      exact ⟨F, v, .rfl, z1, q.nil, z2⟩
    | dct l =>
      obtain ⟨v, z1, z2⟩ := key F A r (.dct l) rfl .rfl q h ⟨a, h2.1⟩
      exact ⟨F, v, .rfl, z1, q.nil, z2⟩
    | dcl l =>
      obtain ⟨F', A', g', q', _⟩ := q.inn1 h
      have hi : i < r.length := (List.getElem?_eq_some_iff.mp h).1
      have hs : (r.set i (some (norm (.dcl l), true)))[i]? = some (some (norm (.dcl l), true)) := List.getElem?_set_self hi
      obtain ⟨a', h3, h4⟩ := q'.ow i _ hs
      obtain ⟨v, z1, z2⟩ := key F' A' _ (norm (.dcl l)) rfl g' q' hs ⟨a', h4.1⟩
      exact ⟨F', v, g', z1, q'.nil, z2⟩
    | _ => exact h2.elim
/-! ### sequences -/
theorem ss_nil : PSs X [] (tSs κ C w []) := pss_nil.imp fun D σ H q => by
  obtain ⟨Gd, A, r, g, F, o, q, h, k⟩ := q
  cases h
  exact k σ H F A .rfl q
theorem ss_cons {s : Stmt} {ss : List Stmt} {s' : S} {ss' : List S} (h1 : PS X s (tSt κ C w s')) (h2 : PSs X ss (tSs κ C w ss')) : PSs X (s :: ss) (tSs κ C w (s' :: ss')) := (pss_cons h1 h2).imp fun D σ H q => by
  obtain ⟨Gd, A, r, g, F, o, q, h, k⟩ := q
  simp only [evSs, Option.bind_eq_some_iff] at h
  obtain ⟨o1, h1, h2⟩ := h
  refine ⟨Gd, A, r, g, F, o1, q, h1, ?_⟩
  cases o1 with
  | nx s1 => exact fun σ' H' F' A' gr q' => ⟨Gd, A', s1.r, s1.g, F', o, q', h2, k.grow gr⟩
  | ret d f g => cases h2; exact k
  | brk s1 => cases h2; exact k
  | cnt s1 => cases h2; exact k
theorem st_pass : PS X (.Pass pos) (tSt κ C w .pass) := ps_pass.imp fun D σ H q => by
  obtain ⟨Gd, A, r, g, F, o, q, h, k⟩ := q
  cases h
  exact k σ H F A .rfl q
theorem st_brk : PS X (.Break pos) (tSt κ C w .brk) := ps_break.imp fun D σ H q => by
  obtain ⟨Gd, A, r, g, F, o, q, h, k⟩ := q
  cases h
  exact k σ H F A .rfl q
theorem st_cnt : PS X (.Continue pos) (tSt κ C w .cnt) := ps_continue.imp fun D σ H q => by
  obtain ⟨Gd, A, r, g, F, o, q, h, k⟩ := q
  cases h
  exact k σ H F A .rfl q
theorem st_never {s : Stmt} : PS X s (tSt κ C w .rai) := ⟨fun _ _ _ _ _ _ q => by
  obtain ⟨Gd, A, r, g, F, o, q, h, k⟩ := q
  cases h⟩
theorem st_retN : PS X (.Return none pos) (tSt κ C w .retN) := ps_retN.imp fun D σ H q => by
  obtain ⟨Gd, A, r, g, F, o, q, h, k⟩ := q
  cases h
  exact k _ H F .rfl q.nil .non
variable {e c : Expr} {e' c' : E}
theorem st_retV {x : Str} {p : Pos} {i : Nat} (hN : X.N[i]? = some x) (hv : Vis X.env.scope x) (hd : (x == ("__debug__" : Str)) = false) (hcd : (x == ("__classdict__" : Str)) = false) : PS X (.Return (some (.Name x p)) pos) (tSt κ C w (.ret (.v i))) :=
  (ps_ret (pe_var hN hv hd hcd)).imp fun D σ H q => by
    obtain ⟨Gd, A, r, g, F, o, q, h, k⟩ := q
    simp only [evS] at h
    split at h
    · rename_i d f e
      split at h
      · cases h
      · rename_i np
        cases h
        obtain ⟨F', v, gr, hs, q', vr⟩ := q.out e (by simpa using np)
        exact ⟨v, hs, k v H F' gr q' vr⟩
    · cases h
def isV : E → Bool
  | .v _ => true
  | _ => false
theorem st_ret (he : PE X e (tV κ C e')) (hn : isV e' = false) : PS X (.Return (some e) pos) (tSt κ C w (.ret e')) :=
  (ps_ret he).imp fun D σ H q => by
    obtain ⟨Gd, A, r, g, F, o, q, h, k⟩ := q
    have h' : (evE C e' ⟨r, g⟩).map (fun (x : WW.D × Bool × WW.St) => Out.ret x.1 x.2.1 x.2.2.g) = some o := by
      cases e' with
      | v i => cases hn
      | _ => simpa only [evS] using h
    rw [Option.map_eq_some_iff] at h'
    obtain ⟨⟨d, f, s1⟩, h1, h2⟩ := h'
    cases h2
    exact ⟨Gd, A, r, g, F, _, f, s1, q, toE_some h1, fun v H' F' A' gr q' tv => k v H' F' gr q'.nil (VR.nil tv)⟩
theorem st_ite {a b : List Stmt} {a' b' : List S} (hc : PT X c (tT κ C c')) (ha : PSs X a (tSs κ C w a')) (hb : PSs X b (tSs κ C w b')) : PS X (.If c a b pos) (tSt κ C w (.ite c' a' b')) :=
  (ps_if hc ha hb).imp fun D σ H q => by
    obtain ⟨Gd, A, r, g, F, o, q, h, k⟩ := q
    simp only [evS, Option.bind_eq_some_iff] at h
    obtain ⟨⟨d, f, s1⟩, h1, h2⟩ := h
    dsimp only at h2
    split at h2
    · refine tT_of q (toE_some h1) fun H1 F1 A1 g1 q1 => ?_
      rw [if_pos rfl]
      exact ⟨Gd, A1, s1.r, s1.g, F1, o, q1, h2, k.grow g1⟩
    · refine tT_of q (toE_some h1) fun H1 F1 A1 g1 q1 => ?_
      rw [if_neg (by simp)]
      exact ⟨Gd, A1, s1.r, s1.g, F1, o, q1, h2, k.grow g1⟩
    · cases h2
theorem st_whl {b : List Stmt} {b' : List S} (hp : PassesOwn (model X.prog X.w) X.A X.env X.xe) (hc : PT X c (tT κ C c')) (hb : PSs X b (tSs κ C w b')) : PS X (.While c b [] pos) (tSt κ C w (.whl c' b')) :=
  (ps_while hp hc hb).imp fun D σ H q => by
    obtain ⟨Gd, A, r, g, F, o, q, h, k⟩ := q
    simp only [evS] at h
    refine ⟨fun n σ H => ∃ A r g F', Grow Gd F F' ∧ R κ Gd A r g σ H F' ∧ whlN (evE C c') (evSs C w b') n ⟨r, g⟩ = some o, ⟨w, A, r, g, F, .rfl, q, h⟩, fun m σ H hW => ?_⟩
    obtain ⟨A, r, g, F1, gr, q, h⟩ := hW
    cases m with
    | zero => cases h
    | succ m =>
      simp only [whlN, Option.bind_eq_some_iff] at h
      obtain ⟨⟨d, f, s1⟩, h1, h2⟩ := h
      dsimp only at h2
      split at h2
      · cases h2
        refine tT_of q (toE_some h1) fun H1 F2 A1 g1 q1 => ?_
        rw [if_neg (by simp)]
        exact k σ H1 F2 A1 (gr.trans g1) q1
      · simp only [Option.bind_eq_some_iff] at h2
        obtain ⟨o1, h3, h4⟩ := h2
        refine tT_of q (toE_some h1) fun H1 F2 A1 g1 q1 => ?_
        rw [if_pos rfl]
        refine ⟨fun σ' H' => ∃ A r g F', Grow Gd F F' ∧ R κ Gd A r g σ' H' F' ∧ whlN (evE C c') (evSs C w b') m ⟨r, g⟩ = some o, fun σ' H' hN => ⟨m, Nat.lt_succ_self _, hN⟩, Gd, A1, s1.r, s1.g, F2, o1, q1, h3, ?_⟩
        cases o1 with
        | nx s2 => exact fun σ' H' F' A' g2 q' => ⟨A', s2.r, s2.g, F', (gr.trans g1).trans g2, q', h4⟩
        | cnt s2 => exact fun σ' H' F' A' g2 q' => ⟨A', s2.r, s2.g, F', (gr.trans g1).trans g2, q', h4⟩
        | brk s2 => cases h4; exact fun σ' H' F' A' g2 q' => k σ' H' F' A' ((gr.trans g1).trans g2) q'
        | ret d f g => cases h4; exact fun v H' F' g2 q' vr => k v H' F' ((gr.trans g1).trans g2) q' vr
      · cases h2
theorem st_for {tg : Expr} {t : T} {k0 : Nat} {a' : List E} {b : List Stmt} {b' : List S} (hp : PassesOwn (model X.prog X.w) X.A X.env X.xe) (hc : X.calm = true) (hi : PI X tg e (tI κ C k0 a')) (hg : PG X tg (tG κ t)) (hb : PSs X b (tSs κ C w b'))
    (hs : ∀ x, foldedSetIterable e X.env x = pure x) : PS X (.For tg e b [] pos) (tSt κ C w (.for_ k0 t a' b')) :=
  (ps_for hp hc hi hg hb hs).imp fun D σ H q => by
    obtain ⟨Gd, A, r, g, F, o, q, h, k⟩ := q
    simp only [evS, Option.bind_eq_some_iff] at h
    obtain ⟨⟨ds, s1⟩, h1, xs, h2, h3⟩ := h
    refine ⟨Gd, A, r, g, F, ds, s1, xs, q, h1, h2, fun J H1 F1 A1 g1 q1 it => ?_⟩
    refine ⟨fun i n σ H => n = xs.length - i ∧ i ≤ xs.length ∧ ∃ A r g F', Grow Gd F1 F' ∧ R κ Gd A r g σ H F' ∧ forL (evSs C w b') t (xs.drop i) ⟨r, g⟩ = some o, ⟨xs.length, by simp, by omega, A1, s1.r, s1.g, F1, .rfl, q1, by simpa using h3⟩, fun i n σ H hW => ?_⟩
    obtain ⟨hn, hil, A, r, g, F2, g2, q2, h4⟩ := hW
    have it2 := it.le g2.le
    by_cases hi : i < xs.length
    · refine .inr ⟨it2.go i H F2 .rfl q2.fk hi, ?_⟩
      rw [List.drop_eq_getElem_cons hi] at h4
      simp only [forL, Option.bind_eq_some_iff] at h4
      obtain ⟨r1, h5, o1, h6, h7⟩ := h4
      refine ⟨fun σ' H' => ∃ A r g F', Grow Gd F1 F' ∧ R κ Gd A r g σ' H' F' ∧ forL (evSs C w b') t (xs.drop (i + 1)) ⟨r, g⟩ = some o, fun σ' H' hN => ⟨xs.length - (i + 1), by omega, rfl, by omega, hN⟩, fun x H3 hy => ?_⟩
      obtain ⟨F3, pu, rx⟩ := it2.yld i H F2 x H3 _ .rfl q2.fk (List.getElem?_eq_getElem hi) hy
      have q3 := pu.keepR q2
      have g3 := pu.grow q2.gk
      refine ⟨Gd, A, r, g, F3, xs[i], false, r1, q3, rx, h5, fun σ4 A4 q4 _ => ⟨Gd, A4, r1, g, F3, o1, q4, h6, ?_⟩⟩
      cases o1 with
      | nx s2 => exact fun σ' H' F' A' g4 q' => ⟨A', s2.r, s2.g, F', (g2.trans g3).trans g4, q', h7⟩
      | cnt s2 => exact fun σ' H' F' A' g4 q' => ⟨A', s2.r, s2.g, F', (g2.trans g3).trans g4, q', h7⟩
      | brk s2 => cases h7; exact fun σ' H' F' A' g4 q' => k σ' H' F' A' (((g1.trans g2).trans g3).trans g4) q'
      | ret d f g => cases h7; exact fun v H' F' g4 q' vr => k v H' F' (((g1.trans g2).trans g3).trans g4) q' vr
    · refine .inl ⟨it2.stop i H F2 .rfl q2.fk (by omega), ?_⟩
      rw [List.drop_eq_nil_of_le (by omega)] at h4
      cases h4
      exact k σ H F2 A (g1.trans g2) q2
end
end WW
end
section
set_option maxHeartbeats 1000000
/-! statements: assignments, what is changed in place -/
namespace WW
open PySem PySem.Spec PyProof.Rows L2 L2.DX
section
variable {κ : Ctx} {C : Cl} {w : Nat} {X : Cx} {pos : Pos} {e c : Expr} {e' c' k' : E} {x : Str} {i : Nat} {p apos cpos : Pos}
theorem st_asg {tg : Expr} {t : T} (he : PE X e (tV κ C e')) (hg : PG X tg (tG κ t)) (hs : swapsWithSole [tg] e pos.line X.env = pure false) (hw : swappedStores [tg] e X.env = pure none) (hn : nStar tg = true) : PS X (.Assign [tg] e pos) (tSt κ C w (.asg t e')) :=
  (ps_asg he hg hs hw (by rw [nStar_asg hn]; rfl)).imp fun D σ H q => by
    obtain ⟨Gd, A, r, g, F, o, q, h, k⟩ := q
    simp only [evS, Option.bind_eq_some_iff, Option.map_eq_some_iff] at h
    obtain ⟨⟨d, f, s1⟩, h1, r', h2, h3⟩ := h
    cases h3
    exact ⟨Gd, A, r, g, F, _, f, s1, q, toE_some h1, fun v H' F' A' gr q' tv => ⟨Gd, A', s1.r, s1.g, F', d, f, r', q', tv, h2, fun σ2 A2 q2 _ => k σ2 H' F' A2 gr q2⟩⟩
theorem st_ex (he : PE X e (tV κ C e')) (hs : swapsWith e none pos.line X.env = pure false) : PS X (.Expr e pos) (tSt κ C w (.ex e')) :=
  (ps_expr he hs).imp fun D σ H q => by
    obtain ⟨Gd, A, r, g, F, o, q, h, k⟩ := q
    simp only [evS, Option.map_eq_some_iff] at h
    obtain ⟨⟨d, f, s1⟩, h1, h3⟩ := h
    cases h3
    exact ⟨Gd, A, r, g, F, _, f, s1, q, toE_some h1, fun v H' F' A' gr q' tv => k σ H' F' A' gr q'⟩
/-! ### o[k] = v -/
def rSt (κ : Ctx) : TSet := fun o y v H Q => (∃ a F es l kd vd, o = .ref a ∧ Fk F H ∧ H a = some (DicO a es) ∧ RepD κ F es.1 l ∧ DWf l ∧ Rep κ F y kd ∧ Rep κ F v vd ∧ kOk l kd = true ∧ l.length < sizeLine ∧ ∀ es' : DS, RepD κ F es'.1 (dput l kd vd) → DWf (dput l kd vd) → Q (upd H a (DicO a es'))) ∨ rSetL o y v H Q
theorem set_D (xc : XC κ X) : PSet X (rSt κ) := by
  intro pins s σ H o y v ov iv u Q I ro ri rv h
  rcases h with ⟨a, F, es, l, kd, vd, rfl, k, ha, rd, wf, ry, rz, hk, hl, q⟩ | h
  · cases ro
    obtain ⟨hS, _, ents, ep, ob, h3, h4, h5, h6, h7⟩ := dic_full I ha rd
    have As := asked xc.K k I rd wf h6 hk ry ri
    rw [← xc.w] at As
    refine store_N (A := X.A) (by have := xc.hu; omega) h3 h4 h5 As (by omega) fun h' ep' raw sb => ?_
    have rp := rd.put wf hk ry rz
    have er := h6.put ri rv (h := (keyN kd).hash κ.w) (at_ (kns l) (keyN kd))
    rw [← xc.w] at rp er
    have := dput_len (l := l) (k := kd) (v := vd)
    refine ⟨_, d_write I (by rw [ha]; trivial) sb ⟨_, raw.choose_spec.1⟩ (dicO_ok hS ?_ raw er), q (_, _, _) rp (wf.put hk)⟩
    rw [rp.length]
    omega
  · exact set_list pins s σ H o y v ov iv u Q I ro ri rv h
theorem assign_sub {o i : Expr} (h : nSlice i = true) (env : PySem.Env) (v : Value) : assign (.Subscript o i pos) env v = (do
      let ov ← holding [v] (eval o env)
      let iv ← holding [v, ov] (eval i env)
      standAt pos
      holding [v, ov, iv] (setItem ov iv v)
      release [v, ov, iv] []) := by
  cases i <;> first | rfl | simp [nSlice] at h
theorem st_sub (xc : XC κ X) {k0 : Expr} {spos : Pos} (hN : X.N[i]? = some x) (hv : Vis X.env.scope x) (hd : (x == ("__debug__" : Str)) = false) (hcd : (x == ("__classdict__" : Str)) = false) (he : PE X e (tV κ C e')) (hk : PE X k0 (tV κ C k')) (hsl : nSlice k0 = true)
    (hs : swapsWithSole [.Subscript (.Name x p) k0 spos] e pos.line X.env = pure false) (hw : swappedStores [.Subscript (.Name x p) k0 spos] e X.env = pure none) : PS X (.Assign [.Subscript (.Name x p) k0 spos] e pos) (tSt κ C w (.sub i k' e')) :=
  (ps_asg he (pg_sub (pe_var hN hv hd hcd) hk (set_D xc) fun v => assign_sub hsl X.env v) hs hw rfl).imp fun D σ H q => by
    obtain ⟨Gd, A, r, g, F, o, q, h, k⟩ := q
    simp only [evS, Option.bind_eq_some_iff] at h
    obtain ⟨⟨vd, f1, s1⟩, h1, d00, h00, ⟨kd, f2, s2⟩, h2, d, h3, h4⟩ := h
    refine tV.op q (toE_some h1) fun v1 H1 F1 A1 g1 q1 o1 => ?_
    have o1 : Rep κ F1 v1 vd := o1
    have hs : ∃ a, σ[i]? = some (some (.ref a)) := by
      obtain ⟨a, z, _⟩ := q1.ow i _ (of_owned h00)
      exact ⟨a, z⟩
    obtain ⟨a, ha⟩ := hs
    refine ⟨.ref a, ha, tV.op q1 (toE_some h2) fun v2 H2 F2 A2 g2 q2 o2 => ?_⟩
    have o2 : Rep κ F2 v2 kd := o2
    dsimp only at h4
    cases d with
    | dct l =>
      dsimp only at h4
      split at h4
      · rename_i hk
        cases h4
        obtain ⟨ad, es, e1, e2, e3, e4, e5, e6⟩ := q2.mutD (of_owned h3)
        rw [ha] at e1
        cases e1
        refine .inl ⟨_, F2, es, l, kd, vd, rfl, q2.fk, e2, e3, e4, o2, o1.le g2.le, hk.1, hk.2, fun es' rd wf => ?_⟩
        obtain ⟨A', q'⟩ := e6 es' _ rd wf
        exact k σ _ F2 A' (g1.trans g2) q'
      · cases h4
    | lst l =>
      cases kd with
      | int n =>
        dsimp only at h4
        split at h4
        · rename_i hn
          cases h4
          obtain ⟨ad, xs, e1, e2, e3, e4, e5⟩ := q2.mutL (of_owned h3)
          rw [ha] at e1
          cases e1
          cases o2
          have := e3.length
          refine .inr ⟨_, xs, n, n.toNat, rfl, rfl, e2, ?_, ?_⟩
          · unfold ixN
            rw [if_pos hn.1, if_pos (by omega)]
          · obtain ⟨A', q'⟩ := e5 _ _ (e3.set (o1.le g2.le) n.toNat)
            exact k σ _ F2 A' (g1.trans g2) q'
        · cases h4
      | _ => cases h4
    | _ => cases h4
/-! ### xs.append(e), xs.extend(e) -/
theorem st_app (hN : X.N[i]? = some x) (hv : Vis X.env.scope x) (hd : (x == ("__debug__" : Str)) = false) (hcd : (x == ("__classdict__" : Str)) = false) (he : PE X e (tV κ C e')) (hs : nStar e = true) (hl : (apos.endLine == cpos.line) = true) :
    PS X (.Expr (.Call (.Attribute (.Name x p) "append" apos) [e] [] cpos) pos) (tSt κ C w (.app i e')) :=
  (ps_expr (pe_m F.plainAttrs_list F.slot_list_append F.type_list_append mt_append (pe_var hN hv hd hcd) (pa_cons he pa_nil (starEach_cons hs [] X.env)) (attrBase rfl _ _ _) (few1 (by simp [hs]) (by simp) _ _) hl (starEach_cons hs [] X.env) rfl) rfl).imp fun D σ H q => by
    obtain ⟨Gd, A, r, g, F, o, q, h, k⟩ := q
    simp only [evS, Option.bind_eq_some_iff] at h
    obtain ⟨d0, h0, ⟨vd, f1, s1⟩, h1, d, h2, h3⟩ := h
    obtain ⟨v, hs, ro⟩ := own_ro q h0
    dsimp only at h3
    split at h3
    · split at h3
      · rename_i hl
        cases h3
        refine ⟨v, hs, ty_lst q.fk ro, tV.op q (toE_some h1) fun v1 H1 F1 A1 g1 q1 o1 => ?_⟩
        obtain ⟨ad, xs, e1, e2, e3, e4, e5⟩ := q1.mutL (of_owned h2)
        rw [hs] at e1
        cases e1
        obtain ⟨A', q'⟩ := e5 _ _ (e3.append (.cons (show Rep κ F1 v1 vd from o1) .nil))
        exact ⟨ad, xs, v1, rfl, rfl, e2, by rw [e3.length]; exact hl, k σ _ F1 A' g1 q'⟩
      · cases h3
    · cases h3
theorem st_ext (hN : X.N[i]? = some x) (hv : Vis X.env.scope x) (hd : (x == ("__debug__" : Str)) = false) (hcd : (x == ("__classdict__" : Str)) = false) (he : PE X e (tV κ C e')) (hs : nStar e = true) (hl : (apos.endLine == cpos.line) = true) :
    PS X (.Expr (.Call (.Attribute (.Name x p) "extend" apos) [e] [] cpos) pos) (tSt κ C w (.ext i e')) :=
  (ps_expr (pe_m F.plainAttrs_list F.slot_list_extend F.type_list_extend mt_extend (pe_var hN hv hd hcd) (pa_cons he pa_nil (starEach_cons hs [] X.env)) (attrBase rfl _ _ _) (few1 (by simp [hs]) (by simp) _ _) hl (starEach_cons hs [] X.env) rfl) rfl).imp fun D σ H q => by
    obtain ⟨Gd, A, r, g, F, o, q, h, k⟩ := q
    simp only [evS, Option.bind_eq_some_iff] at h
    obtain ⟨d0, h0, ⟨vd, f1, s1⟩, h1, d, h2, h3⟩ := h
    obtain ⟨v, hs, ro⟩ := own_ro q h0
    dsimp only at h3
    split at h3
    · split at h3
      · rename_i hl
        cases h3
        refine ⟨v, hs, ty_lst q.fk ro, tV.op q (toE_some h1) fun v1 H1 F1 A1 g1 q1 o1 => ?_⟩
        obtain ⟨ad, xs, e1, e2, e3, e4, e5⟩ := q1.mutL (of_owned h2)
        rw [hs] at e1
        cases e1
        have o1 : Rep κ F1 v1 (.lst _) := o1
        cases o1 with
        | lst z1 z2 =>
          obtain ⟨A', q'⟩ := e5 _ _ (e3.append z2)
          exact ⟨ad, _, xs, _, rfl, rfl, e2, q1.fk _ _ z1, by rw [e3.length, z2.length]; exact hl, k σ _ F1 A' g1 q'⟩
      · cases h3
    · cases h3
theorem st_aug (xc : XC κ X) {op : Operator} {o : B} (hop : (op = .Add ∧ o = .add) ∨ (op = .Sub ∧ o = .sub)) (hN : X.N[i]? = some x) (hx : Loc X.env.scope x) (hf : X.fn x = true ∨ X.env.scope.names.lookup x = some .local) (he : PE X e (tV κ C e')) :
    PS X (.AugAssign (.Name x p) op e pos) (tSt κ C w (.aug i o e')) := by
  have main : ∀ (fz : Int → Int → Int), PIp X op (ipI fz) → (∀ (d y : D), (match o, d, y with
    | .add, .int a, .int b => some (a + b)
    | .sub, .int a, .int b => some (a - b)
    | _, _, _ => none) = (match d, y with
    | .int a, .int b => some (fz a b)
    | _, _ => none)) → PS X (.AugAssign (.Name x p) op e pos) (tSt κ C w (.aug i o e')) := fun fz hp hz => by
    refine ⟨fun pins s σ H D I q => ?_⟩
    refine (ps_aug xc.nd hN hx he hp hf).run pins s σ H D I ?_
    obtain ⟨Gd, A, r, g, F, oo, q, h, k⟩ := q
    simp only [evS, Option.bind_eq_some_iff] at h
    obtain ⟨d, h1, ⟨vd, f1, s1⟩, h2, h3⟩ := h
    dsimp only at h3
    have h4 : ∃ a b, d = .int a ∧ vd = .int b ∧ oo = .nx { s1 with r := s1.r.set i (some (.int (fz a b), false)) } := by
      have := hz d vd
      split at h3
      · cases h3
        rename_i a b
        exact ⟨a, b, rfl, rfl, by simp at this; rw [this]⟩
      · cases h3
        rename_i a b
        exact ⟨a, b, rfl, rfl, by simp at this; rw [this]⟩
      · cases h3
    obtain ⟨a, b, rfl, rfl, rfl⟩ := h4
    obtain ⟨v, hs, ro⟩ := q.look h1
    refine ⟨v, hs, tV.op q (toE_some h2) fun v1 H1 F1 A1 g1 q1 o1 => ?_⟩
    have o1 : Rep κ F1 v1 (.int b) := o1
    cases o1
    have hl : i < s1.r.length := by rw [← q1.len, I.len]; exact (List.getElem?_eq_some_iff.mp hN).1
    obtain ⟨A', q', _⟩ := q1.put (f := false) (v := .int (fz a b)) (d := .int (fz a b)) (i := i) (Rep.int _) hl
    exact ⟨a, b, ro.int, rfl, k _ H1 F1 A' g1 q'⟩
  rcases hop with ⟨rfl, rfl⟩ | ⟨rfl, rfl⟩
  · exact main _ ip_add fun d y => by cases d <;> cases y <;> rfl
  · exact main _ ip_sub fun d y => by cases d <;> cases y <;> rfl
end
end WW
end
section
set_option maxHeartbeats 1000000
/-! comprehensions -/
namespace WW
open PySem PySem.Spec PyProof.Rows L2 L2.DX
def tTs (κ : Ctx) (C : Cl) (es : List E) : TT := fun σ H Q => ∃ (Gd : Hp) (A : Nat → List Addr) (r : Env) (g : G) (F : Fz) (b : Bool) (st : St),
  R κ Gd A r g σ H F ∧ evTs C es ⟨r, g⟩ = some (b, st) ∧ ∀ H' F' A', Grow Gd F F' → R κ Gd A' st.r st.g σ H' F' → Q b H'
theorem _root_.L2.PTs.imp {X : Cx} {e : List Expr} {t t' : TT} (h : PTs X e t) (i : ∀ σ H Q, t' σ H Q → t σ H Q) : PTs X e t' := ⟨fun pins s σ H Q I q => h.run pins s σ H Q I (i _ _ _ q)⟩
section
variable {κ : Ctx} {C : Cl} {w : Nat} {X : Cx} {pos : Pos} {e c : Expr} {e' c' : E}
theorem sts_nil : PTs X [] (tTs κ C []) := pts_nil.imp fun σ H Q q => by
  obtain ⟨Gd, A, r, g, F, b, st, q, h, k⟩ := q
  cases h
  exact k H F A .rfl q
theorem sts_one (h : PT X c (tT κ C c')) : PTs X [c] (tTs κ C [c']) := (pts_one h).imp fun σ H Q q => by
  obtain ⟨Gd, A, r, g, F, b, st, q, h, k⟩ := q
  simp only [evTs, Option.bind_eq_some_iff] at h
  obtain ⟨⟨d, f, s1⟩, h1, h2⟩ := h
  dsimp only at h2
  split at h2
  · cases h2
    exact tT_of q (toE_some h1) k
  · cases h2
    exact tT_of q (toE_some h1) k
  · cases h2
/-- the turns of a comprehension -/
def lcTurn (C : Cl) (e : E) (t : T) (ifs : List E) (own : List Nat) (acc : List D × St) (x : D) : Option (List D × St) :=
  (asgT t x false (wip acc.2.r own)).bind fun r1 => (evTs C ifs { acc.2 with r := r1 }).bind fun (b, s2) =>
    if b = true then (toE (ev C e s2)).bind fun (d, _, s3) => if acc.1.length < sizeLine then some (acc.1 ++ [d], s3) else none else some (acc.1, s2)
theorem wip_wip : ∀ {r : Env} {vs : List Nat}, wip (wip r vs) vs = wip r vs := by
  intro r vs
  refine List.ext_getElem? fun j => ?_
  have inn : ∀ {ws : List Nat} {τ : Env}, j ∈ ws → (wip τ ws)[j]? = if j < τ.length then some none else none := by
    intro ws
    induction ws with
    | nil => intro _ h; simp at h
    | cons w ws ih =>
      intro τ h
      show ((wip τ ws).set w none)[j]? = _
      by_cases z : j = w
      · subst z
        split
        · rw [List.getElem?_set_self (by rw [wip_len]; assumption)]
        · rw [List.getElem?_eq_none_iff.mpr (by rw [List.length_set, wip_len]; omega)]
      · rw [set_get z]
        exact ih (by simpa [z] using h)
  have out : ∀ {ws : List Nat} {τ : Env}, j ∉ ws → (wip τ ws)[j]? = τ[j]? := by
    intro ws
    induction ws with
    | nil => intro _ _; rfl
    | cons w ws ih =>
      intro τ hw
      simp only [List.mem_cons, not_or] at hw
      show ((wip τ ws).set w none)[j]? = _
      rw [set_get hw.1]
      exact ih hw.2
  by_cases hj : j ∈ vs
  · rw [inn hj, inn hj, wip_len]
  · rw [out hj]
theorem wipe_wipe {σ : L2.St} {vs : List Nat} : L2.wipe (L2.wipe σ vs) vs = L2.wipe σ vs := by
  have : ∀ ws : List Nat, (∀ i ∈ ws, i ∈ vs) → L2.wipe (L2.wipe σ ws) vs = L2.wipe σ vs := by
    intro ws
    induction ws with
    | nil => intro _; rfl
    | cons w ws ih =>
      intro h
      show L2.wipe ((L2.wipe σ ws).set w none) vs = _
      rw [wipe_set (h w (by simp))]
      exact ih fun i hi => h i (by simp [hi])
  exact this vs fun i hi => hi
theorem lc_data {k0 : Nat} {t : T} {a' ifs' : List E} {own : List Nat} {σ : L2.St} {H : Hp} {Q : VK} (hsl : ∀ i ∈ slots t, i ∈ own) (q : tV κ C (.lc e' k0 t a' ifs' own) σ H Q) : tLc (tI κ C k0 a') (tG κ t) (tTs κ C ifs') (tV κ C e') own σ H Q := by
  obtain ⟨Gd, A, r, g, F, tt, f, st, q, h, k⟩ := q
  simp only [ev, Option.bind_eq_some_iff, Option.map_eq_some_iff, ok] at h
  obtain ⟨⟨ds, s1⟩, h1, xs, h2, ⟨accn, sn⟩, h3, h4⟩ := h
  cases h4
  have h3 : xs.foldlM (lcTurn C e' t ifs' own) (([] : List D), s1) = some (accn, sn) := h3
  refine ⟨Gd, A, r, g, F, ds, s1, xs, q, h1, h2, fun J H1 F1 A1 g1 q1 it D hn => ?_⟩
  have pm := Pure.made (o := .lst []) q1.fk hn
  have q1w := (pm.keepR q1).wipe own
  have vr0 : VR κ Gd A1 (wip s1.r own) (upd H1 D (.lst [])) F1 (.ref D) (.lst []) true := pm.vr (q1.wipe own) (f := true) ⟨D, rfl, hn, by
      cases z : F1.m D with
      | none => rfl
      | some u => exact absurd (q1.fk _ _ z) (by rw [hn]; simp), ⟨rfl, [], upd_same, .nil⟩, rfl⟩
  refine ⟨fun i n H => n = xs.length - i ∧ i ≤ xs.length ∧ ∃ (A2 : Nat → List Addr) (st2 : St) (F2 : Fz) (acc : List WW.D), Grow Gd F1 F2 ∧ R κ Gd A2 (wip st2.r own) st2.g (L2.wipe σ own) H F2 ∧ VR κ Gd A2 (wip st2.r own) H F2 (.ref D) (.lst acc) true ∧
      (xs.drop i).foldlM (lcTurn C e' t ifs' own) (acc, st2) = some (accn, sn), ⟨xs.length, by simp, by omega, A1, s1, F1, [], .rfl, q1w, vr0, by simpa using h3⟩, fun i n H2 hW => ?_⟩
  obtain ⟨hnn, hil, A2, st2, F2, acc, g2, q2, vr, h5⟩ := hW
  have it2 := it.le g2.le
  by_cases hi : i < xs.length
  · refine .inr ⟨it2.go i H2 F2 .rfl q2.fk hi, ?_⟩
    rw [List.drop_eq_getElem_cons hi, List.foldlM_cons] at h5
    simp only [bind, Option.bind_eq_some_iff, lcTurn] at h5
    obtain ⟨⟨acc3, st3⟩, ⟨r1, h6, ⟨b, s4⟩, h7, h8⟩, h9⟩ := h5
    have h9 : (xs.drop (i + 1)).foldlM (lcTurn C e' t ifs' own) (acc3, st3) = some (accn, sn) := h9
    refine ⟨fun H' => ∃ (A2 : Nat → List Addr) (F2 : Fz), Grow Gd F1 F2 ∧ R κ Gd A2 (wip st3.r own) st3.g (L2.wipe σ own) H' F2 ∧ VR κ Gd A2 (wip st3.r own) H' F2 (.ref D) (.lst acc3) true, fun H' hN => ?_, fun x H3 hy => ?_⟩
    · obtain ⟨A2, F2, z1, z2, z3⟩ := hN
      exact ⟨xs.length - (i + 1), by omega, rfl, by omega, A2, st3, F2, acc3, z1, z2, z3, h9⟩
    · obtain ⟨F3, pu, rx⟩ := it2.yld i H2 F2 x H3 _ .rfl q2.fk (List.getElem?_eq_getElem hi) hy
      have q3 := pu.keepR q2
      have g3 := pu.grow q2.gk
      -- the list that is being made is guarded
      have vr3 : VR κ Gd A2 (wip st2.r own) H3 F3 (.ref D) (.lst acc) true := by
        obtain ⟨a, e1, rt, ow, nd, sp⟩ := vr
        exact ⟨a, e1, rt.keep (fun b _ o z => pu.h _ _ z) pu.le, pu.own ow, nd, sp⟩
      obtain ⟨ad, o, ea, ho, hg0, q3g, back⟩ := q3.guard vr3
      cases ea
      refine ⟨_, A2, wip st2.r own, st2.g, F3, xs[i], false, r1, q3g, rx, h6, fun σ5 A5 q5 wp => ⟨(wp own hsl).trans wipe_wipe, _, A5, r1, st2.g, F3, b, s4, q5, h7, fun H6 F6 A6 g6 q6 => ?_⟩⟩
      have len5 : L2.wipe σ5 own = L2.wipe σ own := (wp own hsl).trans wipe_wipe
      have finish : ∀ (A7 : Nat → List Addr) (st7 : St) (H7 : Hp) (F7 : Fz) (acc7 : List WW.D), Grow Gd F1 F7 → R κ Gd A7 st7.r st7.g σ5 H7 F7 → VR κ Gd A7 st7.r H7 F7 (.ref D) (.lst acc7) true →
          R κ Gd A7 (wip st7.r own) st7.g (L2.wipe σ own) H7 F7 ∧ VR κ Gd A7 (wip st7.r own) H7 F7 (.ref D) (.lst acc7) true := fun A7 st7 H7 F7 acc7 g7 q7 vr7 => by
        have := q7.wipe own
        rw [len5] at this
        refine ⟨this, ?_⟩
        obtain ⟨a, e1, rt, ow, nd, sp⟩ := vr7
        exact ⟨a, e1, rt, ow, nd, fun i e hi => sp i e (wip_get hi).1⟩
      split at h8
      · rename_i hb
        subst hb
        dsimp only
        rw [if_pos rfl]
        simp only [Option.bind_eq_some_iff] at h8
        obtain ⟨⟨d, f8, s8⟩, h10, h11⟩ := h8
        split at h11
        · rename_i hlen
          cases h11
          refine tV.op q6 (toE_some h10) fun v H7 F7 A7 g7 q7 o7 => ?_
          obtain ⟨b1, b2, b3⟩ := back A7 _ _ _ H7 F7 (g6.trans g7) q7
          obtain ⟨a, e1, rt, ow, nd, sp⟩ := b3
          cases e1
          obtain ⟨_, ys, hy1, hy2⟩ := rt
          refine ⟨ys, hy1, by rw [hy2.length]; exact hlen, ?_⟩
          have q8 := b2.poke (o := .lst (ys ++ [v])) ow sp
          have vr8 : VR κ Gd A7 s8.r (upd H7 D (.lst (ys ++ [v]))) F7 (.ref D) (.lst (acc ++ [d])) true := ⟨D, rfl, ⟨rfl, _, upd_same, hy2.append (.cons (show Rep κ F7 v d from o7) .nil)⟩, ⟨ow.f, ow.g, ow.s, _, upd_same, fun _ z => nomatch z⟩, rfl, sp⟩
          obtain ⟨z1, z2⟩ := finish A7 s8 _ F7 (acc ++ [d]) ((g2.trans g3).trans b1) q8 vr8
          exact ⟨A7, F7, (g2.trans g3).trans b1, z1, z2⟩
        · cases h11
      · rename_i hb
        cases h8
        have hb' : b = false := by cases b <;> simp_all
        subst hb'
        dsimp only
        rw [if_neg (by simp)]
        obtain ⟨b1, b2, b3⟩ := back A6 _ _ _ H6 F6 g6 q6
        obtain ⟨z1, z2⟩ := finish A6 s4 H6 F6 acc ((g2.trans g3).trans b1) b2 b3
        exact ⟨A6, F6, (g2.trans g3).trans b1, z1, z2⟩
  · refine .inl ⟨it2.stop i H2 F2 .rfl q2.fk (by omega), ?_⟩
    rw [List.drop_eq_nil_of_le (by omega)] at h5
    cases h5
    have qb := q1.back g2.le q2
    refine k (.ref D) H2 F2 A2 (g1.trans g2) qb ?_
    obtain ⟨a, e1, rt, ow, nd, sp⟩ := vr
    refine ⟨a, e1, rt, ow, nd, fun i e hi => ?_⟩
    rcases back_get hi with ⟨z1, z2⟩ | ⟨_, _, z3⟩
    · have out : ∀ {ws : List Nat}, i ∉ ws → (wip sn.r ws)[i]? = sn.r[i]? := by
        intro ws
        induction ws with
        | nil => intro _; rfl
        | cons w ws ih =>
          intro hw
          simp only [List.mem_cons, not_or] at hw
          show ((wip sn.r ws).set w none)[i]? = _
          rw [set_get hw.1]
          exact ih hw.2
      exact sp i e (by rw [out z1]; exact z2)
    · cases z3
theorem sn_lc {elt tg iter : Expr} {ifs : List Expr} {scope : Scope} {own : List (Str × Nat)} {k0 : Nat} {t : T} {a' ifs' : List E} (xc : XC κ X) (hi : PI X tg iter (tI κ C k0 a')) (ok : BlkOk X.N X.env.scope scope own)
    (hg : ∀ (s : Shared) (H : Hp) (C0 : Addr) (cl : List (Str × Addr)) (fp : List Addr), PG (X.blk s H scope (compEnvC scope cl C0 X.env) fp) tg (tG κ t)) (ht : ∀ (s : Shared) (H : Hp) (C0 : Addr) (cl : List (Str × Addr)) (fp : List Addr), PTs (X.blk s H scope (compEnvC scope cl C0 X.env) fp) ifs (tTs κ C ifs'))
    (he : ∀ (s : Shared) (H : Hp) (C0 : Addr) (cl : List (Str × Addr)) (fp : List Addr), PE (X.blk s H scope (compEnvC scope cl C0 X.env) fp) elt (tV κ C e')) (hs : ∀ x, foldedSetIterable iter X.env x = pure x) (hsl : ∀ i ∈ slots t, i ∈ own.map (·.2)) :
    PE X (.ListComp elt [⟨tg, iter, ifs, 0⟩] scope pos) (tV κ C (.lc e' k0 t a' ifs' (own.map (·.2)))) :=
  (pe_lc xc.calm xc.nd hi ok hg ht he hs).imp fun σ H Q q => lc_data hsl q
end
end WW
end
section
set_option maxHeartbeats 2000000
/-! comprehensions of dicts, whatever keys -/
namespace WW
open PySem PySem.Spec PyProof.Rows L2 L2.DX
abbrev dic0 (p : Addr) : HO := DicO p ([], #[], 0)
/-- one entry is put -/
def putD (κ : Ctx) (p : Addr) (y z : V) (H5 : Hp) (Nx : Hp → Prop) : Prop := ∃ (F : Fz) (es : DS) (l : List (D × D)) (kd vd : D), Fk F H5 ∧ H5 p = some (DicO p es) ∧ RepD κ F es.1 l ∧ DWf l ∧ Rep κ F y kd ∧ Rep κ F z vd ∧ kOk l kd = true ∧ l.length < sizeLine ∧
  ∀ es' : DS, RepD κ F es'.1 (dput l kd vd) → DWf (dput l kd vd) → Nx (upd H5 p (DicO p es'))
def tDz (κ : Ctx) (wi : TI) (g : TG) (tt : TT) (tk tv : TE) (vs : List Nat) : TE := fun σ H Q => wi σ H fun J Ha => ∀ p, Ha p = none → ∃ W : Nat → Nat → Hp → Prop, (∃ m, W 0 m (upd Ha p (dic0 p))) ∧ ∀ i m Hb, W i m Hb →
  (J.stop i Hb ∧ Q (.ref p) Hb) ∨ (J.go i Hb ∧ ∃ Nx : Hp → Prop, (∀ Hc, Nx Hc → ∃ m', m' < m ∧ W (i + 1) m' Hc) ∧ ∀ x Hc, J.yld i Hb x Hc → g x (L2.wipe σ vs) Hc fun σ2 Hd => L2.wipe σ2 vs = L2.wipe σ vs ∧ tt σ2 Hd fun b He =>
    if b = true then tk σ2 He fun y Hf => tv σ2 Hf fun z Hg => putD κ p y z Hg Nx else Nx He)
section
variable {κ : Ctx} {X : Cx}
theorem put_ok {Y : Cx} {pins : List (Addr × Obj)} {σ : L2.St} {H : Hp} {s : Shared} {E : Value → Shared → Prop} {p : Addr} {y z : V} {u r : Value} {Nx : Hp → Prop} {Q : Unit → Shared → Prop} (hK : Y.K = κ.K) (hw : Y.w = κ.w) (hu : Y.A.units + 70 < cLine) (I : L2.Inv Y pins σ H s) (ry : RelV y u) (rz : RelV z r) (q : putD κ p y z H Nx)
    (k : ∀ s' H', L2.Inv Y pins σ H' s' → Nx H' → Q () s') : wpAny (model Y.prog Y.w) Y.A (dictSet p u r) Q E s := by
  obtain ⟨F, es, l, kd, vd, fk, hp, rd, wf, rk, rv, hk, hl, nx⟩ := q
  obtain ⟨hS, _, ents, ep, ob, h3, h4, h5, h6, h7⟩ := dic_full I hp rd
  have As := asked hK fk I rd wf h6 hk rk ry
  rw [← hw] at As
  refine set_N (A := Y.A) (by omega) h3 h4 h5 As (by omega) fun h' ep' raw sb => ?_
  have rp := rd.put wf hk rk rv
  have er := h6.put ry rz (h := (keyN kd).hash κ.w) (at_ (kns l) (keyN kd))
  rw [← hw] at rp er
  have := dput_len (l := l) (k := kd) (v := vd)
  exact k _ _ (d_write I (by rw [hp]; trivial) sb ⟨_, raw.choose_spec.1⟩ (dicO_ok hS (by rw [rp.length]; omega) raw er)) (nx (_, _, _) rp (wf.put hk))
theorem dz_core {pins : List (Addr × Obj)} {s : Shared} {σ : L2.St} {H : Hp} {Q : VK} {kx vx tg iter : Expr} {ifs : List Expr} {scope : Scope} {own : List (Str × Nat)} {pos pos' : Pos} {wi : TI} {g : TG} {tt : TT} {tk tv : TE} {use : Option (Value → Sem Unit)} {Qf : Value → Shared → Prop}
    (xc : XC κ X) (I : L2.Inv X pins σ H s) (hi : PI X tg iter wi) (ok : BlkOk X.N X.env.scope scope own)
    (hg : ∀ s H C cl fp, PG (X.blk s H scope (compEnvC scope cl C X.env) fp) tg g) (ht : ∀ s H C cl fp, PTs (X.blk s H scope (compEnvC scope cl C X.env) fp) ifs tt)
    (hk : ∀ s H C cl fp, PE (X.blk s H scope (compEnvC scope cl C X.env) fp) kx tk) (hv : ∀ s H C cl fp, PE (X.blk s H scope (compEnvC scope cl C X.env) fp) vx tv)
    (hs : ∀ x, foldedSetIterable iter X.env x = pure x) (h : tDz κ wi g tt tk tv (own.map (·.2)) σ H Q)
    (done : ∀ p C s' m H', L2.Inv X pins σ H' s' → Q (.ref p) H' → s'.heap.Ns C m → FpOk X pins H' C → compPost (model X.prog X.w) X.A X.xe use Qf (.ref p) C (.ok .next) s') :
    wpAny (model X.prog X.w) X.A (comprehension (.DictComp kx vx [⟨tg, iter, ifs, 0⟩] scope pos) scope X.env pos' newDict false (eval iter X.env) use) Qf X.xe s := by
  have cells : ∀ y ∈ scope.names, y.2 = .free → ∃ c, X.env.cells.lookup y.1 = some c := fun y hy e => (ok.free y hy e).elim (fun z => I.ok.has _ (.inl z)) fun z => I.ok.has _ (.inr z)
  refine wpAny_comprehension_free (use := use) rfl hs (closure_ok cells) ok.kind (fun y hy e => by rw [ok.uniq y hy, e]) (thn (hi.run pins s σ H _ I h) fun xv sa ha => thn ha fun itv sb hb => ?_)
  obtain ⟨it, fp, tn, J, Ha, ei, Ia, T, sta, fpa, q⟩ := hb
  subst ei
  refine wpAny_newObj_type (newEnv_comp ?_)
  have fresh : Ha sb.heap.objs.size = none := Ia.hok.fresh (Nat.le_refl _)
  obtain ⟨W, ⟨m0, w0⟩, turn⟩ := q _ fresh
  have below : ∀ b ∈ fp, b < sb.heap.objs.size := fun b hb => let ⟨_, e, _⟩ := T.obj _ _ sta b hb; Heap.lt_size e
  obtain ⟨Ib, _⟩ := dic_new Ia
  generalize hp : sb.heap.objs.size = p at *
  generalize hsc : ({ sb with heap := sb.heap.push { cls := .type "dict", data := .dict #[] } } : Shared) = sc at Ib
  have hsh : sc.heap = sb.heap.push { cls := .type "dict", data := .dict #[] } := by rw [← hsc]
  generalize hHb : upd Ha p (DicO p ([], #[], 0)) = Hb at Ib w0
  have fpb : ∀ b ∈ fp, FpOk X pins Hb b ∧ b < sc.heap.objs.size := fun b hb => by
    have lt := below b hb
    refine ⟨⟨?_, (fpa b hb).2⟩, by rw [hsh, Heap.size_push, hp]; exact Nat.lt_succ_of_lt lt⟩
    rw [← hHb, upd_ne (Nat.ne_of_lt lt)]
    exact (fpa b hb).1
  have stb : tn 0 sc.heap := T.keep _ _ _ sta fun b _ o e => by rw [hsh]; exact Heap.get?_push_of_some _ e
  have Ic := block_start Ib ok xc.nd fpb
  have pg := hg sc Hb sc.heap.objs.size (cellsFrom (sc.heap.objs.size + 1) scope.names (cloFrom X.env.cells scope.names [])) fp
  have pt := ht sc Hb sc.heap.objs.size (cellsFrom (sc.heap.objs.size + 1) scope.names (cloFrom X.env.cells scope.names [])) fp
  have pk := hk sc Hb sc.heap.objs.size (cellsFrom (sc.heap.objs.size + 1) scope.names (cloFrom X.env.cells scope.names [])) fp
  have pv := hv sc Hb sc.heap.objs.size (cellsFrom (sc.heap.objs.size + 1) scope.names (cloFrom X.env.cells scope.names [])) fp
  have off : ∀ b ∈ fp, Hb b = none := fun b hb => (fpb b hb).1.1
  suffices key : codeAny (model X.prog X.w) X.A (.compStart (.DictComp kx vx [⟨tg, iter, ifs, 0⟩] scope pos) 0 (.ref it) (.ref p) (compEnvC scope (cellsFrom (sc.heap.objs.size + 1) scope.names (cloFrom X.env.cells scope.names [])) sc.heap.objs.size X.env))
      (compPost (model X.prog X.w) X.A X.xe use Qf (.ref p) sc.heap.objs.size) { sc with heap := pushCells (sc.heap.push { cls := .type "dict", data := .dict #[] }) scope.names } by
    exact key
  generalize hce : compEnvC scope (cellsFrom (sc.heap.objs.size + 1) scope.names (cloFrom X.env.cells scope.names [])) sc.heap.objs.size X.env = ce at Ic pg pt pk pv ⊢
  have lo : ce.locals = sc.heap.objs.size := by subst hce; rfl
  generalize hsd : ({ sc with heap := pushCells (sc.heap.push { cls := .type "dict", data := .dict #[] }) scope.names } : Shared) = sd at Ic ⊢
  have std : tn 0 sd.heap := T.keep _ _ _ stb fun b _ o e => by rw [← hsd]; exact pushCells_keeps _ _ _ _ (Heap.get?_push_of_some _ e)
  have again : ∀ {σ' : L2.St} {H' : Hp} {s' : Shared}, L2.Inv (X.blk sc Hb scope ce fp) [] σ' H' s' → (∀ b ∈ fp, H' b = none) → ∀ b ∈ fp, FpOk (X.blk sc Hb scope ce fp) [] H' b := fun I' n b hb =>
    ⟨n b hb, (I'.ok.exf b hb).1, I'.ok.exfs b hb, .inl hb, fun x c e => (I'.ok.exf b hb).2 x c e, fun q hq => nomatch (show q ∈ ([] : List (Addr × Obj)) from hq)⟩
  have turns : codeAny (model X.prog X.w) X.A (.compLoop (.DictComp kx vx [⟨tg, iter, ifs, 0⟩] scope pos) 0 (.ref it) (.ref p) ce) (compPost (model X.prog X.w) X.A X.xe use Qf (.ref p) sc.heap.objs.size) sd := by
    refine compLoop_anyD (fun n s' => ∃ i H', L2.Inv (X.blk sc Hb scope ce fp) [] (L2.wipe σ (own.map (·.2))) H' s' ∧ tn i s'.heap ∧ (∀ b ∈ fp, H' b = none) ∧ W i n H') ?_ m0 ⟨0, Hb, Ic, std, off, w0⟩
    rintro n s1 ⟨i, H1, I1, st1, n1, w1⟩
    rcases turn i n H1 w1 with ⟨stop, fin⟩ | ⟨go, Nx, hNx, step⟩
    · refine thnF (T.done (X.blk sc Hb scope ce fp) rfl rfl rfl xc.calm i [] s1 _ H1 (fun _ _ => False) I1 (again I1 n1) st1 stop) fun r s2 ⟨hr, I2⟩ => ?_
      subst hr
      have I3 : L2.Inv X pins σ H1 s2 := Ib.call' (ch := fp) I2.os I2.base I2.hok I2.bare fun b hb => let z := (fpb b hb).1; ⟨z.2.2.2.1, z.2.1, z.2.2.2.2.1, z.2.2.2.2.2⟩
      have nL : H1 sc.heap.objs.size = none := by rw [← lo]; exact I2.free
      obtain ⟨m, hn, _⟩ := I2.loc
      have hn : s2.heap.Ns ce.locals m := hn
      rw [lo] at hn
      exact done p sc.heap.objs.size s2 m H1 I3 fin hn (Ib.fpOk (Nat.le_refl _) nL)
    · refine thnF (T.item (X.blk sc Hb scope ce fp) rfl rfl rfl xc.calm i [] s1 _ H1 (fun _ _ => False) I1 (again I1 n1) st1 go) fun r s2 ⟨u, hr, h2⟩ => ?_
      subst hr
      refine thnF h2 fun _ s3 ⟨x, H3, I3, rx, yx, st3, n3⟩ => ?_
      have I3p := I3.pinned (again I3 n3) (T.obj _ _ st3)
      refine thnF (pg.run _ s3 _ H3 x u _ I3p rx (step x H3 yx)) fun _ s4 ⟨σ4, H4, I4, e4, q4⟩ => ?_
      refine thnF (pt.run _ s4 σ4 H4 _ I4 q4) fun b s5 ⟨H5, I5, q5⟩ => ?_
      have close : ∀ {s' : Shared} {H' : Hp}, L2.Inv (X.blk sc Hb scope ce fp) ([] ++ pinsAt fp s3.heap) σ4 H' s' → Nx H' → ∃ m, m < n ∧ ∃ i H', L2.Inv (X.blk sc Hb scope ce fp) [] (L2.wipe σ (own.map (·.2))) H' s' ∧ tn i s'.heap ∧ (∀ b ∈ fp, H' b = none) ∧ W i m H' := fun {s' H'} I' nx => by
        obtain ⟨m', hm, w'⟩ := hNx H' nx
        have held : ∀ b ∈ fp, ∀ o, s3.heap.get? b = some o → s'.heap.get? b = some o ∧ H' b = none := fun b hb o e => by
          have z := I'.pin (b, o) (List.mem_append_right _ (List.mem_append_right _ (mem_pinsAt hb e)))
          exact ⟨z.1, z.2.1⟩
        refine ⟨m', hm, i + 1, H', (I'.unpinned (pins := [])).weak (by rw [← e4, wipe_length]) (fun j v e => ?_), T.keep _ _ _ st3 fun b hb o e => (held b hb o e).1, fun b hb => ?_, w'⟩
        · rw [← e4] at e
          exact (wipe_some e).1
        · obtain ⟨o, e, _⟩ := T.obj _ _ st3 b hb
          exact (held b hb o e).2
      cases b with
      | false =>
        simp only [Bool.false_eq_true, if_false] at q5 ⊢
        exact close I5 q5
      | true =>
        simp only [if_true] at q5 ⊢
        refine thnF (pk.run _ s5 σ4 H5 _ I5 q5) fun u1 s6 ⟨y, H6, I6, ry, q6⟩ => ?_
        refine thnF (pv.run _ s6 σ4 H6 _ I6 q6) fun u2 s7 ⟨z, H7, I7, rz, q7⟩ => ?_
        exact put_ok (Y := X.blk sc Hb scope ce fp) xc.K xc.w xc.hu I7 ry rz q7 fun s8 H8 I8 nx => close I8 nx
  exact codeAny_compStart_dict turns (T.self X.A 0 _ _ _ std turns)
theorem pe_dz {kx vx tg iter : Expr} {ifs : List Expr} {scope : Scope} {own : List (Str × Nat)} {pos : Pos} {wi : TI} {g : TG} {tt : TT} {tk tv : TE}
    (xc : XC κ X) (hi : PI X tg iter wi) (ok : BlkOk X.N X.env.scope scope own)
    (hg : ∀ s H C cl fp, PG (X.blk s H scope (compEnvC scope cl C X.env) fp) tg g) (ht : ∀ s H C cl fp, PTs (X.blk s H scope (compEnvC scope cl C X.env) fp) ifs tt)
    (hk : ∀ s H C cl fp, PE (X.blk s H scope (compEnvC scope cl C X.env) fp) kx tk) (hv : ∀ s H C cl fp, PE (X.blk s H scope (compEnvC scope cl C X.env) fp) vx tv)
    (hs : ∀ x, foldedSetIterable iter X.env x = pure x) : PE X (.DictComp kx vx [⟨tg, iter, ifs, 0⟩] scope pos) (tDz κ wi g tt tk tv (own.map (·.2))) := by
  refine ⟨fun pins s σ H Q I h => ?_⟩
  rw [arm_eval_DictComp]
  refine dz_core xc I hi ok hg ht hk hv hs h fun p C s' m H' I' q hn f => ⟨m, hn, fun h2 sb => ?_⟩
  exact ⟨.ref p, H', I'.turned (t' := s'.toks) (fun b o hb e => (sb.2 b hb).trans e) f.1 f.2.1 f.2.2.2.1 f.2.2.2.2.1 f.2.2.2.2.2, rfl, q⟩
end
end WW
end
section
set_option maxHeartbeats 1000000
/-! comprehensions of dicts, told -/
namespace WW
open PySem PySem.Spec PyProof.Rows L2 L2.DX
section
variable {κ : Ctx} {C : Cl} {w : Nat} {X : Cx} {pos : Pos} {e c : Expr} {e' c' : E}
def dcTurn (C : Cl) (e c : E) (t : T) (ifs : List E) (own : List Nat) (acc : List (D × D) × St) (z : D) : Option (List (D × D) × St) :=
  (asgT t z false (wip acc.2.r own)).bind fun r1 => (evTs C ifs { acc.2 with r := r1 }).bind fun (b, s2) =>
    if b = true then (toE (ev C e s2)).bind fun (kd, _, s3) => (toE (ev C c s3)).bind fun (vd, _, s4) =>
      if kOk acc.1 kd ∧ acc.1.length < sizeLine then some (dput acc.1 kd vd, s4) else none else some (acc.1, s2)
theorem dc_data {k0 : Nat} {t : T} {a' ifs' : List E} {own : List Nat} {σ : L2.St} {H : Hp} {Q : VK} (hsl : ∀ i ∈ slots t, i ∈ own) (q : tV κ C (.dc e' c' k0 t a' ifs' own) σ H Q) : tDz κ (tI κ C k0 a') (tG κ t) (tTs κ C ifs') (tV κ C e') (tV κ C c') own σ H Q := by
  obtain ⟨Gd, A, r, g, F, tt, f, st, q, h, k⟩ := q
  simp only [ev, Option.bind_eq_some_iff, Option.map_eq_some_iff, ok] at h
  obtain ⟨⟨ds, s1⟩, h1, xs, h2, ⟨accn, sn⟩, h3, h4⟩ := h
  cases h4
  have h3 : xs.foldlM (dcTurn C e' c' t ifs' own) (([] : List (D × D)), s1) = some (accn, sn) := h3
  refine ⟨Gd, A, r, g, F, ds, s1, xs, q, h1, h2, fun J H1 F1 A1 g1 q1 it D hn => ?_⟩
  have pm := Pure.made (o := dic0 D) q1.fk hn
  have q1w := (pm.keepR q1).wipe own
  have vr0 : VR κ Gd A1 (wip s1.r own) (upd H1 D (dic0 D)) F1 (.ref D) (.dct []) true := pm.vr (q1.wipe own) (f := true) ⟨D, rfl, hn, by
      cases z : F1.m D with
      | none => rfl
      | some u => exact absurd (q1.fk _ _ z) (by rw [hn]; simp), ⟨rfl, ([], #[], 0), upd_same, .nil, .nil⟩, rfl⟩
  refine ⟨fun i n H => n = xs.length - i ∧ i ≤ xs.length ∧ ∃ (A2 : Nat → List Addr) (st2 : St) (F2 : Fz) (acc : List (WW.D × WW.D)), Grow Gd F1 F2 ∧ R κ Gd A2 (wip st2.r own) st2.g (L2.wipe σ own) H F2 ∧ VR κ Gd A2 (wip st2.r own) H F2 (.ref D) (.dct acc) true ∧
      (xs.drop i).foldlM (dcTurn C e' c' t ifs' own) (acc, st2) = some (accn, sn), ⟨xs.length, by simp, by omega, A1, s1, F1, [], .rfl, q1w, vr0, by simpa using h3⟩, fun i n H2 hW => ?_⟩
  obtain ⟨hnn, hil, A2, st2, F2, acc, g2, q2, vr, h5⟩ := hW
  have it2 := it.le g2.le
  by_cases hi : i < xs.length
  · refine .inr ⟨it2.go i H2 F2 .rfl q2.fk hi, ?_⟩
    rw [List.drop_eq_getElem_cons hi, List.foldlM_cons] at h5
    simp only [bind, Option.bind_eq_some_iff, dcTurn] at h5
    obtain ⟨⟨acc3, st3⟩, ⟨r1, h6, ⟨b, s4⟩, h7, h8⟩, h9⟩ := h5
    have h9 : (xs.drop (i + 1)).foldlM (dcTurn C e' c' t ifs' own) (acc3, st3) = some (accn, sn) := h9
    refine ⟨fun H' => ∃ (A2 : Nat → List Addr) (F2 : Fz), Grow Gd F1 F2 ∧ R κ Gd A2 (wip st3.r own) st3.g (L2.wipe σ own) H' F2 ∧ VR κ Gd A2 (wip st3.r own) H' F2 (.ref D) (.dct acc3) true, fun H' hN => ?_, fun x H3 hy => ?_⟩
    · obtain ⟨A2, F2, z1, z2, z3⟩ := hN
      exact ⟨xs.length - (i + 1), by omega, rfl, by omega, A2, st3, F2, acc3, z1, z2, z3, h9⟩
    · obtain ⟨F3, pu, rx⟩ := it2.yld i H2 F2 x H3 _ .rfl q2.fk (List.getElem?_eq_getElem hi) hy
      have q3 := pu.keepR q2
      have g3 := pu.grow q2.gk
      -- the list that is being made is guarded
      have vr3 : VR κ Gd A2 (wip st2.r own) H3 F3 (.ref D) (.dct acc) true := by
        obtain ⟨a, e1, rt, ow, nd, sp⟩ := vr
        exact ⟨a, e1, rt.keep (fun b _ o z => pu.h _ _ z) pu.le, pu.own ow, nd, sp⟩
      obtain ⟨ad, o, ea, ho, hg0, q3g, back⟩ := q3.guard vr3
      cases ea
      refine ⟨_, A2, wip st2.r own, st2.g, F3, xs[i], false, r1, q3g, rx, h6, fun σ5 A5 q5 wp => ⟨(wp own hsl).trans wipe_wipe, _, A5, r1, st2.g, F3, b, s4, q5, h7, fun H6 F6 A6 g6 q6 => ?_⟩⟩
      have len5 : L2.wipe σ5 own = L2.wipe σ own := (wp own hsl).trans wipe_wipe
      have finish : ∀ (A7 : Nat → List Addr) (st7 : St) (H7 : Hp) (F7 : Fz) (acc7 : List (WW.D × WW.D)), Grow Gd F1 F7 → R κ Gd A7 st7.r st7.g σ5 H7 F7 → VR κ Gd A7 st7.r H7 F7 (.ref D) (.dct acc7) true →
          R κ Gd A7 (wip st7.r own) st7.g (L2.wipe σ own) H7 F7 ∧ VR κ Gd A7 (wip st7.r own) H7 F7 (.ref D) (.dct acc7) true := fun A7 st7 H7 F7 acc7 g7 q7 vr7 => by
        have := q7.wipe own
        rw [len5] at this
        refine ⟨this, ?_⟩
        obtain ⟨a, e1, rt, ow, nd, sp⟩ := vr7
        exact ⟨a, e1, rt, ow, nd, fun i e hi => sp i e (wip_get hi).1⟩
      split at h8
      · rename_i hb
        subst hb
        dsimp only
        rw [if_pos rfl]
        simp only [Option.bind_eq_some_iff] at h8
        obtain ⟨⟨kd, f8, s8⟩, h10, ⟨vd, f9, s9⟩, h12, h11⟩ := h8
        split at h11
        · rename_i hlen
          cases h11
          refine tV.op q6 (toE_some h10) fun v H7 F7 A7 g7 q7 o7 => tV.op q7 (toE_some h12) fun v8 H8 F8 A8 g8 q8 o8 => ?_
          obtain ⟨b1, b2, b3⟩ := back A8 _ _ _ H8 F8 ((g6.trans g7).trans g8) q8
          obtain ⟨a, e1, rt, ow, nd, sp⟩ := b3
          cases e1
          obtain ⟨_, ys, hy1, hy2, hy3⟩ := rt
          refine ⟨F8, ys, acc, kd, vd, q8.fk, hy1, hy2, hy3, Rep.le g8.le o7, o8, hlen.1, hlen.2, fun es' rd wf => ?_⟩
          have q9 := b2.poke (o := DicO D es') ow sp
          have vr8 : VR κ Gd A8 s9.r (upd H8 D (DicO D es')) F8 (.ref D) (.dct (dput acc kd vd)) true := ⟨D, rfl, ⟨rfl, es', upd_same, rd, wf⟩, ⟨ow.f, ow.g, ow.s, _, upd_same, dicNt⟩, rfl, sp⟩
          obtain ⟨z1, z2⟩ := finish A8 s9 _ F8 (dput acc kd vd) ((g2.trans g3).trans b1) q9 vr8
          exact ⟨A8, F8, (g2.trans g3).trans b1, z1, z2⟩
        · cases h11
      · rename_i hb
        cases h8
        have hb' : b = false := by cases b <;> simp_all
        subst hb'
        dsimp only
        rw [if_neg (by simp)]
        obtain ⟨b1, b2, b3⟩ := back A6 _ _ _ H6 F6 g6 q6
        obtain ⟨z1, z2⟩ := finish A6 s4 H6 F6 acc ((g2.trans g3).trans b1) b2 b3
        exact ⟨A6, F6, (g2.trans g3).trans b1, z1, z2⟩
  · refine .inl ⟨it2.stop i H2 F2 .rfl q2.fk (by omega), ?_⟩
    rw [List.drop_eq_nil_of_le (by omega)] at h5
    cases h5
    have qb := q1.back g2.le q2
    refine k (.ref D) H2 F2 A2 (g1.trans g2) qb ?_
    obtain ⟨a, e1, rt, ow, nd, sp⟩ := vr
    refine ⟨a, e1, rt, ow, nd, fun i e hi => ?_⟩
    rcases back_get hi with ⟨z1, z2⟩ | ⟨_, _, z3⟩
    · have out : ∀ {ws : List Nat}, i ∉ ws → (wip sn.r ws)[i]? = sn.r[i]? := by
        intro ws
        induction ws with
        | nil => intro _; rfl
        | cons w ws ih =>
          intro hw
          simp only [List.mem_cons, not_or] at hw
          show ((wip sn.r ws).set w none)[i]? = _
          rw [set_get hw.1]
          exact ih hw.2
      exact sp i e (by rw [out z1]; exact z2)
    · cases z3
theorem sn_dc {tg iter : Expr} {ifs : List Expr} {scope : Scope} {own : List (Str × Nat)} {k0 : Nat} {t : T} {a' ifs' : List E} (xc : XC κ X) (hi : PI X tg iter (tI κ C k0 a')) (ok : BlkOk X.N X.env.scope scope own)
    (hg : ∀ s H C0 cl fp, PG (X.blk s H scope (compEnvC scope cl C0 X.env) fp) tg (tG κ t)) (ht : ∀ s H C0 cl fp, PTs (X.blk s H scope (compEnvC scope cl C0 X.env) fp) ifs (tTs κ C ifs'))
    (hk : ∀ s H C0 cl fp, PE (X.blk s H scope (compEnvC scope cl C0 X.env) fp) e (tV κ C e')) (hv : ∀ s H C0 cl fp, PE (X.blk s H scope (compEnvC scope cl C0 X.env) fp) c (tV κ C c'))
    (hs : ∀ x, foldedSetIterable iter X.env x = pure x) (hsl : ∀ i ∈ slots t, i ∈ own.map (·.2)) :
    PE X (.DictComp e c [⟨tg, iter, ifs, 0⟩] scope pos) (tV κ C (.dc e' c' k0 t a' ifs' (own.map (·.2)))) :=
  (pe_dz xc hi ok hg ht hk hv hs).imp fun σ H Q q => dc_data hsl q
/-- name = [..] on one line -/
theorem st_setLc {i : Nat} {y : Str} {py : Pos} {tg iter : Expr} {ifs : List Expr} {scope : Scope} {own : List (Str × Nat)} {spos : Pos} {k0 : Nat} {t : T} {a' ifs' : List E} (xc : XC κ X) (hy : X.N[i]? = some y) (hyl : X.env.scope.names.lookup y = some .local)
    (hsw : swapsWith (.ListComp e [⟨tg, iter, ifs, 0⟩] scope pos) (some (.Name y py)) spos.line X.env = pure true) (hi : PI X tg iter (tI κ C k0 a')) (ok : BlkOk X.N X.env.scope scope own)
    (hg : ∀ (s : Shared) (H : Hp) (C0 : Addr) (cl : List (Str × Addr)) (fp : List Addr), PG (X.blk s H scope (compEnvC scope cl C0 X.env) fp) tg (tG κ t)) (ht : ∀ (s : Shared) (H : Hp) (C0 : Addr) (cl : List (Str × Addr)) (fp : List Addr), PTs (X.blk s H scope (compEnvC scope cl C0 X.env) fp) ifs (tTs κ C ifs'))
    (he : ∀ (s : Shared) (H : Hp) (C0 : Addr) (cl : List (Str × Addr)) (fp : List Addr), PE (X.blk s H scope (compEnvC scope cl C0 X.env) fp) e (tV κ C e')) (hs : ∀ x, foldedSetIterable iter X.env x = pure x) (hsl : ∀ i ∈ slots t, i ∈ own.map (·.2)) :
    PS X (.Assign [.Name y py] (.ListComp e [⟨tg, iter, ifs, 0⟩] scope pos) spos) (tSt κ C w (.asg (.n i) (.lc e' k0 t a' ifs' (own.map (·.2))))) := by
  refine ⟨fun pins s σ H D I q => ?_⟩
  refine (ps_setLc xc.calm xc.nd hy hyl hsw hi ok hg ht he hs).run pins s σ H D I ?_
  obtain ⟨Gd, A, r, g, F, o, q, h, k⟩ := q
  simp only [evS, Option.bind_eq_some_iff, Option.map_eq_some_iff] at h
  obtain ⟨⟨d, f, s1⟩, h1, r', h2, h3⟩ := h
  cases h3
  cases h2
  refine lc_data hsl ⟨Gd, A, r, g, F, _, f, s1, q, toE_some h1, fun v H' F' A' gr q' tv => ?_⟩
  have hl : i < s1.r.length := by rw [← q'.len, I.len]; exact (List.getElem?_eq_some_iff.mp hy).1
  obtain ⟨A2, q2, _⟩ := q'.put tv hl
  exact k _ H' F' A2 gr q2
/-- name = {..: ..} on one line -/
theorem st_setDc {i : Nat} {y : Str} {py : Pos} {tg iter : Expr} {ifs : List Expr} {scope : Scope} {own : List (Str × Nat)} {spos : Pos} {k0 : Nat} {t : T} {a' ifs' : List E} (xc : XC κ X) (hy : X.N[i]? = some y) (hyl : X.env.scope.names.lookup y = some .local)
    (hsw : swapsWith (.DictComp e c [⟨tg, iter, ifs, 0⟩] scope pos) (some (.Name y py)) spos.line X.env = pure true) (hi : PI X tg iter (tI κ C k0 a')) (ok : BlkOk X.N X.env.scope scope own)
    (hg : ∀ s H C0 cl fp, PG (X.blk s H scope (compEnvC scope cl C0 X.env) fp) tg (tG κ t)) (ht : ∀ s H C0 cl fp, PTs (X.blk s H scope (compEnvC scope cl C0 X.env) fp) ifs (tTs κ C ifs'))
    (hk : ∀ s H C0 cl fp, PE (X.blk s H scope (compEnvC scope cl C0 X.env) fp) e (tV κ C e')) (hv : ∀ s H C0 cl fp, PE (X.blk s H scope (compEnvC scope cl C0 X.env) fp) c (tV κ C c'))
    (hs : ∀ x, foldedSetIterable iter X.env x = pure x) (hsl : ∀ i ∈ slots t, i ∈ own.map (·.2)) :
    PS X (.Assign [.Name y py] (.DictComp e c [⟨tg, iter, ifs, 0⟩] scope pos) spos) (tSt κ C w (.asg (.n i) (.dc e' c' k0 t a' ifs' (own.map (·.2))))) := by
  refine ⟨fun pins s σ H D I q => ?_⟩
  have q : tDz κ (tI κ C k0 a') (tG κ t) (tTs κ C ifs') (tV κ C e') (tV κ C c') (own.map (·.2)) σ H (fun x H1 => D.nx (σ.set i (some x)) H1) := by
    obtain ⟨Gd, A, r, g, F, o, q, h, k⟩ := q
    simp only [evS, Option.bind_eq_some_iff, Option.map_eq_some_iff] at h
    obtain ⟨⟨d, f, s1⟩, h1, r', h2, h3⟩ := h
    cases h3
    cases h2
    refine dc_data hsl ⟨Gd, A, r, g, F, _, f, s1, q, toE_some h1, fun v H' F' A' gr q' tv => ?_⟩
    have hl : i < s1.r.length := by rw [← q'.len, I.len]; exact (List.getElem?_eq_some_iff.mp hy).1
    obtain ⟨A2, q2, _⟩ := q'.put tv hl
    exact k _ H' F' A2 gr q2
  rw [exec_Assign_Name_used _ _ _ _ hsw]
  refine wpAny_bind (wpAny_standAt (wpAny_bind ?_))
  show wpAny _ X.A (do let _ ← comprehension (.DictComp e c [⟨tg, iter, ifs, 0⟩] scope pos) scope X.env (firstIterPos [⟨tg, iter, ifs, 0⟩] pos) newDict false (eval iter X.env) (some (assign (.Name y py) X.env))) _ _ s
  refine wpAny_bind (thn (dz_core (Qf := fun _ s' => SP X pins D .next s') xc I hi ok hg ht hk hv hs q fun p C s' m H' I' qn hn f => ?_) fun _ s' hq => wpAny_pure (wpAny_pure hq))
  refine wpAny_assign_Name (store_ok2 (v := V.ref p) I' xc.nd hy (.inl hyl) rfl (fun s2 I2 ⟨a, sb, ha⟩ => ?_) (.inr hyl))
  have off : C ≠ a := by
    rcases ha with z | z
    · rw [z]; exact f.2.1
    · exact fun e => f.2.2.2.2.1 y a z e.symm
  exact ⟨m, hn.sameBut sb off, fun h3 sb3 => ⟨_, H', I2.turned (t' := s2.toks) (fun b o hb e => (sb3.2 b hb).trans e) f.1 f.2.1 f.2.2.2.1 f.2.2.2.2.1 f.2.2.2.2.2, qn⟩⟩
end
end WW
end
section
set_option maxHeartbeats 1000000
/-! parallel assignments -/
namespace WW
open PySem PySem.Spec PyProof.Rows L2 L2.DX
/-- several values at once: each new one is held by itself alone -/
inductive VRs (κ : Ctx) : Hp → (Nat → List Addr) → Env → Hp → Fz → List V → List (D × Bool) → Prop
  | nil {Gd : Hp} {A : Nat → List Addr} {r : Env} {H : Hp} {F : Fz} : VRs κ Gd A r H F [] []
  | sh {Gd : Hp} {A : Nat → List Addr} {r : Env} {H : Hp} {F : Fz} {v : V} {d : D} {vs : List V} {ds : List (D × Bool)} : Rep κ F v d → VRs κ Gd A r H F vs ds → VRs κ Gd A r H F (v :: vs) ((d, false) :: ds)
  | ow {Gd : Hp} {A : Nat → List Addr} {r : Env} {H : Hp} {F : Fz} {a : Addr} {o : HO} {d : D} {vs : List V} {ds : List (D × Bool)} : VR κ Gd A r H F (.ref a) d true → VRs κ (upd Gd a o) A r H F vs ds → VRs κ Gd A r H F (.ref a :: vs) ((d, true) :: ds)
theorem VRs.mono {κ : Ctx} {H : Hp} {F : Fz} : ∀ {Gd : Hp} {A : Nat → List Addr} {r : Env} {vs : List V} {ds : List (D × Bool)}, VRs κ Gd A r H F vs ds → ∀ {Gd' : Hp} {A' : Nat → List Addr} {r' : Env}, (∀ b, Gd b = none → Gd' b = none) →
    (∀ (i : Nat) (e : D) (b : Addr), r'[i]? = some (some (e, true)) → b ∈ A' i → (∃ (j : Nat) (e' : D), r[j]? = some (some (e', true)) ∧ b ∈ A j) ∨ Gd b ≠ none) → VRs κ Gd' A' r' H F vs ds
  | _, _, _, _, _, .nil, _, _, _, _, _ => .nil
  | _, _, _, _, _, .sh h t, _, _, _, hg, ho => .sh h (t.mono hg ho)
  | Gd, A, r, _, _, .ow (a := a) (o := o) h t, Gd', A', r', hg, ho => by
    obtain ⟨a', e, rt, ow, nd, sp⟩ := h
    cases e
    refine .ow (o := o) ⟨a, rfl, rt, ⟨ow.f, hg _ ow.g, ow.s, ow.h⟩, nd, fun i e hi hb => ?_⟩ (t.mono (fun b hb => ?_) fun i e b hi hb => ?_)
    · rcases ho i e a hi hb with ⟨j, e', h1, h2⟩ | h1
      · exact sp j e' h1 h2
      · exact h1 ow.g
    · by_cases z : b = a
      · subst z; rw [upd_same] at hb; cases hb
      · rw [upd_ne z] at hb ⊢; exact hg b hb
    · rcases ho i e b hi hb with h1 | h1
      · exact .inl h1
      · refine .inr ?_
        by_cases z : b = a
        · subst z; rw [upd_same]; simp
        · rw [upd_ne z]; exact h1
theorem VRs.length {κ : Ctx} {Gd : Hp} {A : Nat → List Addr} {r : Env} {H : Hp} {F : Fz} {vs : List V} {ds : List (D × Bool)} (v : VRs κ Gd A r H F vs ds) : vs.length = ds.length := by
  induction v with
  | nil => rfl
  | sh _ _ ih => simp [ih]
  | ow _ _ ih => simp [ih]
def sets (σ : L2.St) : List Nat → List V → L2.St
  | i :: is, v :: vs => sets (σ.set i (some v)) is vs
  | _, _ => σ
theorem R.puts {κ : Ctx} {H : Hp} {F : Fz} {g : G} : ∀ {is : List Nat} {vs : List V} {ds : List (D × Bool)} {Gd : Hp} {A : Nat → List Addr} {r r' : Env} {σ : L2.St}, R κ Gd A r g σ H F → VRs κ Gd A r H F vs ds → asgN is ds r = some r' → (∀ i ∈ is, i < r.length) → ∃ A', R κ Gd A' r' g (sets σ is vs) H F
  | [], vs, ds, Gd, A, r, r', σ, q, vr, h, _ => by
    cases ds with
    | nil => cases vr; cases h; exact ⟨A, q⟩
    | cons _ _ => cases h
  | i :: is, vs, ds, Gd, A, r, r', σ, q, vr, h, hl => by
    cases vr with
    | nil => cases h
    | sh h1 t =>
      rename_i v d vs ds
      obtain ⟨A1, q1, z1, _⟩ := q.put (f := false) (i := i) h1 (hl i (by simp))
      refine R.puts (is := is) (vs := vs) (ds := ds) (r := r.set i (some (d, false))) q1 (t.mono (fun _ z => z) fun j e b hj hb => .inl ?_) h fun j hj => by rw [List.length_set]; exact hl j (by simp [hj])
      by_cases y : j = i
      · subst y; have := set_self hj; cases this
      · rw [set_get y] at hj; rw [z1 j y] at hb; exact ⟨j, e, hj, hb⟩
    | ow h1 t =>
      rename_i a o d vs ds
      obtain ⟨A1, q1, z1, z2⟩ := q.put (f := true) (i := i) h1 (hl i (by simp))
      obtain ⟨a', ea, eA⟩ := z2 rfl
      cases ea
      obtain ⟨_, ea, _, ow, _⟩ := h1
      cases ea
      refine R.puts (is := is) (vs := vs) (ds := ds) (r := r.set i (some (d, true))) q1 (t.mono (fun b hb => ?_) fun j e b hj hb => ?_) h fun j hj => by rw [List.length_set]; exact hl j (by simp [hj])
      · by_cases z : b = a
        · subst z; exact ow.g
        · rw [upd_ne z] at hb; exact hb
      · by_cases y : j = i
        · subst y
          rw [eA, List.mem_singleton] at hb
          subst hb
          exact .inr (by rw [upd_same]; simp)
        · rw [set_get y] at hj
          rw [z1 j y] at hb
          exact .inl ⟨j, e, hj, hb⟩
def tPa (κ : Ctx) (C : Cl) (es : List E) : TA := fun σ H Q => ∃ (Gd : Hp) (A : Nat → List Addr) (r : Env) (g : G) (F : Fz) (ds : List (D × Bool)) (st : WW.St),
  R κ Gd A r g σ H F ∧ evP C es ⟨r, g⟩ = some (ds, st) ∧ ∀ vs H' F' A', Grow Gd F F' → R κ Gd A' st.r st.g σ H' F' → VRs κ Gd A' st.r H' F' vs ds → Q vs H'
section
variable {κ : Ctx} {C : Cl} {w : Nat} {X : Cx} {pos : Pos} {e : Expr} {es : List Expr} {e' : E} {es' : List E}
theorem sp_nil : PA X [] (tPa κ C []) := pa_nil.imp fun σ H Q q => by
  obtain ⟨Gd, A, r, g, F, ds, st, q, h, k⟩ := q
  cases h
  exact k [] H F A .rfl q .nil
theorem sp_cons (he : PE X e (tV κ C e')) (hr : PA X es (tPa κ C es')) (hs : nStar e = true) : PA X (e :: es) (tPa κ C (e' :: es')) :=
  (pa_cons he hr (starEach_cons hs es X.env)).imp fun σ H Q q => by
    obtain ⟨Gd, A, r, g, F, ds, st, q, h, k⟩ := q
    simp only [evP, Option.bind_eq_some_iff, Option.map_eq_some_iff] at h
    obtain ⟨⟨d, f, s1⟩, h1, ⟨ds', s2⟩, h2, h3⟩ := h
    cases h3
    refine ⟨Gd, A, r, g, F, _, f, s1, q, toE_some h1, fun v H1 F1 A1 g1 q1 tv => ?_⟩
    cases f with
    | false => exact ⟨Gd, A1, s1.r, s1.g, F1, ds', s2, q1, h2, fun vs H2 F2 A2 g2 q2 vr => k _ H2 F2 A2 (g1.trans g2) q2 (.sh (Rep.le g2.le tv) vr)⟩
    | true =>
      obtain ⟨a, o, ea, ho, hg0, qg, back⟩ := q1.guard tv
      refine ⟨_, A1, s1.r, s1.g, F1, ds', s2, qg, h2, fun vs H2 F2 A2 g2 q2 vr => ?_⟩
      obtain ⟨b1, b2, b3⟩ := back A2 s2.r s2.g _ H2 F2 g2 q2
      subst ea
      exact k _ H2 F2 A2 (g1.trans b1) b2 (.ow b3 vr)
theorem par_end {is : List Nat} {D : Ends} {σ : L2.St} {H : Hp} (hl : ∀ i ∈ is, i < X.N.length) (hσ : σ.length = X.N.length) (q : tSt κ C w (.par is es') D σ H) : tPa κ C es' σ H fun vs H1 => vs.length = is.length ∧ D.nx (sets σ is vs) H1 ∧ ∀ p, H1 p = none → D.nx (sets σ is vs) (upd H1 p (.tup vs)) := by
  obtain ⟨Gd, A, r, g, F, o, q, h, k⟩ := q
  simp only [evS, Option.bind_eq_some_iff, Option.map_eq_some_iff] at h
  obtain ⟨⟨ds, s1⟩, h1, r', h2, h3⟩ := h
  cases h3
  refine ⟨Gd, A, r, g, F, ds, s1, q, h1, fun vs H' F' A' gr q' vr => ⟨?_, ?_, fun p n => ?_⟩⟩
  · have h4 : ∀ {ds : List (WW.D × Bool)} {is : List Nat} {r r' : Env}, asgN is ds r = some r' → ds.length = is.length := by
      intro ds
      induction ds with
      | nil => intro is r r' h; cases is with
        | nil => rfl
        | cons _ _ => cases h
      | cons d ds ih => intro is r r' h; cases is with
        | nil => cases h
        | cons i is => simp [ih (show asgN is ds _ = some r' from h)]
    rw [vr.length, h4 h2]
  · obtain ⟨A2, q2⟩ := q'.puts vr h2 fun i hi => by rw [← q'.len, hσ]; exact hl i hi
    exact k _ H' F' A2 gr q2
  · obtain ⟨A2, q2⟩ := q'.puts vr h2 fun i hi => by rw [← q'.len, hσ]; exact hl i hi
    exact k _ _ F' A2 gr ((Pure.made q'.fk n).keepR q2)
theorem par_run {st : Stmt} {is : List Nat} {t : TS} (h : PS X st t) (hl : ∀ i ∈ is, i < X.N.length) (i : ∀ D σ H, σ.length = X.N.length → tSt κ C w (.par is es') D σ H → t D σ H) : PS X st (tSt κ C w (.par is es')) := ⟨fun pins s σ H D I q => h.run pins s σ H D I (i D σ H I.len q)⟩
theorem st_par2 {i j : Nat} {x y : Str} {a b : Expr} {px py pt : Pos} {kt k2 : Nat} {pt2 : Pos} {a' b' : E} (xc : XC κ X) (hi : X.N[i]? = some x) (hj : X.N[j]? = some y) (hij : i ≠ j)
    (hx : X.env.scope.names.lookup x = some .local) (hy : X.env.scope.names.lookup y = some .local) (ha : PA X [a, b] (tPa κ C es'))
    (hw : swappedStores [.Tuple [.Name x px, .Name y py] kt pt] (.Tuple [a, b] k2 pt2) X.env = pure (some [x, y])) :
    PS X (.Assign [.Tuple [.Name x px, .Name y py] kt pt] (.Tuple [a, b] k2 pt2) pos) (tSt κ C w (.par [i, j] es')) := by
  have hl : ∀ l ∈ [i, j], l < X.N.length := fun l hl => by
    simp only [List.mem_cons, List.not_mem_nil, or_false] at hl
    rcases hl with rfl | rfl
    · exact (List.getElem?_eq_some_iff.mp hi).1
    · exact (List.getElem?_eq_some_iff.mp hj).1
  refine par_run (ps_par xc.calm xc.nd hi hj hij hx hy (ha.imp fun σ H Q q => q) hw) hl fun D σ H hσ q => ?_
  obtain ⟨Gd, A, r, g, F, ds, st, q1, h1, k⟩ := par_end hl hσ q
  refine ⟨Gd, A, r, g, F, ds, st, q1, h1, fun vs H' F' A' gr q' vr => ?_⟩
  obtain ⟨hl, hn, _⟩ := k vs H' F' A' gr q' vr
  match vs, hl with
  | [v, w], _ => exact ⟨v, w, rfl, hn⟩
theorem st_par3 {i j l : Nat} {x y z : Str} {a b c : Expr} {px py pz pt : Pos} {kt k2 : Nat} {pt2 : Pos} (xc : XC κ X) (hi : X.N[i]? = some x) (hj : X.N[j]? = some y) (hl0 : X.N[l]? = some z) (hij : i ≠ j) (hil : i ≠ l) (hjl : j ≠ l)
    (hx : X.env.scope.names.lookup x = some .local) (hy : X.env.scope.names.lookup y = some .local) (hz : X.env.scope.names.lookup z = some .local) (ha : PA X [a, b, c] (tPa κ C es'))
    (hw : swappedStores [.Tuple [.Name x px, .Name y py, .Name z pz] kt pt] (.Tuple [a, b, c] k2 pt2) X.env = pure (some [x, y, z])) :
    PS X (.Assign [.Tuple [.Name x px, .Name y py, .Name z pz] kt pt] (.Tuple [a, b, c] k2 pt2) pos) (tSt κ C w (.par [i, j, l] es')) := by
  have hl : ∀ m ∈ [i, j, l], m < X.N.length := fun m hl => by
    simp only [List.mem_cons, List.not_mem_nil, or_false] at hl
    rcases hl with rfl | rfl | rfl
    · exact (List.getElem?_eq_some_iff.mp hi).1
    · exact (List.getElem?_eq_some_iff.mp hj).1
    · exact (List.getElem?_eq_some_iff.mp hl0).1
  refine par_run (ps_par3 xc.calm xc.nd hi hj hl0 hij hil hjl hx hy hz (ha.imp fun σ H Q q => q) hw) hl fun D σ H hσ q => ?_
  obtain ⟨Gd, A, r, g, F, ds, st, q1, h1, k⟩ := par_end hl hσ q
  refine ⟨Gd, A, r, g, F, ds, st, q1, h1, fun vs H' F' A' gr q' vr => ?_⟩
  obtain ⟨hl, hn, _⟩ := k vs H' F' A' gr q' vr
  match vs, hl with
  | [u, v, w], _ => exact ⟨u, v, w, rfl, hn⟩
/-- names, each in its slot -/
def gNs : List Nat → TGs
  | [] => gNil
  | i :: is => gCons (gName i) (gNs is)
theorem gNs_of : ∀ {is : List Nat} {vs : List V} {σ : L2.St} {H : Hp} {Q : L2.St → Hp → Prop}, vs.length = is.length → Q (sets σ is vs) H → gNs is vs σ H Q
  | [], [], σ, H, Q, _, q => ⟨rfl, q⟩
  | i :: is, v :: vs, σ, H, Q, hl, q => ⟨v, vs, rfl, gNs_of (by simpa using hl) q⟩
theorem pgs_ns (xc : XC κ X) : ∀ {xs : List (Str × Pos)} {is : List Nat}, xs.length = is.length → (∀ (n : Nat) (x : Str × Pos) (i : Nat), xs[n]? = some x → is[n]? = some i → X.N[i]? = some x.1 ∧ Loc X.env.scope x.1 ∧ (X.fn x.1 = true ∨ X.env.scope.names.lookup x.1 = some .local)) → PGs X (xs.map fun x => Expr.Name x.1 x.2) (gNs is)
  | [], [], _, _ => pgs_nil
  | x :: xs, i :: is, hl, h => by
    obtain ⟨h1, h2, h3⟩ := h 0 x i rfl rfl
    exact pgs_cons (pg_name xc.nd h1 h2 h3) (pgs_ns xc (by simpa using hl) fun n x i e1 e2 => h (n + 1) x i (by simpa using e1) (by simpa using e2)) rfl
theorem st_parN {xs : List (Str × Pos)} {is : List Nat} {kt k2 : Nat} {pt pt2 : Pos} (xc : XC κ X) (hl : xs.length = is.length) (hz : is.length ≤ 30) (hx : ∀ (n : Nat) (x : Str × Pos) (i : Nat), xs[n]? = some x → is[n]? = some i → X.N[i]? = some x.1 ∧ Loc X.env.scope x.1 ∧ (X.fn x.1 = true ∨ X.env.scope.names.lookup x.1 = some .local))
    (ha : PA X es (tPa κ C es')) (hw : swappedStores [.Tuple (xs.map fun x => Expr.Name x.1 x.2) kt pt] (.Tuple es k2 pt2) X.env = pure none) :
    PS X (.Assign [.Tuple (xs.map fun x => Expr.Name x.1 x.2) kt pt] (.Tuple es k2 pt2) pos) (tSt κ C w (.par is es')) := by
  have hall : (xs.map fun x => Expr.Name x.1 x.2).all nStar = true := by
    rw [List.all_map, List.all_eq_true]
    intro x _
    rfl
  have hN : ∀ i ∈ is, i < X.N.length := fun i hi => by
    obtain ⟨n, hn⟩ := List.mem_iff_getElem?.mp hi
    have hlt : n < xs.length := by rw [hl]; exact (List.getElem?_eq_some_iff.mp hn).1
    obtain ⟨h1, _⟩ := hx n _ i (List.getElem?_eq_getElem hlt) hn
    exact (List.getElem?_eq_some_iff.mp h1).1
  refine par_run (ps_asg (pe_tup ha) (pg_tup xc.calm (pgs_ns xc hl hx) (asg_len hall X.env).1 (asg_len hall X.env).2) rfl hw rfl) hN fun D σ H hσ q => ?_
  obtain ⟨Gd, A, r, g, F, ds, st, q1, h1, k⟩ := par_end hN hσ q
  refine ⟨Gd, A, r, g, F, ds, st, q1, h1, fun vs H' F' A' gr q' vr => ?_⟩
  obtain ⟨hv, _, hn⟩ := k vs H' F' A' gr q' vr
  refine ⟨by rw [hv, sizeLine_eq]; omega, fun p n => ⟨p, vs, rfl, .inl (.inl upd_same), by rw [hv, List.length_map, hl], gNs_of hv (hn p n)⟩⟩
end
end WW
end
section
set_option maxHeartbeats 1000000
/-! statements: targets that are a thing's items; a list behind a key -/
namespace WW
open PySem PySem.Spec PyProof.Rows L2 L2.DX
section
variable {κ : Ctx} {C : Cl} {w : Nat} {X : Cx} {pos : Pos} {e c : Expr} {e' c' k' : E} {x : Str} {i : Nat} {p apos cpos : Pos}
/-! ### a, b[k] = e -/
def tX (κ : Ctx) (C : Cl) (t : TX) : TG := fun v σ H Q => ∃ (Gd : Hp) (A : Nat → List Addr) (r : Env) (g : G) (F : Fz) (d : D) (st : WW.St),
  R κ Gd A r g σ H F ∧ Rep κ F v d ∧ asgX C t d ⟨r, g⟩ = some st ∧ ∀ σ' H' F' A', Grow Gd F F' → R κ Gd A' st.r st.g σ' H' F' → Q σ' H'
def tXs (κ : Ctx) (C : Cl) (ts : List TX) : TGs := fun vs σ H Q => ∃ (Gd : Hp) (A : Nat → List Addr) (r : Env) (g : G) (F : Fz) (ds : List D) (st : WW.St),
  R κ Gd A r g σ H F ∧ RepL κ F vs ds ∧ asgXs C ts ds ⟨r, g⟩ = some st ∧ ∀ σ' H' F' A', Grow Gd F F' → R κ Gd A' st.r st.g σ' H' F' → Q σ' H'
theorem gx_n (xc : XC κ X) (hi : X.N[i]? = some x) (hx : Loc X.env.scope x) (hf : X.fn x = true ∨ X.env.scope.names.lookup x = some .local) : PG X (.Name x pos) (tX κ C (.n i)) :=
  (gn_n xc hi hx hf).imp fun v σ H Q q => by
    obtain ⟨Gd, A, r, g, F, d, st, q, rp, h, k⟩ := q
    cases h
    exact ⟨Gd, A, r, g, F, d, false, _, q, rp, rfl, fun σ' A' q' _ => k σ' H F A' .rfl q'⟩
theorem gx_s (xc : XC κ X) {k0 : Expr} {spos : Pos} (hN : X.N[i]? = some x) (hv : Vis X.env.scope x) (hd : (x == ("__debug__" : Str)) = false) (hcd : (x == ("__classdict__" : Str)) = false) (hk : PE X k0 (tV κ C k')) (hsl : nSlice k0 = true) :
    PG X (.Subscript (.Name x p) k0 spos) (tX κ C (.s i k')) :=
  (pg_sub (pe_var hN hv hd hcd) hk (set_D xc) fun v => assign_sub hsl X.env v).imp fun v1 σ H Q q => by
    obtain ⟨Gd, A, r, g, F1, vd, st, q1, o1, h, k⟩ := q
    simp only [asgX, Option.bind_eq_some_iff] at h
    obtain ⟨d00, h00, ⟨kd, f2, s2⟩, h2, d, h3, h4⟩ := h
    have hs : ∃ a, σ[i]? = some (some (.ref a)) := by
      obtain ⟨a, z, _⟩ := q1.ow i _ (of_owned h00)
      exact ⟨a, z⟩
    obtain ⟨a, ha⟩ := hs
    refine ⟨.ref a, ha, tV.op q1 (toE_some h2) fun v2 H2 F2 A2 g2 q2 o2 => ?_⟩
    have o2 : Rep κ F2 v2 kd := o2
    dsimp only at h4
    cases d with
    | dct l =>
      dsimp only at h4
      split at h4
      · rename_i hk
        cases h4
        obtain ⟨ad, es, e1, e2, e3, e4, e5, e6⟩ := q2.mutD (of_owned h3)
        rw [ha] at e1
        cases e1
        refine .inl ⟨_, F2, es, l, kd, vd, rfl, q2.fk, e2, e3, e4, o2, o1.le g2.le, hk.1, hk.2, fun es' rd wf => ?_⟩
        obtain ⟨A', q'⟩ := e6 es' _ rd wf
        exact k σ _ F2 A' g2 q'
      · cases h4
    | lst l =>
      cases kd with
      | int n =>
        dsimp only at h4
        split at h4
        · rename_i hn
          cases h4
          obtain ⟨ad, xs, e1, e2, e3, e4, e5⟩ := q2.mutL (of_owned h3)
          rw [ha] at e1
          cases e1
          cases o2
          have := e3.length
          refine .inr ⟨_, xs, n, n.toNat, rfl, rfl, e2, ?_, ?_⟩
          · unfold ixN
            rw [if_pos hn.1, if_pos (by omega)]
          · obtain ⟨A', q'⟩ := e5 _ _ (e3.set (o1.le g2.le) n.toNat)
            exact k σ _ F2 A' g2 q'
        · cases h4
      | _ => cases h4
    | _ => cases h4
theorem gxs_nil : PGs X [] (tXs κ C []) := pgs_nil.imp fun vs σ H Q q => by
  obtain ⟨Gd, A, r, g, F, ds, st, q, rl, h, k⟩ := q
  cases ds with
  | nil => cases rl; cases h; exact ⟨rfl, k _ H F A .rfl q⟩
  | cons _ _ => cases h
theorem gxs_cons {e : Expr} {es : List Expr} {t : TX} {ts : List TX} (h1 : PG X e (tX κ C t)) (h2 : PGs X es (tXs κ C ts)) (hs : nStar e = true) : PGs X (e :: es) (tXs κ C (t :: ts)) :=
  (pgs_cons h1 h2 (by rw [nStar_asg hs]; rfl)).imp fun vs σ H Q q => by
    obtain ⟨Gd, A, r, g, F, ds, st, q, rl, h, k⟩ := q
    cases ds with
    | nil => cases h
    | cons d ds =>
      simp only [asgXs, Option.bind_eq_some_iff] at h
      obtain ⟨s1, h1, h2⟩ := h
      cases rl with
      | cons ra rb => exact ⟨_, _, rfl, Gd, A, r, g, F, d, s1, q, ra, h1, fun σ1 H1 F1 A1 g1 q1 => ⟨Gd, A1, s1.r, s1.g, F1, ds, st, q1, rb.le g1.le, h2, fun σ2 H2 F2 A2 g2 q2 => k σ2 H2 F2 A2 (g1.trans g2) q2⟩⟩
theorem asgXs_len : ∀ {ts : List TX} {ds : List D} {s s' : WW.St}, asgXs C ts ds s = some s' → ds.length = ts.length
  | [], [], _, _, _ => rfl
  | [], _ :: _, _, _, h => by cases h
  | _ :: _, [], _, _, h => by cases h
  | t :: ts, d :: ds, r, r', h => by
    simp only [asgXs, Option.bind_eq_some_iff] at h
    obtain ⟨r1, _, h2⟩ := h
    simp [asgXs_len h2]
theorem st_asgx {es : List Expr} {ts : List TX} {k0 : Nat} {tpos : Pos} (xc : XC κ X) (he : PE X e (tV κ C e')) (hg : PGs X es (tXs κ C ts)) (hst : es.all nStar = true) (hl : es.length = ts.length)
    (hs : swapsWithSole [.Tuple es k0 tpos] e pos.line X.env = pure false) (hw : swappedStores [.Tuple es k0 tpos] e X.env = pure none) : PS X (.Assign [.Tuple es k0 tpos] e pos) (tSt κ C w (.asgx ts e')) :=
  (ps_asg he (pg_tup xc.calm hg (asg_len hst X.env).1 (asg_len hst X.env).2) hs hw rfl).imp fun D σ H q => by
    obtain ⟨Gd, A, r, g, F, o, q, h, k⟩ := q
    simp only [evS, Option.bind_eq_some_iff] at h
    obtain ⟨⟨d, f1, s1⟩, h1, h2⟩ := h
    refine tV.op q (toE_some h1) fun v1 H1 F1 A1 g1 q1 o1 => ?_
    have o1 : Rep κ F1 v1 d := o1
    dsimp only at h2
    split at h2
    · rw [Option.map_eq_some_iff] at h2
      obtain ⟨s2, h3, rfl⟩ := h2
      cases o1 with
      | tup z1 z2 =>
        have hq := sqT_fk q1.fk z1
        rw [← xc.K] at hq
        exact ⟨_, _, rfl, hq, by rw [z2.length, asgXs_len h3, hl], Gd, A1, s1.r, s1.g, F1, _, s2, q1, z2, h3, fun σ2 H2 F2 A2 g2 q2 => k σ2 H2 F2 A2 (g1.trans g2) q2⟩
    · cases h2
end
end WW
end
section
set_option maxHeartbeats 1000000
/-! d.setdefault(k, []).append(e) -/
namespace WW
open PySem PySem.Spec PyProof.Rows L2 L2.DX
section
variable {κ : Ctx} {Gd : Hp} {A : Nat → List Addr} {r : Env} {g : G} {σ : L2.St} {H : Hp} {F : Fz} {i : Nat} {d : D}
/-- what stands at these addresses is guarded, too -/
noncomputable def gdA (Gd : Hp) (H : Hp) (S : List Addr) : Hp := fun b => if b ∈ S then H b else Gd b
theorem gdA_in {S : List Addr} {b : Addr} (h : b ∈ S) : gdA Gd H S b = H b := if_pos h
theorem gdA_out {S : List Addr} {b : Addr} (h : b ∉ S) : gdA Gd H S b = Gd b := if_neg h
/-- slot i is laid aside while other things are computed -/
theorem R.park (q : R κ Gd A r g σ H F) (hi : r[i]? = some (some (d, true))) : R κ (gdA Gd H (A i)) A (r.set i none) g σ H F ∧
    ∀ A2 r2 g2 H2 F2, Grow (gdA Gd H (A i)) F F2 → R κ (gdA Gd H (A i)) A2 r2 g2 σ H2 F2 → Grow Gd F F2 ∧ (∀ b ∈ A i, H2 b = H b) ∧ R κ Gd (fun j => if j = i then A i else A2 j) (r2.set i (some (d, true))) g2 σ H2 F2 := by
  have own := fun b hb => q.oa i d b hi hb
  refine ⟨⟨fun b o h => ?_, q.fk, q.st, fun b hb => ?_, fun t ht => ?_, q.tb, by rw [List.length_set]; exact q.len, fun j e hj => ?_, fun j e hj => ?_, fun j e b hj hb => ?_, fun j l e f b hj hl m1 m2 => ?_⟩, fun A2 r2 g2 H2 F2 gr p => ?_⟩
  · by_cases z : b ∈ A i
    · rw [gdA_in z] at h; exact h
    · rw [gdA_out z] at h; exact q.gk b o h
  · rw [gdA_out fun z => (own b z).s hb]; exact q.gs b hb
  · rw [gdA_out fun z => q.tabOff ht (own _ z)]; exact q.gt t ht
  · by_cases z : j = i
    · subst z; have := set_self hj; cases this
    · rw [set_get z] at hj; exact q.sh j e hj
  · by_cases z : j = i
    · subst z; have := set_self hj; cases this
    · rw [set_get z] at hj; exact q.ow j e hj
  · by_cases z : j = i
    · subst z; have := set_self hj; cases this
    · rw [set_get z] at hj
      have w := q.oa j e b hj hb
      exact ⟨w.f, by rw [gdA_out fun y => z (q.sep j i e d b hj hi hb y)]; exact w.g, w.s, w.h⟩
  · by_cases z : j = i
    · subst z; have := set_self hj; cases this
    · by_cases y : l = i
      · subst y; have := set_self hl; cases this
      · rw [set_get z] at hj
        rw [set_get y] at hl
        exact q.sep j l e f b hj hl m1 m2
  · have hs : ∀ b ∈ A i, ∃ o, H b = some o := fun b hb => by obtain ⟨o, h, _⟩ := (own b hb).h; exact ⟨o, h⟩
    have off : ∀ b, gdA Gd H (A i) b = none → b ∉ A i ∧ Gd b = none := fun b h => by
      by_cases z : b ∈ A i
      · rw [gdA_in z] at h
        obtain ⟨o, e⟩ := hs b z
        rw [e] at h
        cases h
      · rw [gdA_out z] at h; exact ⟨z, h⟩
    have same : ∀ b ∈ A i, H2 b = H b := fun b hb => by
      obtain ⟨o, e⟩ := hs b hb
      rw [e]
      exact p.gk b o (by rw [gdA_in hb]; exact e)
    refine ⟨⟨gr.le, gr.c, fun b h => gr.gd b fun z => h (off b z).2⟩, same, fun b o h => p.gk b o ?_, p.fk, p.st, fun b hb => (off b (p.gs b hb)).2, fun t ht => (off _ (p.gt t ht)).2, p.tb, by rw [List.length_set]; exact p.len, fun j e hj => ?_, fun j e hj => ?_, fun j e b hj hb => ?_, fun j l e f b hj hl m1 m2 => ?_⟩
    · by_cases z : b ∈ A i
      · have := (own b z).g; rw [h] at this; cases this
      · rw [gdA_out z]; exact h
    · by_cases z : j = i
      · subst z; have := set_self hj; cases this
      · rw [set_get z] at hj; exact p.sh j e hj
    · by_cases z : j = i
      · subst z
        have := set_self hj
        cases this
        obtain ⟨a, h1, h2⟩ := q.ow j d hi
        simp only [if_true]
        exact ⟨a, h1, h2.keep (fun b hb o h => (same b hb).trans h) gr.le⟩
      · rw [set_get z] at hj
        simp only [if_neg z]
        exact p.ow j e hj
    · by_cases z : j = i
      · subst z
        have := set_self hj
        cases this
        simp only [if_true] at hb
        have w := own b hb
        refine ⟨?_, w.g, fun y => (off b (p.gs b y)).1 hb, ?_⟩
        · obtain ⟨o, e⟩ := hs b hb
          rw [gr.gd b (by rw [gdA_in hb, e]; simp)]
          exact w.f
        · obtain ⟨o, e, n⟩ := w.h
          exact ⟨o, (same b hb).trans e, n⟩
      · rw [set_get z] at hj
        simp only [if_neg z] at hb
        have w := p.oa j e b hj hb
        exact ⟨w.f, (off b w.g).2, w.s, w.h⟩
    · by_cases z : j = i
      · by_cases y : l = i
        · rw [z, y]
        · subst z
          rw [set_get y] at hl
          simp only [if_true] at m1
          simp only [if_neg y] at m2
          exact absurd m1 (off b (p.oa l f b hl m2).g).1
      · by_cases y : l = i
        · subst y
          rw [set_get z] at hj
          simp only [if_true] at m2
          simp only [if_neg z] at m1
          exact absurd m2 (off b (p.oa j e b hj m1).g).1
        · rw [set_get z] at hj
          rw [set_get y] at hl
          simp only [if_neg z] at m1
          simp only [if_neg y] at m2
          exact p.sep j l e f b hj hl m1 m2
end
/-! ### the entries -/
abbrev kvl (l : List (D × List D)) : List (D × D) := l.map fun p => (p.1, D.lst p.2)
theorem kOk_kvl {l : List (D × List D)} {x : D} : kOk (kvl l) x = kOk (l.map fun p => (p.1, D.non)) x := by cases l <;> rfl
theorem kns_kvl {l : List (D × List D)} : kns (kvl l) = l.map fun p => keyN p.1 := by unfold kns kvl; rw [List.map_map]; rfl
section
variable {κ : Ctx} {H H' : Hp} {F F' : Fz}
theorem RepE.len : ∀ {es : List (Int × V × V)} {bs : List Addr} {l : List (D × List D)}, RepE κ H F es bs l → bs.length = l.length ∧ es.length = l.length
  | _, _, _, .nil => ⟨rfl, rfl⟩
  | _, _, _, .cons _ _ _ t => by simp [t.len.1, t.len.2]
theorem RepE.at : ∀ {es : List (Int × V × V)} {bs : List Addr} {l : List (D × List D)} {j : Nat} {b : Addr}, RepE κ H F es bs l → bs[j]? = some b → ∃ h k, es[j]? = some (h, k, .ref b)
  | _, _, _, _, _, .nil, e => by simp at e
  | _, _, _, 0, _, .cons _ _ _ t, e => by simp at e; subst e; exact ⟨_, _, rfl⟩
  | _, _, _, j + 1, _, .cons _ _ _ t, e => by simpa using RepE.at (j := j) t (by simpa using e)
theorem RepE.push {k : V} {x : D} {b : Addr} (rk : Rep κ F k x) (hb : H b = some (.lst [])) : ∀ {es : List (Int × V × V)} {bs : List Addr} {l : List (D × List D)}, RepE κ H F es bs l → RepE κ H F (es ++ [((keyN x).hash κ.w, k, .ref b)]) (bs ++ [b]) (l ++ [(x, [])])
  | _, _, _, .nil => .cons rk hb .nil .nil
  | _, _, _, .cons p q c t => .cons p q c (RepE.push rk hb t)
/-- the list of a key grows by one -/
theorem RepE.app {x v : D} {y : V} (hx : keyOk 8 x = true) (ry : Rep κ F y v) : ∀ {es : List (Int × V × V)} {bs : List Addr} {l l' : List (D × List D)}, RepE κ H F es bs l → bs.Nodup → (∀ p ∈ l, keyOk 8 p.1 = true) → lapp l x v = some l' →
    ∃ j b xs, at_ (l.map fun p => keyN p.1) (keyN x) = some j ∧ bs[j]? = some b ∧ H b = some (.lst xs) ∧ xs.length < sizeLine ∧ RepE κ (upd H b (.lst (xs ++ [y]))) F es bs l'
  | _, _, _, _, .nil, _, _, h => by cases h
  | _, _, _, l', .cons (b := b) (x := a) (ds := w) (xs := xs) (l := l) p q c t, nd, ok, h => by
    rw [List.nodup_cons] at nd
    simp only [lapp] at h
    rw [same_iff a x (ok _ List.mem_cons_self) hx] at h
    by_cases e : keyN a = keyN x
    · rw [decide_eq_true e, if_pos rfl] at h
      split at h
      · rename_i hw
        cases h
        refine ⟨0, b, xs, ?_, rfl, q, by rw [c.length]; exact hw, .cons p upd_same (c.append (.cons ry .nil)) (t.keepIn .rfl fun b' hb' o ho => ?_)⟩
        · rw [List.map_cons]
          unfold at_
          rw [List.findIdx?_cons, decide_eq_true e]
          rfl
        · rw [upd_ne fun z => nd.1 (by rw [← z]; exact hb')]; exact ho
      · cases h
    · rw [decide_eq_false e, if_neg (by simp), Option.map_eq_some_iff] at h
      obtain ⟨l2, h1, rfl⟩ := h
      obtain ⟨j, b', xs', h2, h3, h4, h5, h6⟩ := RepE.app hx ry t nd.2 (fun p hp => ok p (List.mem_cons_of_mem _ hp)) h1
      have hm : b' ∈ _ := List.mem_of_getElem? h3
      refine ⟨j + 1, b', xs', ?_, by simpa using h3, h4, h5, .cons p ?_ c h6⟩
      · rw [List.map_cons]
        unfold at_
        rw [List.findIdx?_cons, decide_eq_false e]
        simp only [Bool.false_eq_true, if_false]
        unfold at_ at h2
        rw [h2]
        rfl
      · rw [upd_ne fun (z : b = b') => nd.1 (by rw [z]; exact hm)]; exact q
theorem lput0_at {l : List (D × List D)} {x : D} (ok : ∀ p ∈ l, keyOk 8 p.1 = true) (hx : keyOk 8 x = true) : lput0 l x = if (at_ (l.map fun p => keyN p.1) (keyN x)).isSome then l else l ++ [(x, [])] := by
  unfold lput0
  have : (l.any fun p => p.1.same x) = (at_ (l.map fun p => keyN p.1) (keyN x)).isSome := by
    unfold at_
    rw [List.findIdx?_isSome, List.any_map]
    induction l with
    | nil => rfl
    | cons p l ih =>
      rw [List.any_cons, List.any_cons, ih fun q hq => ok q (List.mem_cons_of_mem _ hq), same_iff p.1 x (ok _ List.mem_cons_self) hx]
      rfl
  rw [this]
theorem lapp_keys : ∀ {l l' : List (D × List D)} {x v : D}, lapp l x v = some l' → l'.map (·.1) = l.map (·.1)
  | [], _, _, _, h => by cases h
  | (a, w) :: r, l', x, v, h => by
    simp only [lapp] at h
    split at h
    · split at h
      · cases h; rfl
      · cases h
    · rw [Option.map_eq_some_iff] at h
      obtain ⟨r', h1, rfl⟩ := h
      rw [List.map_cons, List.map_cons, lapp_keys h1]
theorem DWf.keys {l l' : List (D × D)} (w : DWf l) (h : l'.map (·.1) = l.map (·.1)) : DWf l' := by
  have hm : ∀ p ∈ l', ∃ q ∈ l, q.1 = p.1 := fun p hp => by
    have : p.1 ∈ l'.map (·.1) := List.mem_map_of_mem hp
    rw [h] at this
    obtain ⟨q, h1, h2⟩ := List.mem_map.mp this
    exact ⟨q, h1, h2⟩
  refine ⟨fun p hp => ?_, fun p hp q hq => ?_, ?_⟩
  · obtain ⟨q, h1, h2⟩ := hm p hp; rw [← h2]; exact w.ok q h1
  · obtain ⟨p', h1, h2⟩ := hm p hp
    obtain ⟨q', h3, h4⟩ := hm q hq
    rw [← h2, ← h4]
    exact w.one p' h1 q' h3
  · have e : ∀ m : List (D × D), (m.map fun p => keyN p.1) = (m.map (·.1)).map keyN := fun m => by rw [List.map_map]; rfl
    rw [e, h, ← e]
    exact w.nd
/-- d.setdefault(k, v), d a dict of lists that one slot alone holds, v a new list -/
def rSetE (κ : Ctx) : V → List V → Hp → VK → Prop := fun x xs H Q => ∃ (a : Addr) (y : V) (b0 : Addr) (F : Fz) (es : DS) (bs : List Addr) (l : List (D × List D)) (kd : D), x = .ref a ∧ xs = [y, .ref b0] ∧ Fk F H ∧ H a = some (DicO a es) ∧ RepE κ H F es.1 bs l ∧ (∀ b ∈ bs, F.m b = none) ∧ DWf (kvl l) ∧ Rep κ F y kd ∧ kOk (kvl l) kd = true ∧ l.length < sizeLine ∧
  (∀ j b, at_ (kns (kvl l)) (keyN kd) = some j → bs[j]? = some b → Q (.ref b) H) ∧ (at_ (kns (kvl l)) (keyN kd) = none → ∀ es' : DS, es'.1 = es.1 ++ [((keyN kd).hash κ.w, y, .ref b0)] → Q (.ref b0) (upd H a (DicO a es')))
theorem m_setE {X : Cx} (hK : X.K = κ.K) (hw : X.w = κ.w) (hu : X.A.units + 70 < cLine) : MtR X "dict.setdefault" (rSetE κ) := by
  intro pins s σ H x xs v us Q I rx rv h
  obtain ⟨a, y, b0, F, es, bs, l, kd, rfl, rfl, k, ha, re, nb, wf, ry, hk, hl, q1, q2⟩ := h
  cases rx
  obtain ⟨u1, u2, rfl, r1, r2⟩ := vals2 rv
  have rd : RepD κ (F.add bs H) es.1 (kvl l) := re.rep (add_le nb) fun b hb => add_in hb
  obtain ⟨hS, _, ents, ep, o, h3, h4, h5, h6, h7⟩ := dic_full I ha rd
  have As := asked hK (add_fk k) I rd wf h6 hk (ry.le (add_le nb)) r1
  have hlt : ∀ i, at_ (kns (kvl l)) (keyN kd) = some i → i < l.length := fun i e => by
    have := at_lt e
    rw [List.length_map, List.length_map] at this
    exact this
  have hln := re.len
  rw [← hw] at As
  refine setdefM_N (A := X.A) (by omega) hS h3 h4 h5 As (by rw [h7, List.length_map]; omega) (fun i e g1 g2 => ?_) (fun g1 h' ep' raw sb => ?_) fun i e => by rw [h7, List.length_map]; exact hlt i e
  · have hi := hlt i g1
    have hb : bs[i]? = some (bs[i]'(by omega)) := List.getElem?_eq_getElem _
    obtain ⟨hh, kk, e1⟩ := re.at hb
    obtain ⟨en, e2, _, _, e3⟩ := h6.get e1
    rw [Array.getElem?_toList, g2] at e2
    cases e2
    exact ⟨.ref _, H, I.tok _, e3, q1 i _ g1 hb⟩
  · have ep2 := h6.push r1 r2 (h := (keyN kd).hash κ.w)
    rw [← hw] at ep2
    refine ⟨.ref b0, _, d_write I (by rw [ha]; trivial) sb ⟨_, raw.choose_spec.1⟩ (dicO_ok hS ?_ raw (by rw [Array.toList_push]; exact ep2)), r2, q2 g1 (_, _, _) (by rw [hw])⟩
    rw [List.length_append, rd.length, List.length_map]; simp; omega
end
end WW
namespace WW
open PySem PySem.Spec PyProof.Rows L2 L2.DX
section
variable {κ : Ctx} {C : Cl} {w : Nat} {X : Cx} {Gd : Hp} {A : Nat → List Addr} {r : Env} {g : G} {σ : L2.St} {H : Hp} {F : Fz} {i : Nat}
theorem dicO_nt {a : Addr} {es : DS} (ps : Array Value) : DicO a es ≠ .tbl ps := fun z => by unfold DicO at z; cases z
/-- a dict of lists, or an empty one -/
theorem R.dclOf (q : R κ Gd A r g σ H F) {d : D} {l : List (D × List D)} (hd : r[i]? = some (some (d, true))) (hl : lnew d = some l) :
    ∃ (a : Addr) (es : DS) (bs : List Addr), σ[i]? = some (some (.ref a)) ∧ H a = some (DicO a es) ∧ RepE κ H F es.1 bs l ∧ A i = a :: bs ∧ (a :: bs).Nodup ∧ DWf (kvl l) := by
  unfold lnew at hl
  split at hl
  · cases hl
    obtain ⟨a, es, h1, h2, h3, h4, h5, _⟩ := q.mutD hd
    have : es.1 = [] := by cases z : es.1 with
      | nil => rfl
      | cons _ _ => rw [z] at h3; cases h3
    exact ⟨a, es, [], h1, h2, by rw [this]; exact .nil, h5, by simp, .nil⟩
  · cases hl
    obtain ⟨a, h1, es, bs, h2, h3, h4, h5, h6⟩ := q.ow i _ hd
    exact ⟨a, es, bs, h1, h4, h5, h2, by rw [← h2]; exact h3, h6⟩
  · cases hl
theorem st_sapp {x : Str} {k0 e : Expr} {k' e' : E} {p apos cpos apos2 cpos2 lp pos : Pos} (xc : XC κ X) (hN : X.N[i]? = some x) (hv : Vis X.env.scope x) (hd : (x == ("__debug__" : Str)) = false) (hcd : (x == ("__classdict__" : Str)) = false)
    (hk : PE X k0 (tV κ C k')) (hsk : nStar k0 = true) (he : PE X e (tV κ C e')) (hs : nStar e = true) (hl : (apos.endLine == cpos.line) = true) (hl2 : (apos2.endLine == cpos2.line) = true) :
    PS X (.Expr (.Call (.Attribute (.Call (.Attribute (.Name x p) "setdefault" apos) [k0, .List [] lp] [] cpos) "append" apos2) [e] [] cpos2) pos) (tSt κ C w (.sapp i k' e')) :=
  (ps_expr (pe_m F.plainAttrs_list F.slot_list_append F.type_list_append mt_append
    (pe_m F.plainAttrs_dict F.slot_dict_setdefault F.type_dict_setdefault (m_setE xc.K xc.w xc.hu) (pe_var hN hv hd hcd) (pa_cons hk (pa_cons (pe_lst pa_nil) pa_nil rfl) (starEach_cons hsk [.List [] lp] X.env)) (attrBase rfl _ _ _) (few1 (by rw [List.all_cons, hsk]; rfl) (by simp) _ _) hl (starEach_cons hsk [.List [] lp] X.env) (star_plain hsk rfl _ _))
    (pa_cons he pa_nil (starEach_cons hs [] X.env)) (attrBase rfl _ _ _) (few1 (by simp [hs]) (by simp) _ _) hl2 (starEach_cons hs [] X.env) rfl) rfl).imp fun D σ H q => by
    obtain ⟨Gd, A, r, g, F, o, q, h, k⟩ := q
    simp only [evS, Option.bind_eq_some_iff] at h
    obtain ⟨d0, h0, ⟨xk, f1, s1⟩, h1, d, h2, h3⟩ := h
    dsimp only at h3
    split at h3
    rotate_left
    · cases h3
    rename_i l0 l e0 e1
    split at h3
    rotate_left
    · cases h3
    rename_i hkl
    simp only [Option.bind_eq_some_iff, Option.map_eq_some_iff] at h3
    obtain ⟨⟨vd, f2, s2⟩, h4, l', h5, h6⟩ := h3
    cases h6
    obtain ⟨a, es0, bs0, a1, a2, _⟩ := q.dclOf (of_owned h0) e0
    refine ⟨_, a1, ty_dic a2, tV.op q (toE_some h1) fun v1 H1 F1 A1 g1 q1 o1 => ⟨show 0 ≤ sizeLine by decide, fun b0 n0 => ?_⟩⟩
    have o1 : Rep κ F1 v1 xk := o1
    obtain ⟨a', es, bs, b1, b2, b3, b4, b5, b6⟩ := q1.dclOf (of_owned h2) e1
    rw [a1] at b1
    cases b1
    have hbs : ∀ b ∈ bs, H1 b ≠ none ∧ F1.m b = none := fun b hb => by
      have ow := q1.oa i _ b (of_owned h2) (by rw [b4]; exact List.mem_cons_of_mem _ hb)
      obtain ⟨o, ho, _⟩ := ow.h
      exact ⟨by rw [ho]; simp, ow.f⟩
    have na : a ≠ b0 := fun z => by rw [z, n0] at b2; cases b2
    have nb : b0 ∉ bs := fun z => (hbs b0 z).1 n0
    have keep1 : ∀ b o, H1 b = some o → upd H1 b0 (.lst []) b = some o := fun b o h => by rw [upd_ne fun z => by rw [z, n0] at h; cases h]; exact h
    have hke : kOk (kvl l) xk = true := by rw [kOk_kvl]; exact hkl.1
    have kk : keyOk 8 xk = true := kOk_key hke
    have okl : ∀ p ∈ l, keyOk 8 p.1 = true := fun p hp => b6.ok (p.1, .lst p.2) (List.mem_map.mpr ⟨p, hp, rfl⟩)
    -- what follows, once the list stands at b
    have fin : ∀ (H' : Hp) (es1 : DS) (bs1 : List Addr) (b : Addr) (j : Nat), H' a = some (DicO a es1) → RepE κ H' F1 es1.1 bs1 (lput0 l xk) → (a :: bs1).Nodup → DWf (kvl (lput0 l xk)) → at_ ((lput0 l xk).map fun p => keyN p.1) (keyN xk) = some j → bs1[j]? = some b →
        R κ Gd (fun m => if m = i then a :: bs1 else A1 m) (s1.r.set i (some (.dcl (lput0 l xk), true))) s1.g σ H' F1 →
        TyI X "list" (.ref b) H' ∧ tCons (tV κ C e') tNil σ H' fun xs H2 => rAppend (.ref b) xs H2 fun _ H3 => D.nx σ H3 := fun H' es1 bs1 b j c1 c2 c3 c4 c5 c6 q2 => by
      have hi : i < s1.r.length := by
        have := of_owned h2
        exact (List.getElem?_eq_some_iff.mp this).1
      have hget : (s1.r.set i (some (WW.D.dcl (lput0 l xk), true)))[i]? = some (some (WW.D.dcl (lput0 l xk), true)) := List.getElem?_set_self hi
      obtain ⟨qp, back⟩ := q2.park hget
      rw [List.set_set] at qp
      have hbm : b ∈ bs1 := List.mem_of_getElem? c6
      refine ⟨?_, tV.op qp (toE_some h4) fun v2 H3 F3 A3 g3 q3 o3 => ?_⟩
      · obtain ⟨h, kx, hb⟩ := c2.at c6
        have hlst : ∃ xs, H' b = some (.lst xs) := by
          have gen : ∀ {es : List (Int × V × V)} {bs : List Addr} {l : List (WW.D × List WW.D)}, RepE κ H' F1 es bs l → ∀ b ∈ bs, ∃ xs, H' b = some (.lst xs) := by
            intro es bs l re
            induction re with
            | nil => intro b hb; simp at hb
            | cons p q c t ih =>
              intro b hb
              rcases List.mem_cons.mp hb with z | z
              · rw [z]; exact ⟨_, q⟩
              · exact ih b z
          exact gen c2 b hbm
        obtain ⟨xs, hx⟩ := hlst
        intro pins σ s v I r
        cases r
        obtain ⟨_, its, n, _, hh⟩ := (show ObjOk X.prog X.w H' s.heap b (.lst xs) from I.hok b _ hx)
        exact ⟨⟨_, hh, rfl⟩, fun b e => by cases e; exact ⟨_, hh, rfl⟩⟩
      · obtain ⟨gr, same, q4⟩ := back A3 s2.r s2.g H3 F3 g3 q3
        simp only [if_true] at same
        have o3 : Rep κ F3 v2 vd := o3
        have re3 : RepE κ H3 F3 es1.1 bs1 (lput0 l xk) := c2.keepIn gr.le fun b' hb' o ho => (same b' (List.mem_cons_of_mem _ hb')).trans ho
        obtain ⟨j', b', xs, d1, d2, d3, d4, d5⟩ := re3.app kk o3 (List.nodup_cons.mp c3).2 (fun p hp => c4.ok (p.1, .lst p.2) (List.mem_map.mpr ⟨p, hp, rfl⟩)) h5
        rw [c5] at d1
        cases d1
        rw [c6] at d2
        cases d2
        refine ⟨b, xs, v2, rfl, rfl, d3, d4, ?_⟩
        have hi2 : i < s2.r.length := by
          have h1 := q3.len
          have h2 := qp.len
          rw [List.length_set] at h2
          omega
        have hg4 : (s2.r.set i (some (WW.D.dcl (lput0 l xk), true)))[i]? = some (some (WW.D.dcl (lput0 l xk), true)) := List.getElem?_set_self hi2
        have nab : a ≠ b := fun z => (List.nodup_cons.mp c3).1 (by rw [z]; exact hbm)
        have q5 := q4.mutX (H' := upd H3 b (.lst (xs ++ [v2]))) (e := .dcl l') (as := a :: bs1) (a := a) hg4 (fun c o hc ho => by
          simp only [if_true] at hc
          rw [upd_ne fun z => hc (by rw [z]; exact List.mem_cons_of_mem _ hbm)]; exact ho) a1 ⟨es1, bs1, rfl, c3, by rw [upd_ne nab]; exact (same a (by simp)).trans c1, d5, ?_⟩ fun c hc => ⟨.inl (by simp only [if_true]; exact hc), ?_⟩
        · rw [List.set_set] at q5
          exact k σ _ F3 _ (g1.trans gr) q5
        · refine c4.keys ?_
          rw [List.map_map, List.map_map]
          exact lapp_keys h5
        · by_cases z : c = b
          · subst z; exact ⟨_, upd_same, fun ps => nofun⟩
          · rw [upd_ne z]
            obtain ⟨o, ho, nt⟩ := (q4.oa i _ c hg4 (by simp only [if_true]; exact hc)).h
            exact ⟨o, ho, nt⟩
    have lp := lput0_at okl kk
    refine ⟨a, v1, b0, F1, es, bs, l, xk, rfl, rfl, fun b o h => keep1 b o (q1.fk b o h), keep1 a _ b2, b3.keepIn .rfl fun b hb o ho => keep1 b o ho, fun b hb => (hbs b hb).2, b6, o1, hke, hkl.2, fun j b g1' g2' => ?_, fun gn es' he' => ?_⟩
    · rw [kns_kvl] at g1'
      rw [g1'] at lp
      simp only [Option.isSome_some, if_true] at lp
      have q2 := q1.mutX (H' := upd H1 b0 (.lst [])) (e := .dcl l) (as := a :: bs) (a := a) (of_owned h2) (fun c o _ ho => keep1 c o ho) a1 ⟨es, bs, rfl, b5, keep1 a _ b2, b3.keepIn .rfl fun b hb o ho => keep1 b o ho, b6⟩ fun c hc => ⟨.inl (by rw [b4]; exact hc), by
        obtain ⟨o, ho, nt⟩ := (q1.oa i _ c (of_owned h2) (by rw [b4]; exact hc)).h
        exact ⟨o, keep1 c o ho, nt⟩⟩
      exact fin _ es bs b j (keep1 a _ b2) (by rw [lp]; exact b3.keepIn .rfl fun b hb o ho => keep1 b o ho) b5 (by rw [lp]; exact b6) (by rw [lp]; exact g1') g2' (by rw [lp]; exact q2)
    · rw [kns_kvl] at gn
      rw [gn] at lp
      simp only [Option.isSome_none, Bool.false_eq_true, if_false] at lp
      have keep2 : ∀ c o, c ≠ a → H1 c = some o → upd (upd H1 b0 (.lst [])) a (DicO a es') c = some o := fun c o n h => by rw [upd_ne n]; exact keep1 c o h
      have abs : ∀ b ∈ bs, b ≠ a := fun b hb z => (List.nodup_cons.mp b5).1 (by rw [← z]; exact hb)
      have reN : RepE κ (upd (upd H1 b0 (.lst [])) a (DicO a es')) F1 es'.1 (bs ++ [b0]) (l ++ [(xk, [])]) := by
        rw [he']
        refine RepE.push o1 ?_ (b3.keepIn .rfl fun b hb o ho => keep2 b o (abs b hb) ho)
        rw [upd_ne (Ne.symm na), upd_same]
      have ndN : (a :: (bs ++ [b0])).Nodup := by
        rw [List.nodup_cons] at b5 ⊢
        refine ⟨fun z => ?_, ?_⟩
        · rcases List.mem_append.mp z with z | z
          · exact b5.1 z
          · exact na (by simpa using z)
        · rw [List.nodup_append]
          exact ⟨b5.2, by simp, fun x hx y hy e => nb (by simp at hy; rw [← hy, ← e]; exact hx)⟩
      have wfN : DWf (kvl (l ++ [(xk, [])])) := by
        unfold kvl
        rw [List.map_append]
        exact b6.push hke (by rw [kns_kvl]; exact gn)
      have q2 := q1.mutX (H' := upd (upd H1 b0 (.lst [])) a (DicO a es')) (e := .dcl (l ++ [(xk, [])])) (as := a :: (bs ++ [b0])) (a := a) (of_owned h2) (fun c o hc ho => keep2 c o (fun z => hc (by rw [b4, z]; simp)) ho) a1 ⟨es', bs ++ [b0], rfl, ndN, upd_same, reN, wfN⟩ fun c hc => by
        rcases List.mem_cons.mp hc with z | z
        · rw [z]; exact ⟨.inl (by rw [b4]; simp), _, upd_same, dicO_nt⟩
        · rcases List.mem_append.mp z with z | z
          · obtain ⟨o, ho, nt⟩ := (q1.oa i _ c (of_owned h2) (by rw [b4]; exact List.mem_cons_of_mem _ z)).h
            exact ⟨.inl (by rw [b4]; exact List.mem_cons_of_mem _ z), o, keep2 c o (abs c z) ho, nt⟩
          · have : c = b0 := by simpa using z
            rw [this]
            exact ⟨.inr n0, .lst [], by rw [upd_ne (Ne.symm na), upd_same], fun ps => nofun⟩
      refine fin _ es' (bs ++ [b0]) b0 l.length upd_same (by rw [lp]; exact reN) ndN (by rw [lp]; exact wfN) ?_ ?_ (by rw [lp]; exact q2)
      · rw [lp, List.map_append]
        unfold at_ at gn ⊢
        rw [List.findIdx?_append, gn]
        simp
      · have := b3.len.1
        rw [List.getElem?_append_right (by omega), this]
        simp
end
end WW
end
section
set_option maxHeartbeats 1000000
/-! list(zip(xs, ys)) of two lists -/
namespace WW
open PySem PySem.Spec PySem.Calls PySem.W PyProof.Rows PyProof.V
/-- how far a zip of two lists has come, while a list at S is filled -/
structure ZS (z TI TO i1 i2 l1 l2 S : Addr) (xs ys : Array Value) (i : Nat) (h : Heap) : Prop where
  ti : IsPair h TI (.ref i1) (.ref i2)
  h1 : h.IsListIter i1 l1 i
  h2 : h.IsListIter i2 l2 i
  q1 : h.IsList l1 xs
  q2 : h.IsList l2 ys
  hz : (IsZip h z TI TO .none ∧ ∃ u v, IsPair h TO u v) ∨ ∃ T f oT, IsZipHeld h z TI TO T f ∧ h.get? T = some oT ∧ T ≠ z ∧ T ≠ i1 ∧ T ≠ i2 ∧ T ≠ S
structure ZO (z TI TO i1 i2 l1 l2 S : Addr) : Prop where
  D : ZipApart z TI TO i1 i2 l1 l2
  z : z ≠ S
  TI : TI ≠ S
  TO : TO ≠ S
  i1 : i1 ≠ S
  i2 : i2 ≠ S
  l1 : l1 ≠ S
  l2 : l2 ≠ S
/-- the pairs made so far -/
structure ZG (xs ys : Array Value) (lo : Addr) (h : Heap) (as : List Addr) : Prop where
  rise : as.Pairwise (· < ·)
  above : ∀ a ∈ as, lo < a
  pairs : ∀ (j : Nat) (a : Addr), as[j]? = some a → ∃ x y, xs[j]? = some x ∧ ys[j]? = some y ∧ IsPair h a x y
section
variable {z TI TO i1 i2 l1 l2 S : Addr} {xs ys : Array Value} {i : Nat} {h h' : Heap}
theorem ZS.keep (q : ZS z TI TO i1 i2 l1 l2 S xs ys i h) (O : ZO z TI TO i1 i2 l1 l2 S) (k : ∀ b o, b ≠ S → h.get? b = some o → h'.get? b = some o) : ZS z TI TO i1 i2 l1 l2 S xs ys i h' := by
  refine ⟨k _ _ O.TI q.ti, q.h1.at fun o e => k _ o O.i1 e, q.h2.at fun o e => k _ o O.i2 e, q.q1.at fun o e => k _ o O.l1 e, q.q2.at fun o e => k _ o O.l2 e, ?_⟩
  rcases q.hz with ⟨a, u, v, b⟩ | ⟨T, f, oT, a, b, c1, c2, c3, c4⟩
  · exact .inl ⟨k _ _ O.z a, u, v, k _ _ O.TO b⟩
  · exact .inr ⟨T, f, oT, k _ _ O.z a, k _ _ c4 b, c1, c2, c3, c4⟩
theorem ZS.zip (q : ZS z TI TO i1 i2 l1 l2 S xs ys i h) : ∃ o, h.get? z = some o ∧ o.cls = .type "zip" := by
  rcases q.hz with ⟨a, _⟩ | ⟨T, f, oT, a, _⟩
  · exact ⟨_, a, rfl⟩
  · exact ⟨_, a, rfl⟩
theorem ZG.there {lo : Addr} {as : List Addr} (g : ZG xs ys lo h as) {a : Addr} (ha : a ∈ as) : a < h.objs.size := by
  obtain ⟨j, hj⟩ := List.mem_iff_getElem?.mp ha
  obtain ⟨_, _, _, _, e⟩ := g.pairs j a hj
  exact Heap.lt_size e
end
section
variable {prog : Program} {w : World} {A : Around} {E : Value → Shared → Prop} {s : Shared} {z TI TO i1 i2 l1 l2 S : Addr} {xs ys : Array Value} {i : Nat}
theorem zs_item {Q : Option Value → Shared → Prop} {x y : Value} (q : ZS z TI TO i1 i2 l1 l2 S xs ys i s.heap) (O : ZO z TI TO i1 i2 l1 l2 S) (hS : S < s.heap.objs.size) (hx : xs[i]? = some x) (hy : ys[i]? = some y)
    (hQ : ∀ h', ZS z TI TO i1 i2 l1 l2 S xs ys (i + 1) h' → IsPair h' s.heap.objs.size x y → h'.objs.size = s.heap.objs.size + 1 → Kp z TO i1 i2 s.heap h' → Q (some (.ref s.heap.objs.size)) { s with heap := h' }) :
    wpAny (model prog w) A (pyNext (.ref z)) Q E s := by
  have D := O.D
  have lt : ∀ {c o}, s.heap.get? c = some o → s.heap.objs.size ≠ c := fun e => Nat.ne_of_gt (Heap.lt_size e)
  have n1 : s.heap.objs.size ≠ i1 := by obtain ⟨_, e, _⟩ := q.h1; exact lt e
  have n2 : s.heap.objs.size ≠ i2 := by obtain ⟨_, e, _⟩ := q.h2; exact lt e
  have hq1 := q.q1
  have hq2 := q.q2
  rcases q.hz with ⟨hz, u, v, hTO⟩ | ⟨T, f, oT, hz, hT, r1, r2, r3, r4⟩
  · refine wpAny_pyNext_zip_item D hz q.ti hTO q.h1 q.h2 hq1 hq2 hx hy fun h' a1 a2 a3 a4 a5 a6 hk => hQ h' ⟨hk _ _ D.TIz D.TITO D.TIi1 D.TIi2 q.ti, a3, a4, hq1.at fun o e => hk _ o D.l1z D.l1TO D.l1i1 D.l1i2 e, hq2.at fun o e => hk _ o D.l2z D.l2TO D.l2i1 D.l2i2 e, .inr ?_⟩ a5 a6 hk
    exact ⟨s.heap.objs.size, false, _, a1, a5, lt hz, n1, n2, Nat.ne_of_gt hS⟩
  · refine wpAny_pyNext_zip_item_held D hz hT q.ti q.h1 q.h2 hq1 hq2 hx hy fun h' a1 a3 a4 a5 a6 hk => hQ h' ⟨hk _ _ D.TIz D.TIi1 D.TIi2 q.ti, a3, a4, hq1.at fun o e => hk _ o D.l1z D.l1i1 D.l1i2 e, hq2.at fun o e => hk _ o D.l2z D.l2i1 D.l2i2 e, .inr ?_⟩ a5 a6 fun c o c1 _ c3 c4 e => hk c o c1 c3 c4 e
    exact ⟨T, true, oT, a1, hk _ _ r1 r2 r3 hT, r1, r2, r3, r4⟩
theorem zs_done {Q : Option Value → Shared → Prop} (hh : A.handled = none) (q : ZS z TI TO i1 i2 l1 l2 S xs ys i s.heap) (O : ZO z TI TO i1 i2 l1 l2 S) (he : xs[i]? = none ∨ ys[i]? = none)
    (hQ : ∀ h', Kp z TO i1 i2 s.heap h' → Q none { s with heap := h' }) : wpAny (model prog w) A (pyNext (.ref z)) Q E s := by
  rcases q.hz with ⟨hz, u, v, hTO⟩ | ⟨T, f, oT, hz, hT, r1, r2, r3, r4⟩
  · exact wpAny_pyNext_zip_end hh O.D hz q.ti hTO q.h1 q.h2 q.q1 q.q2 he hQ
  · exact wpAny_pyNext_zip_end_held hh O.D hz hT q.ti q.h1 q.h2 q.q1 q.q2 he fun h' hk => hQ h' fun c o c1 _ c3 c4 e => hk c o c1 c3 c4 e
theorem zl_loop {R : Result → Shared → Prop} (hh : A.handled = none) (O : ZO z TI TO i1 i2 l1 l2 S) (lo : Addr) (hlo : z ≤ lo ∧ TO ≤ lo ∧ i1 ≤ lo ∧ i2 ≤ lo ∧ S ≤ lo) (n : Nat) (en : n = min xs.size ys.size) (hn : n ≤ sizeLine) (res : Value) {h₁ : Heap}
    (hR : ∀ h' tk acc c as, (∀ b o, b ≠ S → b ≠ z → b ≠ TO → b ≠ i1 → b ≠ i2 → h₁.get? b = some o → h'.get? b = some o) → h'.get? S = some { cls := .type "list", dict := none, data := .seq acc c, slots := #[] } → as.length = n → ZG xs ys lo h' as → acc.toList = as.map Value.ref → R (.ok (.ret res)) { s with heap := h', toks := tk }) :
    ∀ (k i : Nat) (h : Heap) (tk c : Nat) (acc : Array Value) (as : List Addr), n - i = k → i ≤ n → ZS z TI TO i1 i2 l1 l2 S xs ys i h → (∀ b o, b ≠ S → b ≠ z → b ≠ TO → b ≠ i1 → b ≠ i2 → h₁.get? b = some o → h.get? b = some o) →
      h.get? S = some { cls := .type "list", dict := none, data := .seq acc c, slots := #[] } → acc.toList = as.map Value.ref → as.length = i → ZG xs ys lo h as → lo < h.objs.size →
      codeAny (model prog w) A (.builtin "list.extend.loop" ⟨[.ref S, .ref z, res], []⟩) R { s with heap := h, toks := tk } := by
  intro k
  induction k with
  | zero =>
    intro i h tk c acc as hk hi st keep hS hacc hal hG hlt
    have hin : i = n := by omega
    refine codeAny_builtin PySem.F.entry_extend_loop ?_
    rw [Around.under_plainId PySem.F.plain_extend_loop _]
    show wpAny _ A.in1 (pyNext (.ref z) >>= _) _ _ _
    have he : xs[i]? = none ∨ ys[i]? = none := by
      rcases Nat.le_total xs.size ys.size with q | q
      · exact .inl (Array.getElem?_eq_none (by omega))
      · exact .inr (Array.getElem?_eq_none (by omega))
    refine wpAny_bind (zs_done (s := { s with heap := h, toks := tk }) (A := A.in1) hh st O he fun h' kp => wpAny_pure (hR h' tk acc c as (fun b o c1 c2 c3 c4 c5 e => kp b o c2 c3 c4 c5 (keep b o c1 c2 c3 c4 c5 e)) (kp S _ O.z.symm O.TO.symm O.i1.symm O.i2.symm hS) (by omega) ⟨hG.rise, hG.above, fun j a hj => ?_⟩ hacc))
    obtain ⟨x, y, e1, e2, e3⟩ := hG.pairs j a hj
    have ab := hG.above a (List.mem_of_getElem? hj)
    exact ⟨x, y, e1, e2, kp a _ (Nat.ne_of_gt (Nat.lt_of_le_of_lt hlo.1 ab)) (Nat.ne_of_gt (Nat.lt_of_le_of_lt hlo.2.1 ab)) (Nat.ne_of_gt (Nat.lt_of_le_of_lt hlo.2.2.1 ab)) (Nat.ne_of_gt (Nat.lt_of_le_of_lt hlo.2.2.2.1 ab)) e3⟩
  | succ k ih =>
    intro i h tk c acc as hk hi st keep hS hacc hal hG hlt
    have hlt1 : i < xs.size := by omega
    have hlt2 : i < ys.size := by omega
    have hsz : acc.size = i := by rw [← Array.length_toList, hacc, List.length_map, hal]
    refine codeAny_builtin PySem.F.entry_extend_loop ?_
    rw [Around.under_plainId PySem.F.plain_extend_loop _]
    show wpAny _ A.in1 (pyNext (.ref z) >>= _) _ _ _
    refine wpAny_bind (zs_item (s := { s with heap := h, toks := tk }) st O (Heap.lt_size hS) (Array.getElem?_eq_getElem hlt1) (Array.getElem?_eq_getElem hlt2) fun h' st' ht hz kp => ?_)
    dsimp only at ht hz kp ⊢
    have hS' := kp S _ O.z.symm O.TO.symm O.i1.symm O.i2.symm hS
    have up : ∀ b o, b ≠ S → h'.get? b = some o → (h'.update S (Obj.mapSeq (·.push (Value.ref h.objs.size)))).get? b = some o := fun b o hb e => (Heap.get?_update_other _ _ (Ne.symm hb)).trans e
    have hSl : S < h.objs.size := Heap.lt_size hS
    show wpAny _ A.in1 (updateSeq S (·.push (Value.ref h.objs.size)) >>= _) _ _ _
    refine wpAny_bind (wpAny_updateSeq hS' rfl (wpAny_pure ⟨plainId_quiet PySem.F.plain_extend_loop _, ih (i + 1) _ tk _ (acc.push (Value.ref h.objs.size)) (as ++ [h.objs.size]) (by omega) (by omega) (st'.keep O up)
      (fun b o c1 c2 c3 c4 c5 e => up b o c1 (kp b o c2 c3 c4 c5 (keep b o c1 c2 c3 c4 c5 e))) (Heap.get?_update_self _ hS' rfl) (by rw [Array.toList_push, hacc, List.map_append]; rfl) (by rw [List.length_append, hal]; rfl) ⟨?_, ?_, ?_⟩ ?_⟩) (by rw [hsz]; omega) (by show (acc.push (Value.ref h.objs.size)).size ≤ sizeLine + 1; rw [Array.size_push, hsz]; omega))
    · refine List.pairwise_append.mpr ⟨hG.rise, List.pairwise_singleton _ _, fun a ha b hb => ?_⟩
      rw [List.mem_singleton.mp hb]
      exact hG.there ha
    · intro a ha
      rcases List.mem_append.mp ha with ha | ha
      · exact hG.above a ha
      · rw [List.mem_singleton.mp ha]; exact hlt
    · intro j b hj
      rcases Nat.lt_trichotomy j as.length with h1 | h1 | h1
      · rw [List.getElem?_append_left h1] at hj
        obtain ⟨x', y', e1, e2, e3⟩ := hG.pairs j b hj
        have hb := hG.above b (List.mem_of_getElem? hj)
        exact ⟨x', y', e1, e2, up b _ (Nat.ne_of_gt (Nat.lt_of_le_of_lt hlo.2.2.2.2 hb)) (kp b _ (Nat.ne_of_gt (Nat.lt_of_le_of_lt hlo.1 hb)) (Nat.ne_of_gt (Nat.lt_of_le_of_lt hlo.2.1 hb)) (Nat.ne_of_gt (Nat.lt_of_le_of_lt hlo.2.2.1 hb)) (Nat.ne_of_gt (Nat.lt_of_le_of_lt hlo.2.2.2.1 hb)) e3)⟩
      · subst h1
        have hb : h.objs.size = b := by simpa using hj
        subst hb
        exact ⟨_, _, by rw [hal]; exact Array.getElem?_eq_getElem hlt1, by rw [hal]; exact Array.getElem?_eq_getElem hlt2, up _ _ (Nat.ne_of_gt hSl) ht⟩
      · rw [List.getElem?_eq_none (by rw [List.length_append, List.length_singleton]; omega)] at hj
        cases hj
    · have e := up _ _ (Nat.ne_of_gt hSl) ht
      exact Nat.lt_trans hlt (Heap.lt_size e)
end
theorem zl_len : typeLookup (.type "zip") "__len__" = pure none := am_miss_of_fast (by decide +kernel)
theorem zl_hint0 : typeLookup (.type "zip") "__length_hint__" = pure none := am_miss_of_fast (by decide +kernel)
section
variable {prog : Program} {w : World} {A : Around} {E : Value → Shared → Prop} {s : Shared} {z TI TO i1 i2 l1 l2 S : Addr} {xs ys : Array Value}
theorem zl_hint (hT : s.TypeIs (.ref z) "zip") {Q : Bool → Shared → Prop} (h : Q true s) : wpAny (model prog w) A (Builtin.List.listLengthHint (.ref z)) Q E s := by
  unfold Builtin.List.listLengthHint
  refine wpAny_bind (wpAny_specialOf hT zl_len ?_)
  show wpAny _ _ (specialOf (Value.ref z) (Str.ofString "__length_hint__") >>= _) _ _ _
  exact wpAny_bind (wpAny_specialOf hT zl_hint0 (wpAny_pure h))
theorem zl_init {R : Result → Shared → Prop} (hh : A.handled = none) (O : ZO z TI TO i1 i2 l1 l2 S) (st : ZS z TI TO i1 i2 l1 l2 S xs ys 0 s.heap) (hlo : z ≤ S ∧ TO ≤ S ∧ i1 ≤ S ∧ i2 ≤ S) (hS : s.heap.get? S = some { cls := .type "list", data := .seq #[] }) (hn : min xs.size ys.size ≤ sizeLine)
    (hR : ∀ h' tk acc c as, (∀ b o, b ≠ S → b ≠ z → b ≠ TO → b ≠ i1 → b ≠ i2 → s.heap.get? b = some o → h'.get? b = some o) → h'.get? S = some { cls := .type "list", dict := none, data := .seq acc c, slots := #[] } → as.length = min xs.size ys.size → ZG xs ys S h' as → acc.toList = as.map Value.ref → R (.ok (.ret .none)) { s with heap := h', toks := tk }) :
    wpAny (model prog w) A.in1 (Builtin.«list.__init__» ⟨[.ref S, .ref z], []⟩)
      (fun fin s' => match fin with | .done f => R (.ok f) s' | .again c' => c'.quiet = true ∧ codeAny (model prog w) A c' R s') (fun e s' => R (.error e) s') s := by
  show wpAny _ _ (do let old ← Builtin.List.listItems (.ref S); Builtin.List.listUpdate (.ref S) (fun _ => #[]); letGo old.toList.reverse; Builtin.List.listExtendWith (.ref S) (.ref z) .none) _ _ s
  refine wpAny_bind ?_
  unfold Builtin.List.listItems
  refine wpAny_bind (wpAny_seqItems hS rfl (wpAny_pure (show wpAny _ _ (updateSeq S (fun _ => #[]) >>= fun _ => letGo (#[] : Array Value).toList.reverse >>= fun _ => Builtin.List.listExtendWith (.ref S) (.ref z) .none) _ _ s from wpAny_bind (wpAny_updateSeq hS rfl (wpAny_bind (wpAny_letGo ?_))))))
  have hS₂ := Heap.get?_update_self (Obj.mapSeq (fun _ => (#[] : Array Value))) hS rfl
  have oth : ∀ b o, b ≠ S → s.heap.get? b = some o → (s.heap.update S (Obj.mapSeq (fun _ => (#[] : Array Value)))).get? b = some o := fun b o hb e => (Heap.get?_update_other _ _ (Ne.symm hb)).trans e
  have st₂ := st.keep O oth
  obtain ⟨oz, gz, cz⟩ := st₂.zip
  have key : ∀ (h : Heap) (c₁ tk : Nat), (∀ b o, b ≠ S → (s.heap.update S (Obj.mapSeq (fun _ => (#[] : Array Value)))).get? b = some o → h.get? b = some o) → h.get? S = some { cls := .type "list", data := .seq #[] c₁ } →
      codeAny (model prog w) A (.builtin "list.extend.loop" ⟨[.ref S, .ref z, .none], []⟩) R { s with heap := h, toks := tk } := fun h c₁ tk hk hS₁ =>
    zl_loop (s := s) (h₁ := s.heap) hh O S ⟨hlo.1, hlo.2.1, hlo.2.2.1, hlo.2.2.2, Nat.le_refl _⟩ _ rfl hn .none hR _ 0 h tk c₁ #[] [] (Nat.sub_zero _) (Nat.zero_le _) (st₂.keep O hk) (fun b o c1 _ _ _ _ e => hk b o c1 (oth b o c1 e)) hS₁ rfl rfl
      ⟨List.Pairwise.nil, (fun _ ha => nomatch ha), (fun j a hj => by simp at hj)⟩ (Heap.lt_size hS₁)
  unfold Builtin.List.listExtendWith
  refine wpAny_bind (wpAny_typeOf (T := "zip") ⟨oz, gz, cz⟩ ?_)
  have h1 : Builtin.List.listSameRef (.ref S) (.ref z) = false := by simp [Builtin.List.listSameRef, O.z.symm]
  have h2 : (Value.type "zip" == Value.type "list") = false := by decide
  have h3 : (Value.type "zip" == Value.type "tuple") = false := by decide
  simp only [h1, h2, h3, Bool.or_false, Bool.false_eq_true, if_false]
  have hzi : ∃ f0, (∃ sl f1, (s.heap.update S (Obj.mapSeq (fun _ => (#[] : Array Value)))).get? z = some { cls := .type "zip", dict := none, data := .fields #[f0, f1, .bool false, .ref TI, .ref TO], slots := sl }) := by
    rcases st₂.hz with ⟨a, _⟩ | ⟨T, f, oT, a, _⟩
    · exact ⟨_, _, _, a⟩
    · exact ⟨_, _, _, a⟩
  refine wpAny_bind (?_ : wpAny _ _ (pyIter (.ref z)) _ _ _)
  have hT : Shared.TypeIs { s with heap := s.heap.update S (Obj.mapSeq (fun _ => (#[] : Array Value))) } (.ref z) "zip" := ⟨oz, gz, cz⟩
  refine wpAny_pyIter_slot hT F.slot_zip_iter (wpAny_call_entry F.slot_zip_iter hT F.entry_zip_iter (show wpAny _ _ (ret (.ref z)) _ _ _ from wpAny_pure ⟨_, rfl, "zip", _, hT, F.slot_zip_next.lookup, ?_⟩) (F.args_zip_iter_1 _))
  refine wpAny_bind (wpAny_holding (zl_hint hT ?_))
  refine wpAny_ite_split (fun _ => ?_) (fun _ => wpAny_pure ⟨plainId_quiet PySem.F.plain_extend_loop _, key _ _ _ (fun b o _ e => e) hS₂⟩)
  refine wpAny_bind (wpAny_rule (wpAny_bind (show wpAny _ _ (updateSeq S (·.push .none) >>= fun _ => updateSeq S (·.pop)) _ _ _ from wpAny_bind (wpAny_updateSeq hS₂ rfl ?_))))
  have hS₃ := Heap.get?_update_self (Obj.mapSeq (·.push Value.none)) hS₂ rfl
  refine wpAny_updateSeq (hz := by seq_fits) hS₃ rfl (wpAny_pure ⟨plainId_quiet PySem.F.plain_extend_loop _, key _ _ _ (fun b o hb e => ?_) (Heap.get?_update_self (Obj.mapSeq (·.pop)) hS₃ rfl)⟩)
  exact (Heap.get?_update_other _ _ (Ne.symm hb)).trans ((Heap.get?_update_other _ _ (Ne.symm hb)).trans e)
theorem zl_call {Q : Value → Shared → Prop} (hh : A.handled = none) (D : ZipApart z TI TO i1 i2 l1 l2) (hz : IsZip s.heap z TI TO .none) (hTI : IsPair s.heap TI (.ref i1) (.ref i2)) (hTO : ∃ u v, IsPair s.heap TO u v) (h1 : s.heap.IsListIter i1 l1 0) (h2 : s.heap.IsListIter i2 l2 0) (q1 : s.heap.IsList l1 xs) (q2 : s.heap.IsList l2 ys)
    (hn : min xs.size ys.size ≤ sizeLine)
    (hQ : ∀ h' tk acc c as, (∀ b o, b ≠ z → b ≠ TO → b ≠ i1 → b ≠ i2 → s.heap.get? b = some o → h'.get? b = some o) → h'.get? s.heap.objs.size = some { cls := .type "list", dict := none, data := .seq acc c, slots := #[] } → as.length = min xs.size ys.size → ZG xs ys s.heap.objs.size h' as →
      acc.toList = as.map Value.ref → Q (.ref s.heap.objs.size) { s with heap := h', toks := tk }) : wpAny (model prog w) A (call (.type "list") [.ref z]) Q E s := by
  refine callType_codes (Q₁ := fun obj s₁ => obj = .ref s.heap.objs.size ∧ s₁ = { s with heap := s.heap.push { cls := .type "list", data := .seq #[] } }) PySem.F.called_list (PySem.F.typeCall_list_1 _) PySem.F.entry_list_init (code_list_new _ ⟨rfl, rfl⟩) fun obj s₁ hs => ?_
  obtain ⟨rfl, rfl⟩ := hs
  have hS : (s.heap.push { cls := .type "list", data := .seq #[] }).get? s.heap.objs.size = some { cls := .type "list", data := .seq #[] } := Heap.get?_push_size _ rfl
  have lz := Heap.lt_size hz
  have lTI := Heap.lt_size hTI
  obtain ⟨u, v, hTO⟩ := hTO
  have lTO := Heap.lt_size hTO
  have li1 : i1 < s.heap.objs.size := by obtain ⟨_, e, _⟩ := h1; exact Heap.lt_size e
  have li2 : i2 < s.heap.objs.size := by obtain ⟨_, e, _⟩ := h2; exact Heap.lt_size e
  have ll1 : l1 < s.heap.objs.size := by obtain ⟨_, e, _⟩ := q1; exact Heap.lt_size e
  have ll2 : l2 < s.heap.objs.size := by obtain ⟨_, e, _⟩ := q2; exact Heap.lt_size e
  refine ⟨⟨_, hS, rfl⟩, PySem.F.args_list_init_2 _ _, zl_init (A := A.in1) (xs := xs) (ys := ys) hh ⟨D, Nat.ne_of_lt lz, Nat.ne_of_lt lTI, Nat.ne_of_lt lTO, Nat.ne_of_lt li1, Nat.ne_of_lt li2, Nat.ne_of_lt ll1, Nat.ne_of_lt ll2⟩
    ⟨Heap.get?_push_of_some _ hTI, h1.at fun o e => Heap.get?_push_of_some _ e, h2.at fun o e => Heap.get?_push_of_some _ e, q1.push _, q2.push _, .inl ⟨Heap.get?_push_of_some _ hz, u, v, Heap.get?_push_of_some _ hTO⟩⟩ ⟨Nat.le_of_lt lz, Nat.le_of_lt lTO, Nat.le_of_lt li1, Nat.le_of_lt li2⟩ hS hn fun h' tk acc c as hk hS' hl hG hacc => ⟨rfl, ?_⟩⟩
  exact hQ h' tk acc c as (fun b o c2 c3 c4 c5 e => hk b o (Nat.ne_of_lt (Heap.lt_size e)) c2 c3 c4 c5 (Heap.get?_push_of_some _ e)) hS' hl hG hacc
end
end WW
end
section
set_option maxHeartbeats 1000000
/-! list(range(n)), list(zip(xs, ys)) -/
namespace WW
open PySem PySem.Spec PyProof.Rows L2 L2.DX
section
variable {κ : Ctx} {C : Cl} {X : Cx} {e e2 : Expr} {e' e2' : E} {pos p pos2 p2 : Pos}
theorem rg_rep {F : Fz} (n : Int) : RepL κ F (rgV 0 n) ((List.range n.toNat).map fun (m : Nat) => D.int (m : Int)) := by
  have gen : ∀ l : List Nat, RepL κ F (l.map fun (i : Nat) => V.int (0 + (i : Int))) (l.map fun (m : Nat) => D.int (m : Int)) := by
    intro l
    induction l with
    | nil => exact .nil
    | cons a l ih =>
      rw [List.map_cons, List.map_cons, Int.zero_add]
      exact .cons (.int _) ih
  unfold rgV
  rw [Int.sub_zero]
  exact gen _
theorem sn_rng (xc : XC κ X) (hg : Gl X "list") (hm : κ.mg "list" = none) (hg2 : Gl X "range") (hm2 : κ.mg "range" = none) (he : PE X e (tV κ C e')) (hs : nStar e = true) :
    PE X (.Call (.Name "list" p) [.Call (.Name "range" p2) [e] [] pos2] [] pos) (tV κ C (.u .rng e')) :=
  (pe_listRg xc.calm hg (by rw [xc.mg]; exact hm) (prg_1 hg2 (by rw [xc.mg]; exact hm2) he (starEach_cons hs [] X.env)) rfl).imp fun σ H Q q => by
    obtain ⟨Gd, A, r, g, F, t, f, st, q, h, k⟩ := q
    simp only [ev, Option.bind_eq_some_iff, Option.map_eq_some_iff, ok] at h
    obtain ⟨⟨t1, f1, s1⟩, h1, d, h3, ⟨z, f'⟩, h5, h6⟩ := h
    cases h6
    refine tV.op q h1 fun v1 H1 F1 A1 g1 q1 o1 => ?_
    have ro := rsl_ro q1 o1 .rfl h3
    simp only [uF] at h5
    split at h5
    · rename_i n
      split at h5
      · rename_i hn
        cases h5
        refine ⟨n, ro.int, ⟨by decide, by decide, by omega, by omega, by omega⟩, fin_lst' q1 g1 (rg_rep n) k⟩
      · cases h5
    · cases h5
/-- pairs laid behind one another are tracked -/
theorem zip_take {X : Cx} {pins : List (Addr × Obj)} {σ : L2.St} {H H1 : Hp} {s : Shared} {F : Fz} {h' : Heap} {tk : Nat} {xs ys : List V} {us vs : List Value} {l m : List D} {lo : Addr} {as : List Addr} (I0 : L2.Inv X pins σ H s) (I1 : L2.Inv X pins σ H1 { s with heap := h', toks := tk }) (k : Fk F H1)
    (q : RepL κ F xs l) (q2 : RepL κ F ys m) (rx : Vals xs us) (ry : Vals ys vs) (hl : as.length = min us.length vs.length) (g : ZG us.toArray vs.toArray lo h' as) (hlo : s.heap.objs.size ≤ lo) (hn : ∀ a ∈ as, H1 a = none) :
    ∃ H2 F2, L2.Inv X pins σ H2 { s with heap := h', toks := tk } ∧ Pure H1 F H2 F2 ∧ RepL κ F2 (as.map V.ref) (zip2 l m) ∧ ∀ b, b ∉ as → F2.m b = F.m b := by
  have nd : as.Nodup := List.Pairwise.imp (fun h => Nat.ne_of_lt h) g.rise
  have lx := rx.length
  have ly := ry.length
  obtain ⟨H2, I2, ext, ht⟩ := takeT (P := fun a w => ∃ j x y, as[j]? = some a ∧ xs[j]? = some x ∧ ys[j]? = some y ∧ w = [x, y]) I0 as H1 I1 nd fun a ha => by
    obtain ⟨j, hj⟩ := List.mem_iff_getElem?.mp ha
    obtain ⟨u, v, e1, e2, e3⟩ := g.pairs j a hj
    have hjl := (List.getElem?_eq_some_iff.mp hj).1
    have hx : xs[j]? = some (xs[j]'(by omega)) := List.getElem?_eq_getElem _
    have hy : ys[j]? = some (ys[j]'(by omega)) := List.getElem?_eq_getElem _
    obtain ⟨u', hu, ru⟩ := rx.get hx
    obtain ⟨v', hv, rv⟩ := ry.get hy
    have e1 : us[j]? = some u := by simpa using e1
    have e2 : vs[j]? = some v := by simpa using e2
    rw [e1] at hu
    rw [e2] at hv
    cases hu
    cases hv
    exact ⟨Nat.le_trans hlo (Nat.le_of_lt (g.above a ha)), hn a ha, [_, _], ⟨j, _, _, hj, hx, hy, rfl⟩, fun H2 => ⟨by rw [sizeLine_eq]; simp, [u, v], .cons ru (.cons rv .nil), ⟨_, e3, rfl, _, rfl⟩⟩⟩
  have fn : ∀ a ∈ as, F.m a = none := fun a ha => by
    cases z : F.m a with
    | none => rfl
    | some u => exact absurd (k _ _ z) (by rw [hn a ha]; simp)
  refine ⟨H2, F.add as H2, I2, ⟨ext, add_le fn, add_fk fun b o z => ext b o (k b o z), rfl, rfl, fun b hb => hn b (add_only hb)⟩, ?_, fun b hb => add_out hb⟩
  have go : ∀ (as' : List Addr) (xs' ys' : List V) (l' m' : List D), RepL κ F xs' l' → RepL κ F ys' m' → as'.length = min l'.length m'.length → (∀ (i : Nat) (a : Addr), as'[i]? = some a → a ∈ as ∧ ∃ x y, xs'[i]? = some x ∧ ys'[i]? = some y ∧ H2 a = some (.tup [x, y])) → RepL κ (F.add as H2) (as'.map V.ref) (zip2 l' m') := by
    intro as'
    induction as' with
    | nil =>
      intro xs' ys' l' m' r1 r2 hlen _
      cases r1 with
      | nil => exact .nil
      | cons _ _ => cases r2 with
        | nil => exact .nil
        | cons _ _ => simp at hlen
    | cons a as' ih =>
      intro xs' ys' l' m' r1 r2 hlen h
      cases r1 with
      | nil => simp at hlen
      | cons p1 p2 => cases r2 with
        | nil => simp at hlen
        | cons p3 p4 =>
          obtain ⟨ha, x, y, e1, e2, e3⟩ := h 0 a rfl
          simp only [List.getElem?_cons_zero, Option.some.injEq] at e1 e2
          subst e1 e2
          refine .cons (.tup (.inl (.inl ((add_in ha).trans e3))) (.cons (p1.le (add_le fn)) (.cons (p3.le (add_le fn)) .nil))) (ih _ _ _ _ p2 p4 (by simp at hlen; omega) fun i a' ha' => ?_)
          have := h (i + 1) a' (by simpa using ha')
          simpa using this
  refine go as xs ys l m q q2 (by rw [← q.length, ← q2.length]; omega) fun i a ha => ⟨List.mem_of_getElem? ha, ?_⟩
  obtain ⟨w, ⟨j, x, y, h1, h2, h3, rfl⟩, h4⟩ := ht a (List.mem_of_getElem? ha)
  have : i = j := by
    obtain ⟨hi, ei⟩ := List.getElem?_eq_some_iff.mp ha
    obtain ⟨hj, ej⟩ := List.getElem?_eq_some_iff.mp h1
    exact (List.getElem_inj nd).mp (ei.trans ej.symm)
  subst this
  exact ⟨x, y, h2, h3, h4⟩
/-- list(zip(..)) -/
def rZl (κ : Ctx) : List V → Hp → VK → Prop := fun vs H Q => ∃ (a b : Addr) (F : Fz) (xs ys : List V) (l m : List D), vs = [.ref a, .ref b] ∧ Fk F H ∧ H a = some (.lst xs) ∧ RepL κ F xs l ∧ H b = some (.lst ys) ∧ RepL κ F ys m ∧ l.length ≤ sizeLine ∧ ∀ v H' F', Pure H F H' F' → VP κ H H' F' v (.lst (zip2 l m)) true → Q v H'
theorem pe_zl {ta : TA} (hK : X.K = κ.K) (hc : X.calm = true) (hg : Gl X "list") (hm : X.mg "list" = none) (hg2 : Gl X "zip") (hm2 : X.mg "zip" = none) (ha : PA X [e, e2] ta)
    (hs : starEach [e, e2] X.env = (false, eval e X.env) :: starEach [e2] X.env) (hpl : (backTo pos2 (starEach [e2] X.env)).any (·.1) = false) :
    PE X (.Call (.Name "list" p) [.Call (.Name "zip" p2) [e, e2] [] pos2] [] pos) (fun σ H Q => ta σ H fun vs H1 => rZl κ vs H1 Q) := by
  refine ⟨fun pins s σ H Q I h => ?_⟩
  refine Call_ (ld_blt I hg hm boot_list (PyProof.Rows.callWith_type1 (args_cons (Call_ (ld_blt I hg2 hm2 PyProof.Rows.boot_zip (PyProof.Rows.callWith_type1 (thn (ha.run pos2 pins s σ H _ I h) fun us s1 ⟨vs, H1, I1, r1, q1⟩ => ?_) hs hpl))) rfl) rfl))
  obtain ⟨a, b, F, xs, ys, l, m, rfl, k, z1, z2, z3, z4, hl, hQ⟩ := q1
  cases r1 with
  | cons r rr =>
    cases rr with
    | cons r' rr =>
      cases rr
      cases r
      cases r'
      obtain ⟨its, rv, p1, _⟩ := I1.list (a := a) (.inl (.inl z1))
      obtain ⟨its2, rv2, p3, _⟩ := I1.list (a := b) (.inl (.inl z3))
      refine zm_call (b := true) (c := true) p1.isList p3.isList fun h1 hz hTI hTO t1 t2 hsz hk => args_nil ?_
      have D := PySem.W.ktu_apart s1.heap.objs.size a b p1.lt p3.lt
      have e1 := z2.length
      have e2 := rv.length
      refine zl_call (s := { s1 with heap := h1 }) (I1.ok.hd hc) D hz hTI ⟨_, _, hTO⟩ t1 t2 (p1.isList.at fun o e => hk _ o e) (p3.isList.at fun o e => hk _ o e) (by
        have : its.toArray.size = l.length := by rw [List.size_toArray]; omega
        omega) fun h2 tk acc c as hk2 hL hlen hG hacc => ?_
      have lt : ∀ {x o}, s1.heap.get? x = some o → x < s1.heap.objs.size := fun e => Heap.lt_size e
      have hkk : ∀ x o, s1.heap.get? x = some o → h2.get? x = some o := fun x o e => by
        have := lt e
        exact hk2 x o (Nat.ne_of_lt (Nat.lt_of_lt_of_le this (Nat.le_add_right _ _))) (Nat.ne_of_lt (Nat.lt_of_lt_of_le this (Nat.le_add_right _ _))) (Nat.ne_of_lt this) (Nat.ne_of_lt (Nat.lt_of_lt_of_le this (Nat.le_add_right _ _))) (hk x o e)
      dsimp only at hL hG ⊢
      have hle : s1.heap.objs.size ≤ h1.objs.size := by rw [hsz]; exact Nat.le_add_right _ _
      have n0 : H1 h1.objs.size = none := I1.hok.fresh hle
      have ne : ∀ x ∈ as, x ≠ h1.objs.size := fun x hx => Nat.ne_of_gt (hG.above x hx)
      have lsz : as.length ≤ sizeLine := by
        have : its.toArray.size = l.length := by rw [List.size_toArray]; omega
        omega
      have I2 : L2.Inv X pins σ (upd H1 h1.objs.size (.lst (as.map V.ref))) { s1 with heap := h2, toks := tk } := I1.laid (t' := tk) hkk hle ⟨by rw [List.length_map]; exact lsz, acc.toList, c, by rw [hacc]; exact vals_refs' as, by rw [Array.toArray_toList]; exact hL⟩
      have p1' : Pure H1 F (upd H1 h1.objs.size (.lst (as.map V.ref))) F := .made k n0
      obtain ⟨H2, F2, I3, p2', rl, ot⟩ := zip_take I1 I2 p1'.fk z2 z4 rv rv2 (by simpa using hlen) hG hle fun x hx => by
        rw [upd_ne (ne x hx)]
        exact I1.hok.fresh (Nat.le_trans hle (Nat.le_of_lt (hG.above x hx)))
      have f0 : F.m h1.objs.size = none := by
        cases z : F.m h1.objs.size with
        | none => rfl
        | some u => exact absurd (k _ _ z) (by rw [n0]; simp)
      exact ⟨.ref h1.objs.size, H2, I3, rfl, hQ _ H2 F2 (p1'.trans p2') ⟨_, rfl, n0, by rw [ot _ fun z => ne _ z rfl]; exact f0, ⟨rfl, _, p2'.h _ _ upd_same, rl⟩, rfl⟩⟩
theorem sn_zipl (xc : XC κ X) (hg : Gl X "list") (hm : κ.mg "list" = none) (hg2 : Gl X "zip") (hm2 : κ.mg "zip" = none) (he : PE X e (tV κ C e')) (hs : nStar e = true) (he2 : PE X e2 (tV κ C e2')) (hs2 : nStar e2 = true) :
    PE X (.Call (.Name "list" p) [.Call (.Name "zip" p2) [e, e2] [] pos2] [] pos) (tV κ C (.b .zipl e' e2')) :=
  (pe_zl xc.K xc.calm hg (by rw [xc.mg]; exact hm) hg2 (by rw [xc.mg]; exact hm2) (pa_cons he (pa_cons he2 pa_nil (starEach_cons hs2 [] X.env)) (starEach_cons hs [e2] X.env)) (starEach_cons hs [e2] X.env) (star_plain hs (by simp [hs2]) _ _)).imp fun σ H Q q => by
    obtain ⟨Gd, A, r, g, F, t, f, st, q, h, k⟩ := q
    simp only [ev, Option.bind_eq_some_iff, Option.map_eq_some_iff, ok] at h
    obtain ⟨⟨t1, f1, s1⟩, h1, ⟨t2, f2, s2⟩, h2, d, h3, e, h4, ⟨z, f'⟩, h5, h6⟩ := h
    cases h6
    refine tV.op q h1 fun v1 H1 F1 A1 g1 q1 o1 => tV.op q1 h2 fun v2 H2 F2 A2 g2 q2 o2 => ?_
    have r1 := rsl_ro q2 o1 g2.le h3
    have r2 := rsl_ro q2 o2 .rfl h4
    simp only [bF] at h5
    split at h5
    · split at h5
      · rename_i hl
        cases h5
        obtain ⟨a, xs, rfl, y1, y2⟩ := r1.lst q2.fk
        obtain ⟨b, ys, rfl, y3, y4⟩ := r2.lst q2.fk
        exact ⟨a, b, F2, xs, ys, _, _, rfl, q2.fk, y1, y2, y3, y4, hl, fin_op q2 (g1.trans g2) k⟩
      · cases h5
    · cases h5
end
end WW
end
section
set_option maxHeartbeats 1000000
/-! calls of the text's own defs -/
namespace WW
open PySem PySem.Spec PyProof.Rows L2 L2.DX
def Ctx.wo (κ : Ctx) (o : List (Str × Addr)) : Ctx := { κ with own := o }
section
variable {κ : Ctx} {o : List (Str × Addr)}
mutual
theorem Rep.wo : ∀ {F : Fz} {v : V} {d : D}, Rep κ F v d → Rep (κ.wo o) F v d
  | _, _, _, .non => .non
  | _, _, _, .bl b => .bl b
  | _, _, _, .int i => .int i
  | _, _, _, .str x => .str x
  | _, _, _, .tup q r => .tup (κ := κ.wo o) q (RepL.wo r)
  | _, _, _, .lst q r => .lst q (RepL.wo r)
  | _, _, _, .scr q => .scr (κ := κ.wo o) q
  | _, _, _, .dct q r w => .dct q (RepD.wo r) w
  | _, _, _, .strm q => .strm q
  | _, _, _, .fn q => .fn (κ := κ.wo o) q
  | _, _, _, .clo q1 q2 q3 q4 q5 => .clo (κ := κ.wo o) q1 q2 q3 (RepC.wo q4) (RepL.wo q5)
theorem RepL.wo : ∀ {F : Fz} {v : List V} {d : List D}, RepL κ F v d → RepL (κ.wo o) F v d
  | _, _, _, .nil => .nil
  | _, _, _, .cons a b => .cons (Rep.wo a) (RepL.wo b)
theorem RepD.wo : ∀ {F : Fz} {v : List (Int × V × V)} {d : List (D × D)}, RepD κ F v d → RepD (κ.wo o) F v d
  | _, _, _, .nil => .nil
  | _, _, _, .cons a b c => .cons (κ := κ.wo o) (Rep.wo a) (Rep.wo b) (RepD.wo c)
theorem RepC.wo : ∀ {F : Fz} {cl : List (Str × Addr)} {v : List V}, RepC κ F cl v → RepC (κ.wo o) F cl v
  | _, _, _, .nil => .nil
  | _, _, _, .cons a c => .cons a (RepC.wo c)
end
theorem RepE.wo {H : Hp} {F : Fz} : ∀ {es : List (Int × V × V)} {bs : List Addr} {l : List (D × List D)}, RepE κ H F es bs l → RepE (κ.wo o) H F es bs l
  | _, _, _, .nil => .nil
  | _, _, _, .cons a b c d => .cons (κ := κ.wo o) a.wo b c.wo (RepE.wo d)
theorem Root.wo {H : Hp} {F : Fz} {a : Addr} {as : List Addr} {d : D} (h : Root κ H F a as d) : Root (κ.wo o) H F a as d := by
  cases d with
  | lst l => obtain ⟨h1, xs, h2, h3⟩ := h; exact ⟨h1, xs, h2, h3.wo⟩
  | dct l => obtain ⟨h1, xs, h2, h3, h4⟩ := h; exact ⟨h1, xs, h2, h3.wo, h4⟩
  | dcl l => obtain ⟨es, bs, h1, h2, h3, h4, h5⟩ := h; exact ⟨es, bs, h1, h2, h3, h4.wo, h5⟩
  | _ => exact h.elim
theorem wo_own : (κ.wo o).wo κ.own = κ := rfl
end
/-! ### what a call promises -/
/-- neither the stream's nor a table -/
def Outw (κ : Ctx) (F : Fz) (a : Addr) : Prop := ¬ F.isS a ∧ ∀ p ∈ κ.tabs, p.1 ≠ a
structure Pre (κ : Ctx) (H : Hp) (F : Fz) (g : G) : Prop where
  fk : ∀ a o, F.m a = some o → H a = some o
  st : StrR H F g
  tb : TabF κ.tabs F H
structure Post (κ : Ctx) (H : Hp) (F : Fz) (H' : Hp) (F' : Fz) (g' : G) : Prop where
  le : F.Le F'
  c : F'.c = F.c
  fk : ∀ a o, F'.m a = some o → H' a = some o
  st : StrR H' F' g'
  tb : TabF κ.tabs F' H'
  keep : ∀ a o, Outw κ F a → H a = some o → H' a = some o
  new : ∀ a, Outw κ F a → H a ≠ none → F'.m a = F.m a
  s : ∀ a, F'.isS a → F.isS a ∨ H a = none
def Res (κ : Ctx) (H H' : Hp) (F' : Fz) (v : V) (d : D) : Bool → Prop
  | false => Rep κ F' v d
  | true => ∃ a, v = .ref a ∧ Root κ H' F' a [a] d ∧ norm d = d ∧ H a = none ∧ F'.m a = none ∧ ¬F'.isS a ∧ ∃ o, H' a = some o ∧ ∀ ps, o ≠ .tbl ps
/-- a call that ends as C tells -/
def spV (κ : Ctx) (run : List D → G → Option (D × Bool × G)) : Sp := fun vs H Q _ => ∃ (F : Fz) (g : G) (ds : List D) (d : D) (f : Bool) (g' : G), Pre κ H F g ∧ RepL κ F vs ds ∧ run ds g = some (d, f, g') ∧ ∀ v H' F', Post κ H F H' F' g' → Res κ H H' F' v d f → Q v H'
section
variable {κ : Ctx} {Gd : Hp} {A : Nat → List Addr} {r : Env} {g g' : G} {σ : L2.St} {H H' : Hp} {F F' : Fz}
theorem R.pre (q : R κ Gd A r g σ H F) : Pre κ H F g := ⟨q.fk, q.st, q.tb⟩
theorem R.outG (q : R κ Gd A r g σ H F) {a : Addr} (h : Gd a ≠ none) : Outw κ F a := ⟨fun z => h (q.gs a z), fun p hp e => h (by rw [← e]; exact q.gt p hp)⟩
theorem R.outO (q : R κ Gd A r g σ H F) {b : Addr} (w : Own Gd H F b) : Outw κ F b := ⟨w.s, fun p hp e => by
  obtain ⟨ps, h1, _⟩ := q.tb p hp
  obtain ⟨o, h2, h3⟩ := w.h
  rw [e] at h1
  rw [h1] at h2
  exact h3 ps (Option.some.inj h2).symm⟩
theorem Post.grow (p : Post κ H F H' F' g') (q : R κ Gd A r g σ H F) : Grow Gd F F' := ⟨p.le, p.c, fun a h => p.new a (q.outG h) (by
  obtain ⟨o, ho⟩ := Option.ne_none_iff_exists'.mp h
  rw [q.gk a o ho]
  simp)⟩
theorem Post.own (p : Post κ H F H' F' g') (q : R κ Gd A r g σ H F) {b : Addr} (w : Own Gd H F b) : Own Gd H' F' b := by
  obtain ⟨o, h2, h3⟩ := id w.h
  refine ⟨(p.new b (q.outO w) (by rw [h2]; simp)).trans w.f, w.g, fun z => ?_, o, p.keep b o (q.outO w) h2, h3⟩
  rcases p.s b z with z | z
  · exact w.s z
  · rw [h2] at z; cases z
theorem Post.keepR (p : Post κ H F H' F' g') (q : R κ Gd A r g σ H F) : R κ Gd A r g' σ H' F' where
  gk := fun a o h => p.keep a o (q.outG (by rw [h]; simp)) (q.gk a o h)
  fk := p.fk
  st := p.st
  gs := fun a h => by
    rcases p.s a h with z | z
    · exact q.gs a z
    · cases e : Gd a with
      | none => rfl
      | some o => rw [q.gk a o e] at z; cases z
  gt := q.gt
  tb := p.tb
  len := q.len
  sh := fun i d h => by
    obtain ⟨v, h1, h2⟩ := q.sh i d h
    exact ⟨v, h1, h2.le p.le⟩
  ow := fun i d h => by
    obtain ⟨a, h1, h2⟩ := q.ow i d h
    exact ⟨a, h1, h2.keep (fun b hb o ho => p.keep b o (q.outO (q.oa i d b h hb)) ho) p.le⟩
  oa := fun i d b h hb => p.own q (q.oa i d b h hb)
  sep := q.sep
theorem Post.vr (p : Post κ H F H' F' g') (q : R κ Gd A r g σ H F) {v : V} {d : D} : ∀ {f : Bool}, Res κ H H' F' v d f → VR κ Gd A r H' F' v d f
  | false, h => h
  | true, h => by
    obtain ⟨a, e, rt, nd, hn, fn, sn, oh⟩ := h
    refine ⟨a, e, rt, ⟨fn, ?_, sn, oh⟩, nd, fun i e hi hm => ?_⟩
    · cases e : Gd a with
      | none => rfl
      | some o => rw [q.gk a o e] at hn; cases hn
    · obtain ⟨o, h1, _⟩ := (q.oa i e a hi hm).h
      rw [hn] at h1
      cases h1
/-- a call's guard: all that is neither the stream's nor a table -/
noncomputable def Gd0 (κ : Ctx) (F : Fz) (H : Hp) : Hp := fun a => open Classical in if Outw κ F a then H a else none
theorem gd0_in (h : Outw κ F a) : Gd0 κ F H a = H a := by unfold Gd0; rw [if_pos h]
theorem gd0_out (h : ¬ Outw κ F a) : Gd0 κ F H a = none := by unfold Gd0; rw [if_neg h]
theorem start_get {N : List Str} {vs : List V} {i : Nat} {v : V} (h : vs[i]? = some v) : (L2.start N vs)[i]? = some (some v) := by
  unfold L2.start
  have hi : i < vs.length := (List.getElem?_eq_some_iff.mp h).1
  rw [List.getElem?_append_left (by simpa using hi), List.getElem?_map, h]
  rfl
theorem begin_get {Fn : Fn} {ds : List D} {g : G} {i : Nat} {x : D × Bool} (h : (begin_ Fn ds g).r[i]? = some (some x)) : x.2 = false ∧ ds[i]? = some x.1 := by
  unfold begin_ at h
  by_cases hi : i < ds.length
  · rw [List.getElem?_append_left (by simpa using hi), List.getElem?_map, List.getElem?_eq_getElem hi] at h
    cases h
    exact ⟨rfl, List.getElem?_eq_getElem hi⟩
  · rw [List.getElem?_append_right (by simpa using hi), List.getElem?_replicate] at h
    split at h <;> cases h
theorem Pre.begin {Fn : Fn} {N : List Str} {vs : List V} {ds : List D} (p : Pre κ H F g) (rl : RepL κ F vs ds) (hN : N.length = Fn.n) (o : List (Str × Addr)) :
    R (κ.wo o) (Gd0 κ F H) A0 (begin_ Fn ds g).r g (L2.start N vs) H F where
  gk := fun a o h => by
    by_cases z : Outw κ F a
    · rw [gd0_in z] at h; exact h
    · rw [gd0_out z] at h; cases h
  fk := p.fk
  st := p.st
  gs := fun a h => gd0_out fun z => z.1 h
  gt := fun q hq => gd0_out fun z => z.2 q hq rfl
  tb := p.tb
  len := by
    unfold L2.start begin_
    simp only [List.length_append, List.length_map, List.length_replicate]
    rw [rl.length, hN]
  sh := fun i d h => by
    obtain ⟨_, h⟩ := begin_get h
    obtain ⟨v, h1, h2⟩ := rl.get h
    exact ⟨v, start_get h1, (h2.wo).srep⟩
  ow := fun i d h => by cases (begin_get h).1
  oa := fun i d b h => by cases (begin_get h).1
  sep := fun i j d e b h => by cases (begin_get h).1
theorem Pre.post {o : List (Str × Addr)} {A' : Nat → List Addr} {r' : Env} {σ' : L2.St} (p : Pre κ H F g) (gr : Grow (Gd0 κ F H) F F') (q : R (κ.wo o) (Gd0 κ F H) A' r' g' σ' H' F') : Post κ H F H' F' g' where
  le := gr.le
  c := gr.c
  fk := q.fk
  st := q.st
  tb := q.tb
  keep := fun a o z h => q.gk a o (by rw [gd0_in z]; exact h)
  new := fun a z h => gr.gd a (by rw [gd0_in z]; exact h)
  s := fun a h => by
    by_cases z : Outw κ F a
    · right
      have := q.gs a h
      rw [gd0_in z] at this
      exact this
    · unfold Outw at z
      by_cases y : F.isS a
      · exact .inl y
      · exfalso
        simp only [y, not_false_eq_true, true_and] at z
        have z : ¬ ∀ p ∈ κ.tabs, p.1 ≠ a := z
        simp only [Classical.not_forall, ne_eq, Classical.not_not] at z
        obtain ⟨t, ht, e⟩ := z
        obtain ⟨ps, h1, _⟩ := q.tb t ht
        rw [e] at h1
        obtain ⟨pr, e1, e2⟩ := h
        have := q.st
        unfold StrR at this
        rw [e1] at this
        cases eg : g'.s with
        | none => rw [eg] at this; exact this.elim
        | some s =>
          rw [eg] at this
          obtain ⟨_, h3, h4, _⟩ := this
          rcases e2 with e2 | e2
          · rw [← e2, h1] at h3; cases h3
          · rw [← e2, h1] at h4; cases h4
theorem VR.res {o : List (Str × Addr)} {v : V} {d : D} (gr : Grow (Gd0 κ F H) F F') (tb : TabF κ.tabs F' H') : ∀ {f : Bool}, VR (κ.wo o) (Gd0 κ F H) A0 [] H' F' v d f → Res κ H H' F' v d f
  | false, h => Rep.wo (κ := κ.wo o) (o := κ.own) h
  | true, h => by
    obtain ⟨a, e, rt, ow, nd, _⟩ := h
    refine ⟨a, e, Root.wo (κ := κ.wo o) (o := κ.own) rt, nd, ?_, ow.f, ow.s, ow.h⟩
    by_cases z : Outw κ F a
    · have := ow.g
      rw [gd0_in z] at this
      exact this
    · exfalso
      refine z ⟨fun y => ?_, fun p hp e => ?_⟩
      · obtain ⟨pr, e1, e2⟩ := y
        exact ow.s ⟨pr, gr.le.s _ e1, e2⟩
      · obtain ⟨ps, h1, _⟩ := tb p hp
        obtain ⟨o, h2, h3⟩ := ow.h
        rw [e] at h1
        rw [h1] at h2
        exact h3 ps (Option.some.inj h2).symm
end
/-! ### a body -/
/-- the end of a body, from what runF tells -/
theorem body_run {κ : Ctx} {C : Cl} {w : Nat} {Fn : Fn} {N : List Str} {vs : List V} {ds : List D} {g g' : G} {H : Hp} {F : Fz} {d : D} {f : Bool} {o : List (Str × Addr)} {Q : VK} (p : Pre κ H F g) (rl : RepL κ F vs ds) (hN : N.length = Fn.n)
    (hr : runF C w Fn ds g = some (d, f, g')) (k : ∀ v H' F', Post κ H F H' F' g' → Res κ H H' F' v d f → Q v H') :
    tSs (κ.wo o) C w Fn.body { nx := fun _ H' => Q .non H', rt := Q } (L2.start N vs) H := by
  unfold runF at hr
  split at hr
  · rw [Option.bind_eq_some_iff] at hr
    obtain ⟨out, h1, h2⟩ := hr
    refine ⟨Gd0 κ F H, A0, (begin_ Fn ds g).r, g, F, out, p.begin rl hN o, h1, ?_⟩
    cases out with
    | nx s =>
      cases h2
      exact fun σ' H' F' A' gr q => k .non H' F' (p.post gr q) .non
    | ret d f g =>
      cases h2
      exact fun v H' F' gr q vr => k v H' F' (p.post gr q) (vr.res gr q.tb)
    | brk s => cases h2
    | cnt s => cases h2
  · cases hr
/-- the call's context lets nothing out -/
abbrev CXN : CXT := fun _ _ _ _ _ _ => False
section
variable {κ : Ctx} {C : Cl} {X : Cx} {pos p : Pos} {x : Str} {k : Nat}
/-- a def of the text that keeps what C tells -/
structure DefOk (X : Cx) (κ : Ctx) (C : Cl) (k : Nat) (x : Str) : Prop where
  ex : ∃ (f : Addr) (fd : FuncData) (ps : List Str), X.mg x = some (.ref f) ∧ FnOk X.prog X.w X.K X.mg X.base CXN k f fd ps (spV κ (C.f x)) ∧ PySem.W.keepIn X.K (.ref f) = true ∧ Binds X.K fd ps []
theorem spV.imp {run : List D → G → Option (D × Bool × G)} {vs : List V} {H : Hp} {Q Q' : VK} {E : XK} (h : spV κ run vs H Q E) (i : ∀ v H', Q v H' → Q' v H') : spV κ run vs H Q' E := by
  obtain ⟨F, g, ds, d, f, g', h1, h2, h3, h4⟩ := h
  exact ⟨F, g, ds, d, f, g', h1, h2, h3, fun v H' F' p r => i _ _ (h4 v H' F' p r)⟩
/-- from a caller's state -/
theorem spV.of {Gd : Hp} {A : Nat → List Addr} {r : Env} {g : G} {σ : L2.St} {H : Hp} {F : Fz} {run : List D → G → Option (D × Bool × G)} {vs : List V} {ds : List D} {d : D} {f : Bool} {g' : G} {Q : VK} {E : XK}
    (q : R κ Gd A r g σ H F) (rl : RepL κ F vs ds) (h : run ds g = some (d, f, g')) (k : ∀ v H' F', Grow Gd F F' → R κ Gd A r g' σ H' F' → VR κ Gd A r H' F' v d f → Q v H') : spV κ run vs H Q E :=
  ⟨F, g, ds, d, f, g', q.pre, rl, h, fun v H' F' p rs => k v H' F' (p.grow q) (p.keepR q) (p.vr q rs)⟩
theorem sn_call0 (hd : DefOk X κ C k x) (hr : Room k X.A) (hg : Gl X x) (hdb : (x == ("__debug__" : Str)) = false) : PE X (.Call (.Name x p) [] [] pos) (tV κ C (.call x [])) := by
  obtain ⟨f, fd, ps, hm, F, hk, hb⟩ := hd.ex
  refine (pe_call0 F hr hg hm hk hb .nil (fun _ _ _ _ _ _ _ z => z.elim) hdb (E := fun _ _ _ => False)).imp fun σ H Q q => ?_
  obtain ⟨Gd, A, r, g, F, t, f, st, q, h, k⟩ := q
  simp only [ev, evs, Option.bind_eq_some_iff, Option.map_eq_some_iff, ok] at h
  obtain ⟨⟨ds, s1⟩, h1, ⟨d, fr, g'⟩, h2, h3⟩ := h
  cases h1
  cases h3
  show spV κ (C.f x) ([] ++ []) H Q (fun _ _ _ => False)
  exact spV.of q .nil h2 fun v H' F' gr q' vr => k v H' F' A gr q' vr
theorem sn_call {e : Expr} {es : List Expr} {es' : List E} (hd : DefOk X κ C k x) (hr : Room k X.A) (hg : Gl X x) (hdb : (x == ("__debug__" : Str)) = false) (ha : PA X (e :: es) (tEs κ C es')) (hs : nStar e = true) (hss : es.all nStar = true) : PE X (.Call (.Name x p) (e :: es) [] pos) (tV κ C (.call x es')) := by
  obtain ⟨f, fd, ps, hm, F, hk, hb⟩ := hd.ex
  refine (pe_call F hr hg hm hk hb .nil (fun _ _ _ _ _ _ _ z => z.elim) ha hdb (starEach_cons hs es X.env) (star_plain hs hss pos X.env) (E := fun _ _ _ => False)).imp fun σ H Q q => ?_
  obtain ⟨Gd, A, r, g, F, t, f, st, q, h, k⟩ := q
  simp only [ev, Option.bind_eq_some_iff, Option.map_eq_some_iff, ok] at h
  obtain ⟨⟨ds, s1⟩, h1, ⟨d, fr, g'⟩, h2, h3⟩ := h
  cases h3
  refine ⟨Gd, A, r, g, F, ds, s1, q, h1, fun vs H1 F1 A1 g1 q1 rl => ?_⟩
  show spV κ (C.f x) (vs ++ []) H1 Q (fun _ _ _ => False)
  rw [List.append_nil]
  exact spV.of q1 rl h2 fun v H' F' gr q' vr => k v H' F' A1 (g1.trans gr) q' vr
end
end WW
end
section
set_option maxHeartbeats 1000000
/-! from the text's trees to the small language -/
namespace WW
open PySem PySem.Spec PyProof.Rows L2 L2.DX
/-- where a text stands: the slots' names, the names' kinds, in a comprehension or not; the text's defs, the built-ins' names that nobody took -/
structure Gam where
  N : List Str
  sc : Scope
  bl : Bool
  cel : List Str
  glo : List Str
  fre : List Str
structure GM (κ : Ctx) (C : Cl) (Γ : Gam) (X : Cx) : Prop where
  xc : XC κ X
  N : X.N = Γ.N
  sc : X.env.scope = Γ.sc
  fn : ∀ x, Γ.bl = false → X.fn x = true
  cel : ∀ x ∈ Γ.cel, X.fn x = true
  glo : ∀ x ∈ Γ.glo, (∃ ad, κ.mg x = some (.ref ad)) ∧ ∃ k, Room k X.A ∧ DefOk X κ C k x
  fre : ∀ x ∈ Γ.fre, κ.mg x = none
def slot (Γ : Gam) (x : Str) : Option Nat := Γ.N.findIdx? (· == x)
def visB (Γ : Gam) (x : Str) : Bool := (match Γ.sc.names.lookup x with
  | some .local => true | some .cell => true | some .free => true | _ => false) && (x != "__debug__" && x != "__classdict__")
def locB (Γ : Gam) (x : Str) : Bool := match Γ.sc.names.lookup x with
  | some .local => true | some .cell => !Γ.bl || Γ.cel.contains x | _ => false
def oneB (Γ : Gam) (x : Str) : Bool := match Γ.sc.names.lookup x with
  | some .local => true | _ => false
def glB (Γ : Gam) (x : Str) : Bool := (match Γ.sc.names.lookup x with
  | some .globalImplicit => true | _ => false) && (x != "__debug__" && x != "__name__")
def freB (Γ : Gam) (x : Str) : Bool := glB Γ x && Γ.fre.contains x
/-- a variable's slot -/
def var (Γ : Gam) (x : Str) : Option Nat := if visB Γ x = true then slot Γ x else none
/-- the same, set -/
def lvar (Γ : Gam) (x : Str) : Option Nat := if locB Γ x = true then slot Γ x else none
section
variable {κ : Ctx} {C : Cl} {Γ : Gam} {X : Cx} {x : Str} {i : Nat}
theorem slot_get (h : slot Γ x = some i) : Γ.N[i]? = some x := by
  unfold slot at h
  rw [List.findIdx?_eq_some_iff_getElem] at h
  obtain ⟨hi, h1, _⟩ := h
  rw [List.getElem?_eq_getElem hi]
  simpa using h1
theorem str_ne {y : Str} (h : (x != y) = true) : (x == y) = false := by simpa using h
theorem vis_of (h : visB Γ x = true) : Vis Γ.sc x ∧ (x == ("__debug__" : Str)) = false ∧ (x == ("__classdict__" : Str)) = false := by
  unfold visB at h
  simp only [Bool.and_eq_true] at h
  obtain ⟨h1, h2, h3⟩ := h
  refine ⟨?_, str_ne h2, str_ne h3⟩
  split at h1 <;> rename_i e <;> first | exact .inl e | exact .inr (.inl e) | exact .inr (.inr e) | cases h1
theorem var_of (m : GM κ C Γ X) (h : var Γ x = some i) : X.N[i]? = some x ∧ Vis X.env.scope x ∧ (x == ("__debug__" : Str)) = false ∧ (x == ("__classdict__" : Str)) = false := by
  unfold var at h
  split at h
  · rename_i hv
    obtain ⟨v1, v2, v3⟩ := vis_of hv
    exact ⟨by rw [m.N]; exact slot_get h, by rw [m.sc]; exact v1, v2, v3⟩
  · cases h
theorem lvar_of (m : GM κ C Γ X) (h : lvar Γ x = some i) : X.N[i]? = some x ∧ Loc X.env.scope x ∧ (X.fn x = true ∨ X.env.scope.names.lookup x = some .local) := by
  unfold lvar at h
  split at h
  · rename_i hv
    refine ⟨by rw [m.N]; exact slot_get h, ?_⟩
    rw [m.sc]
    unfold locB at hv
    split at hv
    · rename_i e; exact ⟨.inl e, .inr e⟩
    · rename_i e
      refine ⟨.inr e, ?_⟩
      simp only [Bool.or_eq_true, Bool.not_eq_true'] at hv
      rcases hv with hb | hb
      · exact .inl (m.fn x hb)
      · exact .inl (m.cel x (by simpa using hb))
    · cases hv
  · cases h
theorem gl_of (m : GM κ C Γ X) (h : glB Γ x = true) : Gl X x ∧ (x == ("__debug__" : Str)) = false ∧ x ≠ "__name__" := by
  unfold glB at h
  simp only [Bool.and_eq_true] at h
  obtain ⟨h1, h2, h3⟩ := h
  refine ⟨?_, str_ne h2, by simpa using h3⟩
  show X.env.scope.names.lookup x = _
  rw [m.sc]
  split at h1 <;> rename_i e <;> first | exact e | cases h1
theorem fre_of (m : GM κ C Γ X) (h : freB Γ x = true) : Gl X x ∧ κ.mg x = none ∧ x ≠ "__name__" ∧ (x == ("__debug__" : Str)) = false := by
  unfold freB at h
  rw [Bool.and_eq_true] at h
  obtain ⟨g1, g2, g3⟩ := gl_of m h.1
  exact ⟨g1, m.fre x (by simpa using h.2), g3, g2⟩
end

/-! ### tests by chains -/
section
variable {κ : Ctx} {C : Cl} {X : Cx} {a b c e : Expr} {a' b' c' e' : E} {pos : Pos}
theorem tT.tV {σ : L2.St} {H : Hp} {Q : Bool → Hp → Prop} (q : tT κ C e' σ H Q) : tV κ C e' σ H fun x H' => ∃ k, x = .bl k ∧ Q k H' := by
  obtain ⟨Gd, A, r, g, F, b, f, st, q, h, k⟩ := q
  exact ⟨Gd, A, r, g, F, _, f, st, q, h, fun v H' F' A' gr q' tv => ⟨b, vr_bl tv, k H' F' A' gr q'⟩⟩
theorem PE.un {t : TE} {e : Expr} (h : PE X e t) : PE X e t := h
theorem st_ch (xc : XC κ X) {op op' : CmpOp} {o o' : B} (ho : OpR X (compareOp op) (rB κ (bF o))) (ho' : OpR X (compareOp op') (rB κ (bF o'))) (ha : PE X a (tV κ C a')) (hb : PE X b (tV κ C b')) (hc : PE X c (tV κ C c')) (hs : nSet c = true) :
    PT X (.Compare a [op, op'] [b, c] pos) (tT κ C (.ch o o' a' b' c')) := by
  refine (pt_chain ho ho' ha hb hc ?_).imp fun σ H Q q => ?_
  · show behindInMarks op' c = false
    exact nMark hs op'
  obtain ⟨Gd, A, r, g, F, t, f, st, q, h, k⟩ := q.tV
  show tChain _ _ _ _ _ σ H _
  simp only [ev, Option.bind_eq_some_iff] at h
  obtain ⟨⟨t1, f1, s1⟩, h1, ⟨t2, f2, s2⟩, h2, d, h3, e, h4, ⟨z, f'⟩, h5, h6⟩ := h
  refine tV.op q h1 fun v1 H1 F1 A1 g1 q1 o1 => tV.op q1 h2 fun v2 H2 F2 A2 g2 q2 o2 => ?_
  refine ⟨F2, d, e, z, f', q2.fk, rsl_ro q2 o1 g2.le h3, rsl_ro q2 o2 .rfl h4, h5, fin_op (K := fun zz H3 => _) q2 .rfl fun v3 H3 F3 A3 g3 q3 tv => ?_⟩
  dsimp only at h6
  split at h6
  · simp only [Option.bind_eq_some_iff, Option.map_eq_some_iff, ok] at h6
    obtain ⟨⟨t4, f4, s4⟩, h7, e2, h8, y, h9, ⟨zz, f5⟩, h10, h11⟩ := h6
    cases h11
    refine ⟨true, vr_bl tv, ?_⟩
    rw [if_pos rfl]
    refine tV.op q3 h7 fun v4 H4 F4 A4 g4 q4 o4 => ?_
    exact ⟨F4, e2, y, zz, _, q4.fk, rsl_ro q4 o2 (g3.le.trans g4.le) h8, rsl_ro q4 o4 .rfl h9, h10, fin_op q4 (((g1.trans g2).trans g3).trans g4) k⟩
  · cases h6
    refine ⟨false, vr_bl tv, ?_⟩
    rw [if_neg (by simp)]
    exact k _ H3 F3 A3 ((g1.trans g2).trans g3) q3 (Rep.bl _)
  · cases h6
end
/-! ### the steps -/
structure Cmp where
  e : Gam → Expr → Option E
  t : Gam → Expr → Option E
  g : Gam → Expr → Option T
section
variable (R : Cmp) (Γ : Gam)
/-- an operand: a variable is only looked at -/
def cO : Expr → Option E
  | .Name x p => match var Γ x with
    | some i => some (.p i)
    | none => R.e Γ (.Name x p)
  | e => R.e Γ e
def cEs : List Expr → Option (List E)
  | [] => some []
  | e :: es => if nStar e = true then (R.e Γ e).bind fun e' => (cEs es).map fun es' => e' :: es' else none
def cPs : List (Option Expr) → List Expr → Option (List E)
  | [], [] => some []
  | some a :: ks, b :: vs => (R.e Γ a).bind fun a' => (R.e Γ b).bind fun b' => (cPs ks vs).map fun r => a' :: b' :: r
  | _, _ => none
def binO : Operator → Option B
  | .Add => some .add | .Sub => some .sub | .Mult => some .mul | .FloorDiv => some .fdiv | .Mod => some .mod
  | _ => none
def cmpO : CmpOp → Option B
  | .Eq => some .eq | .NotEq => some .ne | .Lt => some .lt | .LtE => some .le | .Gt => some .gt | .GtE => some .ge | .In => some .isin | .NotIn => some .notin
  | _ => none
def isNone : Expr → Bool
  | .Constant .none _ _ => true
  | _ => false
def cC : Const → Option E
  | .none => some (.c .non) | .bool b => some (.c (.bl b)) | .int i => some (.c (.int i)) | .str x => some (.c (.str x))
  | _ => none
def cCmp (a : Expr) : List CmpOp → List Expr → Option E
  | [.Is], [.Constant .none _ _] => (cO R Γ a).map fun a' => .u .isN a'
  | [.IsNot], [.Constant .none _ _] => (cO R Γ a).map fun a' => .u .notN a'
  | [op], [b] => if nSet b = true then (cmpO op).bind fun o => (cO R Γ a).bind fun a' => (cO R Γ b).map fun b' => .b o a' b' else none
  | [op, op'], [b, c] => if nSet c = true then (cmpO op).bind fun o => (cmpO op').bind fun o' => (cO R Γ a).bind fun a' => (cO R Γ b).bind fun b' => (cO R Γ c).map fun c' => .ch o o' a' b' c' else none
  | _, _ => none
def cAnd : List Expr → Option E
  | [] => none
  | [a] => R.e Γ a
  | a :: b :: r => (R.e Γ a).bind fun a' => (cAnd (b :: r)).map fun b' => .and a' b'
def cOr : List Expr → Option E
  | [] => none
  | [a] => R.e Γ a
  | a :: b :: r => (R.e Γ a).bind fun a' => (cOr (b :: r)).map fun b' => .or a' b'
def tAnd : List Expr → Option E
  | [] => none
  | [a] => R.t Γ a
  | a :: b :: r => (R.t Γ a).bind fun a' => (tAnd (b :: r)).map fun b' => .and a' b'
def tOr : List Expr → Option E
  | [] => none
  | [a] => R.t Γ a
  | a :: b :: r => (R.t Γ a).bind fun a' => (tOr (b :: r)).map fun b' => .or a' b'
def cIx (a : Expr) : Expr → Option E
  | .Slice (some b) none none _ => (cO R Γ a).bind fun a' => (cO R Γ b).map fun b' => .b .sla a' b'
  | .Slice none (some b) none _ => (cO R Γ a).bind fun a' => (cO R Γ b).map fun b' => .b .slb a' b'
  | .Slice (some b) (some c) none _ => (cO R Γ a).bind fun a' => (R.e Γ b).bind fun b' => (R.e Γ c).map fun c' => .b3 .slc a' b' c'
  | .Slice none none (some (.UnaryOp .USub (.Constant (.int 1) _ _) _)) _ => (cO R Γ a).map fun a' => .u .rev a'
  | .Slice _ _ _ _ => none
  | b => (cO R Γ a).bind fun a' => (cO R Γ b).map fun b' => .b .idx a' b'
end
end WW
end
section
set_option maxHeartbeats 1000000
/-! from the text's trees to the small language: what the steps tell is right -/
namespace WW
open PySem PySem.Spec PyProof.Rows L2 L2.DX
structure Snd (κ : Ctx) (C : Cl) (R : Cmp) : Prop where
  e : ∀ Γ X e e', GM κ C Γ X → R.e Γ e = some e' → PE X e (tV κ C e')
  t : ∀ Γ X e e', GM κ C Γ X → R.t Γ e = some e' → PT X e (tT κ C e')
  g : ∀ Γ X e t, GM κ C Γ X → R.g Γ e = some t → PG X e (tG κ t)
section
variable {κ : Ctx} {C : Cl} {Γ : Gam} {X : Cx} {R : Cmp}
theorem cO_ok (S : Snd κ C R) (m : GM κ C Γ X) {e : Expr} {e' : E} (h : cO R Γ e = some e') : PE X e (tV κ C e') := by
  unfold cO at h
  split at h
  · split at h
    · rename_i hv
      cases h
      obtain ⟨v1, v2, v3, v4⟩ := var_of m hv
      exact sn_p v1 v2 v3 v4
    · exact S.e _ _ _ _ m h
  · exact S.e _ _ _ _ m h
theorem cEs_star : ∀ {es : List Expr} {es' : List E}, cEs R Γ es = some es' → es.all nStar = true
  | [], _, _ => rfl
  | e :: es, es', h => by
    simp only [cEs] at h
    split at h
    · rename_i hs
      simp only [Option.bind_eq_some_iff, Option.map_eq_some_iff] at h
      obtain ⟨e', h1, es'', h2, rfl⟩ := h
      rw [List.all_cons, hs, cEs_star h2]
      rfl
    · cases h
theorem cEs_ok (S : Snd κ C R) (m : GM κ C Γ X) : ∀ {es : List Expr} {es' : List E}, cEs R Γ es = some es' → PA X es (tEs κ C es')
  | [], es', h => by
    cases h
    exact sa_nil
  | e :: es, es', h => by
    simp only [cEs] at h
    split at h
    · rename_i hs
      simp only [Option.bind_eq_some_iff, Option.map_eq_some_iff] at h
      obtain ⟨e', h1, es'', h2, rfl⟩ := h
      exact sa_cons (S.e _ _ _ _ m h1) (cEs_ok S m h2) hs
    · cases h
theorem cEs_par (S : Snd κ C R) (m : GM κ C Γ X) : ∀ {es : List Expr} {es' : List E}, cEs R Γ es = some es' → PA X es (tPa κ C es')
  | [], es', h => by
    cases h
    exact sp_nil
  | e :: es, es', h => by
    simp only [cEs] at h
    split at h
    · rename_i hs
      simp only [Option.bind_eq_some_iff, Option.map_eq_some_iff] at h
      obtain ⟨e', h1, es'', h2, rfl⟩ := h
      exact sp_cons (S.e _ _ _ _ m h1) (cEs_par S m h2) hs
    · cases h
theorem cPs_ok (S : Snd κ C R) (m : GM κ C Γ X) {pos : Pos} : ∀ {ks : List (Option Expr)} {vs : List Expr} {es' : List E}, cPs R Γ ks vs = some es' → PPx X pos ks vs (tPs κ C es') ∧ ks.all (·.isSome) = true ∧ ks.length = vs.length
  | [], [], es', h => by
    cases h
    exact ⟨px_nil, rfl, rfl⟩
  | some a :: ks, b :: vs, es', h => by
    simp only [cPs, Option.bind_eq_some_iff, Option.map_eq_some_iff] at h
    obtain ⟨a', h1, b', h2, r, h3, rfl⟩ := h
    obtain ⟨p1, p2, p3⟩ := cPs_ok S m h3
    exact ⟨px_cons (S.e _ _ _ _ m h1) (S.e _ _ _ _ m h2) p1, by rw [List.all_cons, p2]; rfl, by rw [List.length_cons, List.length_cons, p3]⟩
  | none :: _, _, _, h => by simp [cPs] at h
  | [], _ :: _, _, h => by simp [cPs] at h
  | some _ :: _, [], _, h => by simp [cPs] at h
theorem binO_ok (m : GM κ C Γ X) {op : Operator} {o : B} (h : binO op = some o) : OpR X (binaryOp op) (rB κ (bF o)) := by
  cases op <;> cases h
  · exact b_add m.xc.K
  · exact b_sub
  · exact b_mul m.xc.K
  · exact b_mod
  · exact b_fdiv
theorem cmpO_ok (m : GM κ C Γ X) {op : CmpOp} {o : B} (h : cmpO op = some o) : OpR X (compareOp op) (rB κ (bF o)) := by
  cases op <;> cases h
  · exact b_eq m.xc.K m.xc.hu
  · exact b_ne m.xc.K m.xc.hu
  · exact b_lt m.xc.K m.xc.hu
  · exact b_le
  · exact b_gt
  · exact b_ge
  · exact b_in m.xc.K m.xc.w m.xc.hu
  · exact b_notIn m.xc.K m.xc.w m.xc.hu
theorem cC_ok {c : Const} {j : Nat} {pos : Pos} {e' : E} (h : cC c = some e') : PE X (.Constant c j pos) (tV κ C e') := by
  cases c <;> cases h
  · exact sn_c pe_non fun _ => .non
  · exact sn_c pe_bl fun _ => .bl _
  · exact sn_c pe_int fun _ => .int _
  · exact sn_c pe_str fun _ => .str _
theorem cCmp_ok (S : Snd κ C R) (m : GM κ C Γ X) {a : Expr} {ops : List CmpOp} {bs : List Expr} {e' : E} {pos : Pos} (h : cCmp R Γ a ops bs = some e') : PE X (.Compare a ops bs pos) (tV κ C e') ∧ PT X (.Compare a ops bs pos) (tT κ C e') := by
  unfold cCmp at h
  split at h
  · rw [Option.map_eq_some_iff] at h
    obtain ⟨a', h1, rfl⟩ := h
    exact ⟨sn_isN (cO_ok S m h1), st_isN (cO_ok S m h1)⟩
  · rw [Option.map_eq_some_iff] at h
    obtain ⟨a', h1, rfl⟩ := h
    exact ⟨sn_notN (cO_ok S m h1), st_notN (cO_ok S m h1)⟩
  · split at h
    · rename_i hs
      simp only [Option.bind_eq_some_iff, Option.map_eq_some_iff] at h
      obtain ⟨o, h0, a', h1, b', h2, rfl⟩ := h
      exact ⟨sn_cmp (cmpO_ok m h0) (cO_ok S m h1) (cO_ok S m h2) hs, st_cmp (cmpO_ok m h0) (cO_ok S m h1) (cO_ok S m h2) hs⟩
    · cases h
  · split at h
    · rename_i hs
      simp only [Option.bind_eq_some_iff, Option.map_eq_some_iff] at h
      obtain ⟨o, h0, o', h00, a', h1, b', h2, c', h3, rfl⟩ := h
      exact ⟨sn_ch m.xc (cmpO_ok m h0) (cmpO_ok m h00) (cO_ok S m h1) (cO_ok S m h2) (cO_ok S m h3) hs, st_ch m.xc (cmpO_ok m h0) (cmpO_ok m h00) (cO_ok S m h1) (cO_ok S m h2) (cO_ok S m h3) hs⟩
    · cases h
  · cases h
theorem cAnd_ok (S : Snd κ C R) (m : GM κ C Γ X) {pos : Pos} : ∀ {es : List Expr} {e' : E}, cAnd R Γ es = some e' → PE X (.BoolOp .And es pos) (tV κ C e')
  | [a], e', h => pe_one (S.e _ _ _ _ m h)
  | a :: b :: r, e', h => by
    simp only [cAnd, Option.bind_eq_some_iff, Option.map_eq_some_iff] at h
    obtain ⟨a', h1, b', h2, rfl⟩ := h
    exact sn_and (S.e _ _ _ _ m h1) (cAnd_ok S m h2)
theorem cOr_ok (S : Snd κ C R) (m : GM κ C Γ X) {pos : Pos} : ∀ {es : List Expr} {e' : E}, cOr R Γ es = some e' → PE X (.BoolOp .Or es pos) (tV κ C e')
  | [a], e', h => pe_one (S.e _ _ _ _ m h)
  | a :: b :: r, e', h => by
    simp only [cOr, Option.bind_eq_some_iff, Option.map_eq_some_iff] at h
    obtain ⟨a', h1, b', h2, rfl⟩ := h
    exact sn_or (S.e _ _ _ _ m h1) (cOr_ok S m h2)
theorem tAnd_ok (S : Snd κ C R) (m : GM κ C Γ X) {pos : Pos} : ∀ {es : List Expr} {e' : E}, WW.tAnd R Γ es = some e' → PW X (.BoolOp .And es pos) (tT κ C e')
  | [a], e', h => pw_and1 (S.t _ _ _ _ m h)
  | a :: b :: r, e', h => by
    simp only [WW.tAnd, Option.bind_eq_some_iff, Option.map_eq_some_iff] at h
    obtain ⟨a', h1, b', h2, rfl⟩ := h
    exact st_and (S.t _ _ _ _ m h1) (tAnd_ok S m h2)
theorem tOr_ok (S : Snd κ C R) (m : GM κ C Γ X) {pos : Pos} : ∀ {es : List Expr} {e' : E}, WW.tOr R Γ es = some e' → PW X (.BoolOp .Or es pos) (tT κ C e')
  | [a], e', h => pw_or1 (S.t _ _ _ _ m h)
  | a :: b :: r, e', h => by
    simp only [WW.tOr, Option.bind_eq_some_iff, Option.map_eq_some_iff] at h
    obtain ⟨a', h1, b', h2, rfl⟩ := h
    exact st_or (S.t _ _ _ _ m h1) (tOr_ok S m h2)
theorem cIx_ok (S : Snd κ C R) (m : GM κ C Γ X) {a ix : Expr} {e' : E} {pos : Pos} (h : cIx R Γ a ix = some e') : PE X (.Subscript a ix pos) (tV κ C e') := by
  unfold cIx at h
  split at h
  · simp only [Option.bind_eq_some_iff, Option.map_eq_some_iff] at h
    obtain ⟨a', h1, b', h2, rfl⟩ := h
    exact sn_sla m.xc (cO_ok S m h1) (cO_ok S m h2)
  · simp only [Option.bind_eq_some_iff, Option.map_eq_some_iff] at h
    obtain ⟨a', h1, b', h2, rfl⟩ := h
    exact sn_slb m.xc (cO_ok S m h1) (cO_ok S m h2)
  · simp only [Option.bind_eq_some_iff, Option.map_eq_some_iff] at h
    obtain ⟨a', h1, b', h2, c', h3, rfl⟩ := h
    exact sn_slc m.xc (cO_ok S m h1) (S.e _ _ _ _ m h2) (S.e _ _ _ _ m h3)
  · simp only [Option.map_eq_some_iff] at h
    obtain ⟨a', h1, rfl⟩ := h
    exact sn_rev m.xc (cO_ok S m h1)
  · cases h
  · rename_i h0
    simp only [Option.bind_eq_some_iff, Option.map_eq_some_iff] at h
    obtain ⟨a', h1, b', h2, rfl⟩ := h
    refine sn_ix m.xc (cO_ok S m h1) (cO_ok S m h2) ?_
    cases ix <;> first | rfl | exact absurd rfl (h0 _ _ _ _)
end
end WW
end
section
set_option maxHeartbeats 1000000
/-! from the text's trees to the small language: calls -/
namespace WW
open PySem PySem.Spec PyProof.Rows L2 L2.DX
def u1 (x : Str) : Option U :=
  if x = "len" then some .len else if x = "abs" then some .abs else if x = "int" then some .int else if x = "list" then some .list else if x = "tuple" then some .tuple
  else if x = "dict" then some .dict else if x = "sorted" then some .sorted else if x = "sum" then some .sum else if x = "all" then some .all else if x = "any" then some .any else none
def b2 (x : Str) : Option B := if x = "max" then some .max else if x = "min" then some .min else none
def tyOf (x : Str) : Option Ty :=
  if x = "int" then some .int else if x = "bool" then some .bool else if x = "str" then some .str else if x = "list" then some .list else if x = "tuple" then some .tuple else if x = "dict" then some .dict else none
def namesOf : List Expr → Option (List (Str × Pos))
  | [] => some []
  | .Name x p :: es => (namesOf es).map ((x, p) :: ·)
  | _ => none
def tysOf (Γ : Gam) : List (Str × Pos) → Option (List Ty)
  | [] => some []
  | (x, _) :: r => if freB Γ x = true then (tyOf x).bind fun t => (tysOf Γ r).map (t :: ·) else none
section
variable (R : Cmp) (Γ : Gam)
def cIsi (x : Str) (e : Expr) : Expr → Option E
  | .Name y _ => if x = "isinstance" ∧ freB Γ y = true ∧ nStar e = true then (tyOf y).bind fun t => (cO R Γ e).map fun e' => .u (.isi [t]) e' else none
  | .Tuple es _ _ => if x = "isinstance" ∧ nStar e = true then (namesOf es).bind fun ns => (tysOf Γ ns).bind fun ts => if ts.length ≤ 30 then (cO R Γ e).map fun e' => .u (.isi ts) e' else none else none
  | _ => none
def cItems (x : Str) : Expr → Option E
  | .Call (.Attribute e m apos) [] [] cpos => if nCall0 e = true ∧ (apos.endLine == cpos.line) = true then
      (if m = "items" then (if x = "list" then (cO R Γ e).map fun e' => .u .items e' else if x = "sorted" then (cO R Γ e).map fun e' => .u .sitems e' else none)
        else if m = "values" then (if x = "list" then (cO R Γ e).map fun e' => .u .vals e' else none) else none)
    else none
  | _ => none
/-- list(range(n)), list(zip(xs, ys)) -/
def cConv (x : Str) : Expr → Option E
  | .Call (.Name y _) [a] [] _ => if x = "list" ∧ y = "range" ∧ freB Γ y = true ∧ nStar a = true then (cO R Γ a).map fun a' => .u .rng a' else none
  | .Call (.Name y _) [a, b] [] _ => if x = "list" ∧ y = "zip" ∧ freB Γ y = true ∧ nStar a = true ∧ nStar b = true then (cO R Γ a).bind fun a' => (cO R Γ b).map fun b' => .b .zipl a' b' else none
  | _ => none
/-- a call of a built-in by name -/
def cBlt (x : Str) : List Expr → Option E
  | [e] => match cItems R Γ x e with
    | some r => some r
    | none => match cConv R Γ x e with
    | some r => some r
    | none => if nStar e = true then (u1 x).bind fun o => (cO R Γ e).map fun e' => .u o e' else none
  | [a, b] => match cIsi R Γ x a b with
    | some r => some r
    | none => if nStar a = true ∧ nStar b = true then (b2 x).bind fun o => (cO R Γ a).bind fun a' => (cO R Γ b).map fun b' => .b o a' b' else none
  | _ => none
def cMeth (a : Expr) (m : Str) (args : List Expr) : Option E :=
  if m = "get" then (if nCall0 a = true then (match args with
    | [b] => if nStar b = true then (cO R Γ a).bind fun a' => (R.e Γ b).map fun b' => .m .get a' b' else none
    | [b, c] => if nStar b = true ∧ nStar c = true then (cO R Γ a).bind fun a' => (R.e Γ b).bind fun b' => (R.e Γ c).map fun c' => .m3 a' b' c' else none
    | _ => none) else none)
  else if m = "index" then (if nCall0 a = true then (match args with
    | [b] => if nStar b = true then (cO R Γ a).bind fun a' => (R.e Γ b).map fun b' => .m .index a' b' else none
    | _ => none) else none)
  else if m = "pop" then (match a, args with
    | .Name x _, [] => (var Γ x).map fun i => .pop i
    | .Name x _, [b] => if nStar b = true then (var Γ x).bind fun i => (R.e Γ b).map fun b' => .popAt i b' else none
    | _, _ => none)
  else if m = "setdefault" then (match a, args with
    | .Name x _, [b, c] => if nStar b = true ∧ nStar c = true then (var Γ x).bind fun i => (R.e Γ b).bind fun b' => (R.e Γ c).map fun c' => .setd i b' c' else none
    | _, _ => none)
  else none
/-- a call -/
def cCall (f : Expr) (args : List Expr) (cpos : Pos) : Option E := match f with
  | .Name x _ => if glB Γ x = true then (if Γ.glo.contains x = true then (cEs R Γ args).map fun es' => .call x es' else if Γ.fre.contains x = true then cBlt R Γ x args else none) else none
  | .Attribute a m apos => if (apos.endLine == cpos.line) = true then cMeth R Γ a m args else none
  | _ => none
end
section
variable {κ : Ctx} {C : Cl} {Γ : Gam} {X : Cx} {R : Cmp} {pos p : Pos} {x : Str}
theorem u1_ok (m : GM κ C Γ X) (hf : freB Γ x = true) {e : Expr} {e' : E} {o : U} (h : u1 x = some o) (he : PE X e (tV κ C e')) (hs : nStar e = true) : PE X (.Call (.Name x p) [e] [] pos) (tV κ C (.u o e')) := by
  obtain ⟨g1, g2, g3, g4⟩ := fre_of m hf
  unfold u1 at h
  split at h
  · rename_i hx; subst hx; cases h; exact sn_blt1 m.xc (c_len m.xc.K) g1 g2 rfl g3 g4 he hs
  split at h
  · rename_i hx; subst hx; cases h; exact sn_blt1 m.xc c_abs g1 g2 rfl g3 g4 he hs
  split at h
  · rename_i hx; subst hx; cases h; exact sn_ty1 m.xc c_int g1 g2 rfl g3 g4 he hs
  split at h
  · rename_i hx; subst hx; cases h; exact sn_ty1 m.xc (c_list m.xc.K m.xc.calm) g1 g2 rfl g3 g4 he hs
  split at h
  · rename_i hx; subst hx; cases h; exact sn_ty1 m.xc (c_tuple m.xc.K) g1 g2 rfl g3 g4 he hs
  split at h
  · rename_i hx; subst hx; cases h; exact sn_ty1 m.xc (c_dict m.xc.K m.xc.w m.xc.calm m.xc.hu) g1 g2 rfl g3 g4 he hs
  split at h
  · rename_i hx; subst hx; cases h; exact sn_blt1 m.xc (c_sorted m.xc.K m.xc.calm m.xc.hu) g1 g2 rfl g3 g4 he hs
  split at h
  · rename_i hx; subst hx; cases h; exact sn_blt1 m.xc (c_sum m.xc.K m.xc.calm) g1 g2 rfl g3 g4 he hs
  split at h
  · rename_i hx; subst hx; cases h; exact sn_blt1 m.xc (c_all m.xc.K m.xc.calm) g1 g2 rfl g3 g4 he hs
  split at h
  · rename_i hx; subst hx; cases h; exact sn_blt1 m.xc (c_any m.xc.K m.xc.calm) g1 g2 rfl g3 g4 he hs
  · cases h
theorem b2_ok (m : GM κ C Γ X) (hf : freB Γ x = true) {a b : Expr} {a' b' : E} {o : B} (h : b2 x = some o) (ha : PE X a (tV κ C a')) (hb : PE X b (tV κ C b')) (hs : nStar a = true) (hs2 : nStar b = true) : PE X (.Call (.Name x p) [a, b] [] pos) (tV κ C (.b o a' b')) := by
  obtain ⟨g1, g2, g3, g4⟩ := fre_of m hf
  unfold b2 at h
  split at h
  · rename_i hx; subst hx; cases h; exact sn_blt2 m.xc (c_max2 m.xc.calm) g1 g2 rfl g3 g4 ha hb hs hs2
  split at h
  · rename_i hx; subst hx; cases h; exact sn_blt2 m.xc (c_min2 m.xc.calm) g1 g2 rfl g3 g4 ha hb hs hs2
  · cases h
theorem tyOf_ok (m : GM κ C Γ X) (hf : freB Γ x = true) {t : Ty} (h : tyOf x = some t) : tyName X x t := by
  obtain ⟨g1, g2, g3, g4⟩ := fre_of m hf
  unfold tyOf at h
  repeat' split at h
  all_goals first
    | (rename_i hx; subst hx; cases h; exact ⟨g1, by rw [m.xc.mg]; exact g2, rfl, g3, g4⟩)
    | cases h
theorem namesOf_ok : ∀ {es : List Expr} {ns : List (Str × Pos)}, namesOf es = some ns → es = ns.map fun n => Expr.Name n.1 n.2
  | [], _, h => by cases h; rfl
  | .Name x p :: es, _, h => by
    simp only [namesOf, Option.map_eq_some_iff] at h
    obtain ⟨ns, h1, rfl⟩ := h
    rw [List.map_cons, ← namesOf_ok h1]
theorem tysOf_ok (m : GM κ C Γ X) : ∀ {ns : List (Str × Pos)} {ts : List Ty}, tysOf Γ ns = some ts → ns.length = ts.length ∧ ∀ (i : Nat) (n : Str × Pos) (t : Ty), ns[i]? = some n → ts[i]? = some t → tyName X n.1 t
  | [], _, h => by cases h; exact ⟨rfl, fun i n t h => by simp at h⟩
  | (x, p) :: ns, _, h => by
    simp only [tysOf] at h
    split at h
    · rename_i hf
      simp only [Option.bind_eq_some_iff, Option.map_eq_some_iff] at h
      obtain ⟨t, h1, ts, h2, rfl⟩ := h
      obtain ⟨l, k⟩ := tysOf_ok m h2
      refine ⟨by simp [l], fun i n t' e1 e2 => ?_⟩
      cases i with
      | zero => cases e1; cases e2; exact tyOf_ok m hf h1
      | succ i => exact k i n t' (by simpa using e1) (by simpa using e2)
    · cases h
theorem cIsi_ok (S : Snd κ C R) (m : GM κ C Γ X) (hf : freB Γ x = true) {e b : Expr} {e' : E} (h : cIsi R Γ x e b = some e') : PE X (.Call (.Name x p) [e, b] [] pos) (tV κ C e') := by
  obtain ⟨g1, g2, g3, g4⟩ := fre_of m hf
  unfold cIsi at h
  split at h
  · split at h
    · rename_i hx
      obtain ⟨hx, hy, hs⟩ := hx
      subst hx
      simp only [Option.bind_eq_some_iff, Option.map_eq_some_iff] at h
      obtain ⟨t, h1, a', h2, rfl⟩ := h
      exact sn_isi1 m.xc g1 g2 rfl g3 g4 (cO_ok S m h2) hs (tyOf_ok m hy h1)
    · cases h
  · split at h
    · rename_i hx
      obtain ⟨hx, hs⟩ := hx
      subst hx
      simp only [Option.bind_eq_some_iff] at h
      obtain ⟨ns, h1, ts, h2, h3⟩ := h
      split at h3
      · rename_i hl
        rw [Option.map_eq_some_iff] at h3
        obtain ⟨a', h4, rfl⟩ := h3
        obtain ⟨k1, k2⟩ := tysOf_ok m h2
        rw [namesOf_ok h1]
        exact sn_isiT m.xc g1 g2 rfl g3 g4 (cO_ok S m h4) hs k1 hl k2
      · cases h3
    · cases h
  · cases h
theorem cItems_ok (S : Snd κ C R) (m : GM κ C Γ X) (hf : freB Γ x = true) {e : Expr} {e' : E} (h : cItems R Γ x e = some e') : PE X (.Call (.Name x p) [e] [] pos) (tV κ C e') := by
  obtain ⟨g1, g2, g3, g4⟩ := fre_of m hf
  unfold cItems at h
  split at h
  · split at h
    · rename_i hc
      obtain ⟨h0, hl⟩ := hc
      split at h
      · rename_i hm
        subst hm
        split at h
        · rename_i hx; subst hx
          rw [Option.map_eq_some_iff] at h
          obtain ⟨a', h1, rfl⟩ := h
          exact sn_items m.xc g1 g2 rfl g3 g4 (cO_ok S m h1) h0 hl
        split at h
        · rename_i hx; subst hx
          rw [Option.map_eq_some_iff] at h
          obtain ⟨a', h1, rfl⟩ := h
          exact sn_sitems m.xc g1 g2 rfl g3 g4 (cO_ok S m h1) h0 hl
        · cases h
      split at h
      · rename_i hm
        subst hm
        split at h
        · rename_i hx; subst hx
          rw [Option.map_eq_some_iff] at h
          obtain ⟨a', h1, rfl⟩ := h
          exact sn_vals m.xc g1 g2 rfl g3 g4 (cO_ok S m h1) h0 hl
        · cases h
      · cases h
    · cases h
  · cases h
theorem cConv_ok (S : Snd κ C R) (m : GM κ C Γ X) (hf : freB Γ x = true) {e : Expr} {e' : E} (h : cConv R Γ x e = some e') : PE X (.Call (.Name x p) [e] [] pos) (tV κ C e') := by
  obtain ⟨g1, g2, _, _⟩ := fre_of m hf
  unfold cConv at h
  split at h
  · split at h
    · rename_i hc
      obtain ⟨hx, hy, hf2, hs⟩ := hc
      obtain ⟨k1, k2, _, _⟩ := fre_of m hf2
      subst hx hy
      rw [Option.map_eq_some_iff] at h
      obtain ⟨a', h1, rfl⟩ := h
      exact sn_rng m.xc g1 g2 k1 k2 (cO_ok S m h1) hs
    · cases h
  · split at h
    · rename_i hc
      obtain ⟨hx, hy, hf2, hs, hs2⟩ := hc
      obtain ⟨k1, k2, _, _⟩ := fre_of m hf2
      subst hx hy
      simp only [Option.bind_eq_some_iff, Option.map_eq_some_iff] at h
      obtain ⟨a', h1, b', h2, rfl⟩ := h
      exact sn_zipl m.xc g1 g2 k1 k2 (cO_ok S m h1) hs (cO_ok S m h2) hs2
    · cases h
  · cases h
theorem cBlt_ok (S : Snd κ C R) (m : GM κ C Γ X) (hf : freB Γ x = true) {args : List Expr} {e' : E} (h : cBlt R Γ x args = some e') : PE X (.Call (.Name x p) args [] pos) (tV κ C e') := by
  unfold cBlt at h
  split at h
  · split at h
    · rename_i r hi
      cases h
      exact cItems_ok S m hf hi
    split at h
    · rename_i r hi
      cases h
      exact cConv_ok S m hf hi
    · split at h
      · rename_i hs
        simp only [Option.bind_eq_some_iff, Option.map_eq_some_iff] at h
        obtain ⟨o, h1, a', h2, rfl⟩ := h
        exact u1_ok m hf h1 (cO_ok S m h2) hs
      · cases h
  · split at h
    · rename_i r hi
      cases h
      exact cIsi_ok S m hf hi
    · split at h
      · rename_i hs
        simp only [Option.bind_eq_some_iff, Option.map_eq_some_iff] at h
        obtain ⟨o, h1, a', h2, b', h3, rfl⟩ := h
        exact b2_ok m hf h1 (cO_ok S m h2) (cO_ok S m h3) hs.1 hs.2
      · cases h
  · cases h
theorem cMeth_ok (S : Snd κ C R) (mm : GM κ C Γ X) {a : Expr} {m : Str} {apos cpos : Pos} {args : List Expr} {e' : E} (hl : (apos.endLine == cpos.line) = true) (h : cMeth R Γ a m args = some e') : PE X (.Call (.Attribute a m apos) args [] cpos) (tV κ C e') := by
  unfold cMeth at h
  split at h
  · rename_i hm; subst hm
    split at h
    · rename_i h0
      split at h
      · split at h
        · rename_i hs
          simp only [Option.bind_eq_some_iff, Option.map_eq_some_iff] at h
          obtain ⟨a', h1, b', h2, rfl⟩ := h
          exact sn_get1 mm.xc (cO_ok S mm h1) (S.e _ _ _ _ mm h2) h0 hs hl
        · cases h
      · split at h
        · rename_i hs
          simp only [Option.bind_eq_some_iff, Option.map_eq_some_iff] at h
          obtain ⟨a', h1, b', h2, c', h3, rfl⟩ := h
          exact sn_get2 mm.xc (cO_ok S mm h1) (S.e _ _ _ _ mm h2) (S.e _ _ _ _ mm h3) h0 hs.1 hs.2 hl
        · cases h
      · cases h
    · cases h
  split at h
  · rename_i hm; subst hm
    split at h
    · rename_i h0
      split at h
      · split at h
        · rename_i hs
          simp only [Option.bind_eq_some_iff, Option.map_eq_some_iff] at h
          obtain ⟨a', h1, b', h2, rfl⟩ := h
          exact sn_index mm.xc (cO_ok S mm h1) (S.e _ _ _ _ mm h2) h0 hs hl
        · cases h
      · cases h
    · cases h
  split at h
  · rename_i hm; subst hm
    split at h
    · rw [Option.map_eq_some_iff] at h
      obtain ⟨i, h1, rfl⟩ := h
      obtain ⟨v1, v2, v3, v4⟩ := var_of mm h1
      exact sn_pop v1 v2 v3 v4 hl
    · split at h
      · rename_i hs
        simp only [Option.bind_eq_some_iff, Option.map_eq_some_iff] at h
        obtain ⟨i, h1, b', h2, rfl⟩ := h
        obtain ⟨v1, v2, v3, v4⟩ := var_of mm h1
        exact sn_popAt (S.e _ _ _ _ mm h2) hs v1 v2 v3 v4 hl
      · cases h
    · cases h
  split at h
  · rename_i hm; subst hm
    split at h
    · split at h
      · rename_i hs
        simp only [Option.bind_eq_some_iff, Option.map_eq_some_iff] at h
        obtain ⟨i, h1, b', h2, c', h3, rfl⟩ := h
        obtain ⟨v1, v2, v3, v4⟩ := var_of mm h1
        exact sn_setd mm.xc (S.e _ _ _ _ mm h2) (S.e _ _ _ _ mm h3) hs.1 hs.2 v1 v2 v3 v4 hl
      · cases h
    · cases h
  · cases h
theorem cCall_ok (S : Snd κ C R) (m : GM κ C Γ X) {f : Expr} {args : List Expr} {cpos : Pos} {e' : E} (h : cCall R Γ f args cpos = some e') : PE X (.Call f args [] cpos) (tV κ C e') := by
  unfold cCall at h
  split at h
  · split at h
    · rename_i hg
      split at h
      · rename_i hc
        rw [Option.map_eq_some_iff] at h
        obtain ⟨es', h1, rfl⟩ := h
        obtain ⟨g1, g2, g3⟩ := gl_of m hg
        obtain ⟨_, k, hr, hd⟩ := m.glo _ (by simpa using hc)
        cases args with
        | nil =>
          cases h1
          exact sn_call0 hd hr g1 g2
        | cons e es =>
          have hs := cEs_star h1
          rw [List.all_cons, Bool.and_eq_true] at hs
          exact sn_call hd hr g1 g2 (cEs_ok S m h1) hs.1 hs.2
      · split at h
        · rename_i hc
          exact cBlt_ok S m (by unfold freB; rw [hg, hc]; rfl) h
        · cases h
    · cases h
  · split at h
    · rename_i hl
      exact cMeth_ok S m hl h
    · cases h
  · cases h
end
end WW
end
section
set_option maxHeartbeats 1000000
/-! from the text's trees to the small language: walks, targets, comprehensions, the steps -/
namespace WW
open PySem PySem.Spec PyProof.Rows L2 L2.DX
def relB (scope sc : Scope) : Scope := { scope with names := scope.names.map fun (n, k) => if (k == .free && sc.kind == .function && sc.names.lookup n == some .cell) then (n, .cell) else (n, k) }
def Gam.blk (Γ : Gam) (scope : Scope) : Gam := { Γ with sc := relB scope Γ.sc, bl := true, cel := (scope.names.map (·.1)).filter fun x => scope.names.lookup x == some .cell }
def ownOf (Γ : Gam) (scope : Scope) : List (Str × Nat) := scope.names.filterMap fun y => if y.2 = .local ∨ y.2 = .cell then (slot Γ y.1).map fun i => (y.1, i) else none
def isTupE : Expr → Bool
  | .Tuple _ _ _ => true
  | _ => false
section
variable (R : Cmp) (Γ : Gam)
def cGs : List Expr → Option (List T)
  | [] => some []
  | e :: es => if nStar e = true then (R.g Γ e).bind fun t => (cGs es).map fun ts => t :: ts else none
def stepG : Expr → Option T
  | .Name x _ => (lvar Γ x).map .n
  | .Tuple es _ _ => (cGs R Γ es).map .t
  | _ => none
def cWalk1 (tg : Expr) (x : Str) (e : Expr) : Option (Nat × List E) :=
  if freB Γ x = true ∧ nStar e = true then
    (if x = "range" then (R.e Γ e).map fun e' => (1, [e'])
    else if x = "enumerate" then (if isTupE tg = true then (R.e Γ e).map fun e' => (2, [e']) else none) else none)
  else none
def cWalk2 (tg : Expr) (x : Str) (a b : Expr) : Option (Nat × List E) :=
  if freB Γ x = true ∧ nStar a = true ∧ nStar b = true then
    (if x = "range" then (R.e Γ a).bind fun a' => (R.e Γ b).map fun b' => (1, [a', b'])
    else if x = "zip" then (if isTupE tg = true then (R.e Γ a).bind fun a' => (R.e Γ b).map fun b' => (3, [a', b']) else none) else none)
  else none
def cWalk (tg : Expr) (e : Expr) : Option (Nat × List E) :=
  match (match e with
    | .Call (.Name x _) [a] [] _ => cWalk1 R Γ tg x a
    | .Call (.Name x _) [a, b] [] _ => cWalk2 R Γ tg x a b
    | _ => none) with
  | some r => some r
  | none => (R.e Γ e).map fun e' => (0, [e'])
def cIfs : List Expr → Option (List E)
  | [] => some []
  | [c] => (R.t Γ c).map fun c' => [c']
  | _ => none
/-- what a comprehension is made of: the walk, the target, the tests, its own slots -/
def cGen (tg it : Expr) (ifs : List Expr) (scope : Scope) : Option (Nat × List E × T × List E × List Nat) :=
  if blkC Γ.N Γ.sc scope (ownOf Γ scope) = true ∧ nSet it = true then
    (cWalk R Γ tg it).bind fun w => (R.g (Γ.blk scope) tg).bind fun t => (cIfs R (Γ.blk scope) ifs).bind fun fs =>
      if (slots t).all (fun i => ((ownOf Γ scope).map (·.2)).contains i) = true then some (w.1, w.2, t, fs, (ownOf Γ scope).map (·.2)) else none
  else none
def cLc (elt : Expr) (gs : List Comprehension) (scope : Scope) : Option E := match gs with
  | [⟨tg, it, ifs, 0⟩] => (cGen R Γ tg it ifs scope).bind fun (k, a, t, fs, own) => (R.e (Γ.blk scope) elt).map fun e' => .lc e' k t a fs own
  | _ => none
def cDc (ke ve : Expr) (gs : List Comprehension) (scope : Scope) : Option E := match gs with
  | [⟨tg, it, ifs, 0⟩] => (cGen R Γ tg it ifs scope).bind fun (k, a, t, fs, own) => (R.e (Γ.blk scope) ke).bind fun k' => (R.e (Γ.blk scope) ve).map fun v' => .dc k' v' k t a fs own
  | _ => none
def stepE : Expr → Option E
  | .Constant c _ _ => cC c
  | .Name x _ => match var Γ x with
    | some i => some (.v i)
    | none => if glB Γ x = true ∧ Γ.glo.contains x = true then some (.fn x) else none
  | .BinOp a op b _ => (binO op).bind fun o => (cO R Γ a).bind fun a' => (cO R Γ b).map fun b' => .b o a' b'
  | .UnaryOp .USub a _ => (cO R Γ a).map fun a' => .u .neg a'
  | .UnaryOp .Not a _ => (R.e Γ a).map fun a' => .not a'
  | .BoolOp .And es _ => cAnd R Γ es
  | .BoolOp .Or es _ => cOr R Γ es
  | .IfExp c a b _ => (R.t Γ c).bind fun c' => (R.e Γ a).bind fun a' => (R.e Γ b).map fun b' => .ite c' a' b'
  | .Compare a ops bs _ => cCmp R Γ a ops bs
  | .Tuple es _ _ => (cEs R Γ es).map .tup
  | .List es _ => (cEs R Γ es).map .lst
  | .Dict [] [] _ => some .dnew
  | .Dict ks vs _ => if ks.length ≤ 15 then (cPs R Γ ks vs).map .dct else none
  | .Subscript a ix _ => cIx R Γ a ix
  | .Call f args [] cpos => cCall R Γ f args cpos
  | .ListComp elt gs scope _ => cLc R Γ elt gs scope
  | .DictComp ke ve gs scope _ => cDc R Γ ke ve gs scope
  | _ => none
def stepT : Expr → Option E
  | .UnaryOp .Not a _ => (R.t Γ a).map .not
  | .BoolOp .And es _ => tAnd R Γ es
  | .BoolOp .Or es _ => tOr R Γ es
  | .Compare a ops bs _ => cCmp R Γ a ops bs
  | e => if plainT e = true then (cO R Γ e).map fun e' => .u .tru e' else none
end
def cmp : Nat → Cmp
  | 0 => ⟨fun _ _ => none, fun _ _ => none, fun _ _ => none⟩
  | n + 1 => ⟨stepE (cmp n), stepT (cmp n), stepG (cmp n)⟩
section
variable {κ : Ctx} {C : Cl} {Γ : Gam} {X : Cx} {R : Cmp} {pos p : Pos} {x : Str}
theorem GM.blk (m : GM κ C Γ X) {scope : Scope} {s : Shared} {H : Hp} {C0 : Addr} {cl : List (Str × Addr)} {fp : List Addr} : GM κ C (Γ.blk scope) (X.blk s H scope (compEnvC scope cl C0 X.env) fp) where
  xc := ⟨m.xc.K, m.xc.w, m.xc.mg, m.xc.hu, m.xc.calm, m.xc.nd⟩
  N := m.N
  sc := by
    show relB scope X.env.scope = relB scope Γ.sc
    rw [m.sc]
  fn := fun x h => by cases h
  cel := fun x h => by
    have h : x ∈ (scope.names.map (·.1)).filter fun x => scope.names.lookup x == some .cell := h
    rw [List.mem_filter] at h
    exact h.2
  glo := fun x h => by
    obtain ⟨h1, k, h2, h3⟩ := m.glo x h
    exact ⟨h1, k, h2, ⟨h3.ex⟩⟩
  fre := m.fre
theorem cGs_ok (S : Snd κ C R) (m : GM κ C Γ X) : ∀ {es : List Expr} {ts : List T}, cGs R Γ es = some ts → PGs X es (tGs κ ts) ∧ es.all nStar = true ∧ es.length = ts.length
  | [], _, h => by cases h; exact ⟨gs_nil, rfl, rfl⟩
  | e :: es, _, h => by
    simp only [cGs] at h
    split at h
    · rename_i hs
      simp only [Option.bind_eq_some_iff, Option.map_eq_some_iff] at h
      obtain ⟨t, h1, ts, h2, rfl⟩ := h
      obtain ⟨k1, k2, k3⟩ := cGs_ok S m h2
      exact ⟨gs_cons (S.g _ _ _ _ m h1) k1 hs, by rw [List.all_cons, hs, k2]; rfl, by rw [List.length_cons, List.length_cons, k3]⟩
    · cases h
theorem stepG_ok (S : Snd κ C R) (m : GM κ C Γ X) {e : Expr} {t : T} (h : stepG R Γ e = some t) : PG X e (tG κ t) := by
  unfold stepG at h
  split at h
  · rw [Option.map_eq_some_iff] at h
    obtain ⟨i, h1, rfl⟩ := h
    obtain ⟨v1, v2, v3⟩ := lvar_of m h1
    exact gn_n m.xc v1 v2 v3
  · rw [Option.map_eq_some_iff] at h
    obtain ⟨ts, h1, rfl⟩ := h
    obtain ⟨k1, k2, k3⟩ := cGs_ok S m h1
    exact gn_t m.xc k1 k2 k3
  · cases h
theorem cWalk_ok (S : Snd κ C R) (m : GM κ C Γ X) {tg e : Expr} {k : Nat} {a : List E} (h : cWalk R Γ tg e = some (k, a)) : PI X tg e (tI κ C k a) := by
  unfold cWalk at h
  split at h
  · rename_i r hr
    cases h
    split at hr
    · unfold cWalk1 at hr
      split at hr
      · rename_i hc
        obtain ⟨g1, g2, g3, g4⟩ := fre_of m hc.1
        split at hr
        · rename_i hx; subst hx
          rw [Option.map_eq_some_iff] at hr
          obtain ⟨e', h1, h2⟩ := hr
          cases h2
          exact sw_rng1 m.xc g1 g2 (S.e _ _ _ _ m h1) hc.2
        split at hr
        · rename_i hx; subst hx
          split at hr
          · rename_i ht
            rw [Option.map_eq_some_iff] at hr
            obtain ⟨e', h1, h2⟩ := hr
            cases h2
            cases tg <;> cases ht
            exact sw_enum m.xc g1 g2 (S.e _ _ _ _ m h1) hc.2
          · cases hr
        · cases hr
      · cases hr
    · unfold cWalk2 at hr
      split at hr
      · rename_i hc
        obtain ⟨g1, g2, g3, g4⟩ := fre_of m hc.1
        split at hr
        · rename_i hx; subst hx
          simp only [Option.bind_eq_some_iff, Option.map_eq_some_iff] at hr
          obtain ⟨a', h1, b', h2, h3⟩ := hr
          cases h3
          exact sw_rng2 m.xc g1 g2 (S.e _ _ _ _ m h1) (S.e _ _ _ _ m h2) hc.2.1 hc.2.2
        split at hr
        · rename_i hx; subst hx
          split at hr
          · rename_i ht
            simp only [Option.bind_eq_some_iff, Option.map_eq_some_iff] at hr
            obtain ⟨a', h1, b', h2, h3⟩ := hr
            cases h3
            cases tg <;> cases ht
            exact sw_zip m.xc g1 g2 (S.e _ _ _ _ m h1) (S.e _ _ _ _ m h2) hc.2.1 hc.2.2
          · cases hr
        · cases hr
      · cases hr
    · cases hr
  · rw [Option.map_eq_some_iff] at h
    obtain ⟨e', h1, h2⟩ := h
    cases h2
    exact sw_any m.xc (S.e _ _ _ _ m h1)
theorem cIfs_ok (S : Snd κ C R) (m : GM κ C Γ X) {ifs : List Expr} {fs : List E} (h : cIfs R Γ ifs = some fs) : PTs X ifs (tTs κ C fs) := by
  unfold cIfs at h
  split at h
  · cases h; exact sts_nil
  · rw [Option.map_eq_some_iff] at h
    obtain ⟨c', h1, rfl⟩ := h
    exact sts_one (S.t _ _ _ _ m h1)
  · cases h
theorem folded_ok {it : Expr} (h : nSet it = true) (env : PySem.Env) : ∀ x, foldedSetIterable it env x = pure x := fun x => by
  cases it <;> first | rfl | simp [nSet] at h
structure GenOk (κ : Ctx) (C : Cl) (X : Cx) (tg it : Expr) (ifs : List Expr) (scope : Scope) (k : Nat) (a : List E) (t : T) (fs : List E) (own : List (Str × Nat)) : Prop where
  hi : PI X tg it (tI κ C k a)
  ok : BlkOk X.N X.env.scope scope own
  hg : ∀ (s : Shared) (H : Hp) (C0 : Addr) (cl : List (Str × Addr)) (fp : List Addr), PG (X.blk s H scope (compEnvC scope cl C0 X.env) fp) tg (tG κ t)
  ht : ∀ (s : Shared) (H : Hp) (C0 : Addr) (cl : List (Str × Addr)) (fp : List Addr), PTs (X.blk s H scope (compEnvC scope cl C0 X.env) fp) ifs (tTs κ C fs)
  hs : ∀ x, foldedSetIterable it X.env x = pure x
  hsl : ∀ i ∈ slots t, i ∈ own.map (·.2)
theorem cGen_ok (S : Snd κ C R) (m : GM κ C Γ X) {tg it : Expr} {ifs : List Expr} {scope : Scope} {k : Nat} {a : List E} {t : T} {fs : List E} {own : List Nat} (h : cGen R Γ tg it ifs scope = some (k, a, t, fs, own)) : own = (ownOf Γ scope).map (·.2) ∧ GenOk κ C X tg it ifs scope k a t fs (ownOf Γ scope) := by
  unfold cGen at h
  split at h
  · rename_i hb
    simp only [Option.bind_eq_some_iff] at h
    obtain ⟨⟨k0, a0⟩, h1, t0, h2, fs0, h3, h4⟩ := h
    split at h4
    · rename_i hsl
      cases h4
      refine ⟨rfl, cWalk_ok S m h1, ?_, fun s H C0 cl fp => S.g _ _ _ _ m.blk h2, fun s H C0 cl fp => cIfs_ok S m.blk h3, folded_ok hb.2 _, fun i hi => ?_⟩
      · rw [m.N, m.sc]
        exact blkOk_by hb.1
      · have := (List.all_eq_true.mp hsl) i hi
        simpa using this
    · cases h4
  · cases h
theorem cLc_ok (S : Snd κ C R) (m : GM κ C Γ X) {elt : Expr} {gs : List Comprehension} {scope : Scope} {e' : E} (h : cLc R Γ elt gs scope = some e') : PE X (.ListComp elt gs scope pos) (tV κ C e') := by
  unfold cLc at h
  split at h
  · simp only [Option.bind_eq_some_iff, Option.map_eq_some_iff] at h
    obtain ⟨⟨k, a, t, fs, own⟩, h1, e1, h2, rfl⟩ := h
    obtain ⟨rfl, z⟩ := cGen_ok S m h1
    exact sn_lc m.xc z.hi z.ok z.hg z.ht (fun s H C0 cl fp => S.e _ _ _ _ m.blk h2) z.hs z.hsl
  · cases h
theorem cDc_ok (S : Snd κ C R) (m : GM κ C Γ X) {ke ve : Expr} {gs : List Comprehension} {scope : Scope} {e' : E} (h : cDc R Γ ke ve gs scope = some e') : PE X (.DictComp ke ve gs scope pos) (tV κ C e') := by
  unfold cDc at h
  split at h
  · simp only [Option.bind_eq_some_iff, Option.map_eq_some_iff] at h
    obtain ⟨⟨k, a, t, fs, own⟩, h1, e1, h2, e2, h3, rfl⟩ := h
    obtain ⟨rfl, z⟩ := cGen_ok S m h1
    exact sn_dc m.xc z.hi z.ok z.hg z.ht (fun s H C0 cl fp => S.e _ _ _ _ m.blk h2) (fun s H C0 cl fp => S.e _ _ _ _ m.blk h3) z.hs z.hsl
  · cases h
theorem stepE_ok (S : Snd κ C R) (m : GM κ C Γ X) {e : Expr} {e' : E} (h : stepE R Γ e = some e') : PE X e (tV κ C e') := by
  unfold stepE at h
  split at h
  · exact cC_ok h
  · split at h
    · rename_i hv
      cases h
      obtain ⟨v1, v2, v3, v4⟩ := var_of m hv
      exact sn_v v1 v2 v3 v4
    · split at h
      · rename_i hc
        cases h
        obtain ⟨g1, g2, g3⟩ := gl_of m hc.1
        obtain ⟨⟨ad, hm⟩, _⟩ := m.glo _ (by simpa using hc.2)
        exact sn_fn m.xc g1 hm g2
      · cases h
  · simp only [Option.bind_eq_some_iff, Option.map_eq_some_iff] at h
    obtain ⟨o, h0, a', h1, b', h2, rfl⟩ := h
    exact sn_bin (binO_ok m h0) (cO_ok S m h1) (cO_ok S m h2)
  · rw [Option.map_eq_some_iff] at h
    obtain ⟨a', h1, rfl⟩ := h
    exact sn_un u_neg (cO_ok S m h1)
  · rw [Option.map_eq_some_iff] at h
    obtain ⟨a', h1, rfl⟩ := h
    exact sn_not (S.e _ _ _ _ m h1)
  · exact cAnd_ok S m h
  · exact cOr_ok S m h
  · simp only [Option.bind_eq_some_iff, Option.map_eq_some_iff] at h
    obtain ⟨c', h0, a', h1, b', h2, rfl⟩ := h
    exact sn_ite (S.t _ _ _ _ m h0) (S.e _ _ _ _ m h1) (S.e _ _ _ _ m h2)
  · exact (cCmp_ok S m h).1
  · rw [Option.map_eq_some_iff] at h
    obtain ⟨a', h1, rfl⟩ := h
    exact sn_tup (cEs_ok S m h1)
  · rw [Option.map_eq_some_iff] at h
    obtain ⟨a', h1, rfl⟩ := h
    exact sn_lst (cEs_ok S m h1)
  · cases h
    exact sn_dnew
  · rename_i hne
    split at h
    · rename_i hl
      rw [Option.map_eq_some_iff] at h
      obtain ⟨a', h1, rfl⟩ := h
      obtain ⟨k1, k2, k3⟩ := cPs_ok S m (pos := ‹Pos›) h1
      refine sn_dct m.xc k1 k2 k3 (fun z => ?_) hl
      subst z
      exact hne rfl (List.eq_nil_of_length_eq_zero k3.symm)
    · cases h
  · exact cIx_ok S m h
  · exact cCall_ok S m h
  · exact cLc_ok S m h
  · exact cDc_ok S m h
  · cases h
theorem stepT_ok (S : Snd κ C R) (m : GM κ C Γ X) {e : Expr} {e' : E} (h : stepT R Γ e = some e') : PT X e (tT κ C e') := by
  unfold stepT at h
  split at h
  · rw [Option.map_eq_some_iff] at h
    obtain ⟨a', h1, rfl⟩ := h
    exact st_not (S.t _ _ _ _ m h1)
  · exact (tAnd_ok S m h).pt
  · exact (tOr_ok S m h).pt
  · exact (cCmp_ok S m h).2
  · split at h
    · rename_i hp
      rw [Option.map_eq_some_iff] at h
      obtain ⟨a', h1, rfl⟩ := h
      exact sn_tru m.xc hp (cO_ok S m h1)
    · cases h
theorem cmp_ok : ∀ n, Snd κ C (cmp n)
  | 0 => ⟨fun _ _ _ _ _ (h : (none : Option E) = some _) => (by cases h), fun _ _ _ _ _ (h : (none : Option E) = some _) => (by cases h), fun _ _ _ _ _ (h : (none : Option T) = some _) => (by cases h)⟩
  | n + 1 => ⟨fun _ _ _ _ m h => stepE_ok (cmp_ok n) m h, fun _ _ _ _ m h => stepT_ok (cmp_ok n) m h, fun _ _ _ _ m h => stepG_ok (cmp_ok n) m h⟩
end
end WW
end
section
set_option maxHeartbeats 1000000
/-! from the text's trees to the small language: assignments -/
namespace WW
open PySem PySem.Spec PyProof.Rows L2 L2.DX
def swB (sc : Scope) (tg e : Expr) : Bool :=
  match (match e with
    | .ListComp _ _ s _ | .SetComp _ _ s _ | .DictComp _ _ _ s _ => some s
    | _ => none) with
  | none => false
  | some s => match tg with
    | .Name t pos => sc.names.lookup t == some .local && pos.line == e.pos.line && !(s.names.any fun (n, k) => n == t && (k == .local || k == .cell))
    | _ => false
theorem sw_eq {sc : Scope} {env : PySem.Env} {tg e : Expr} {l : Nat} (hs : env.scope = sc) (hk : sc.kind = .function) : swapsWith e (some tg) l env = pure (swB sc tg e) := by
  subst hs
  have hb : env.blockKind = .function := by unfold Env.blockKind; rw [hk]; rfl
  unfold swapsWith swB
  cases e <;> first | rfl | skip
  all_goals cases tg <;> first | rfl | skip
  all_goals (simp only [hb]; rfl)
theorem sw_none {e : Expr} {l : Nat} {env : PySem.Env} (h : (match e with
    | .ListComp _ _ _ _ | .SetComp _ _ _ _ | .DictComp _ _ _ _ _ => true
    | _ => false) = false) : swapsWith e none l env = pure false := by
  unfold swapsWith
  cases e <;> first | rfl | cases h
def isStarE : Expr → Bool
  | .Starred _ _ => true
  | _ => false
def swNames (sc : Scope) (ts : List Expr) : List Str := ts.filterMap fun
  | .Name id pos => if sc.names.lookup id == some .local && pos.line == (ts.head?.map (·.pos.line)).getD 0 then some id else none
  | _ => none
def swS (sc : Scope) (tg e : Expr) : Option (Option (List Str)) := match tg, e with
  | .Tuple ts _ _, .Tuple vs _ _ =>
    if (!(ts.length == 2 || ts.length == 3) || vs.length != ts.length) = true then some none
    else if vs.any (fun | .Starred .. => true | _ => false) = true then some none
    else if ((swNames sc ts).length != ts.length || (swNames sc ts).eraseDups.length != (swNames sc ts).length) = true then some none
    else if vs.all (foldedForSure 8) = true then some none
    else if vs.all (constantsAlone 8) = true then none
    else some (some (swNames sc ts))
  | .List _ _, _ => none
  | _, _ => some none
theorem swS_eq {sc : Scope} {env : PySem.Env} {tg e : Expr} {r : Option (List Str)} (hs : env.scope = sc) (hk : sc.kind = .function) (h : swS sc tg e = some r) : swappedStores [tg] e env = pure r := by
  subst hs
  have hb : env.blockKind = .function := by unfold Env.blockKind; rw [hk]; rfl
  unfold swS at h
  split at h
  · rename_i ts k1 p1 vs k2 p2
    unfold swappedStores
    dsimp only
    rw [hb]
    have e0 : (ScopeKind.function != ScopeKind.function) = false := rfl
    rw [e0, Bool.or_false]
    split at h
    · rename_i c; cases h; exact if_pos c
    rename_i c; refine (if_neg c).trans ?_
    split at h
    · rename_i c; cases h; exact if_pos c
    rename_i c; refine (if_neg c).trans ?_
    split at h
    · rename_i c; cases h; exact if_pos c
    rename_i c; refine (if_neg c).trans ?_
    split at h
    · rename_i c; cases h; exact if_pos c
    rename_i c; refine (if_neg c).trans ?_
    split at h
    · cases h
    · rename_i c; cases h; exact if_neg c
  · cases h
  · rename_i h1 h2
    cases h
    unfold swappedStores
    cases tg <;> first | rfl | skip
    · exact (h1 _ _ rfl).elim
    · cases e <;> first | rfl | exact (h2 _ _ _ _ _ _ rfl rfl).elim
end WW
end
section
set_option maxHeartbeats 1000000
/-! from the text's trees to the small language: statements -/
namespace WW
open PySem PySem.Spec PyProof.Rows L2 L2.DX
def lvars (Γ : Gam) : List (Str × Pos) → Option (List Nat)
  | [] => some []
  | (x, _) :: r => (lvar Γ x).bind fun i => (lvars Γ r).map (i :: ·)
def isCompE : Expr → Bool
  | .ListComp _ _ _ _ => true
  | .SetComp _ _ _ _ => true
  | .DictComp _ _ _ _ _ => true
  | _ => false
section
variable (R : Cmp) (Γ : Gam)
/-- a comprehension at a name on one line -/
def cSetC (tg e : Expr) : Option S := match tg, e with
  | .Name y py, .ListComp elt gs scope pos => if swB Γ.sc (.Name y py) (.ListComp elt gs scope pos) = true ∧ oneB Γ y = true then (slot Γ y).bind fun i => (cLc R Γ elt gs scope).map fun e' => .asg (.n i) e' else none
  | .Name y py, .DictComp ke ve gs scope pos => if swB Γ.sc (.Name y py) (.DictComp ke ve gs scope pos) = true ∧ oneB Γ y = true then (slot Γ y).bind fun i => (cDc R Γ ke ve gs scope).map fun e' => .asg (.n i) e' else none
  | _, _ => none
def cGenA (tg e : Expr) : Option S :=
  if swB Γ.sc tg e = true then cSetC R Γ tg e
  else if nStar tg = true then (R.g Γ tg).bind fun t => (R.e Γ e).map fun e' => .asg t e' else none
def cParN (tg e : Expr) : Option S := match tg, e with
  | .Tuple ts _ _, .Tuple es _ _ => (namesOf ts).bind fun xs => (lvars Γ xs).bind fun is => if is.length ≤ 30 then (cEs R Γ es).map fun es' => .par is es' else none
  | _, _ => none
def cPar (names : List Str) (tg e : Expr) : Option S := match tg, e with
  | .Tuple [.Name x _, .Name y _] _ _, .Tuple [a, b] _ _ => (slot Γ x).bind fun i => (slot Γ y).bind fun j =>
      if (oneB Γ x && oneB Γ y && i != j && names == [x, y]) = true then (cEs R Γ [a, b]).map fun es' => .par [i, j] es' else none
  | .Tuple [.Name x _, .Name y _, .Name z _] _ _, .Tuple [a, b, c] _ _ => (slot Γ x).bind fun i => (slot Γ y).bind fun j => (slot Γ z).bind fun l =>
      if (oneB Γ x && oneB Γ y && oneB Γ z && i != j && i != l && j != l && names == [x, y, z]) = true then (cEs R Γ [a, b, c]).map fun es' => .par [i, j, l] es' else none
  | _, _ => none
def cSubA (x : Str) (k e : Expr) : Option S := if nSlice k = true then (var Γ x).bind fun i => (R.e Γ e).bind fun e' => (R.e Γ k).map fun k' => .sub i k' e' else none
/-- a target that may be a thing's item -/
def cTX : Expr → Option TX
  | .Name x _ => (lvar Γ x).map .n
  | .Subscript (.Name x _) k _ => if nSlice k = true then (var Γ x).bind fun i => (R.e Γ k).map fun k' => .s i k' else none
  | _ => none
def cTXs : List Expr → Option (List TX)
  | [] => some []
  | t :: ts => if nStar t = true then (cTX R Γ t).bind fun t' => (cTXs ts).map fun ts' => t' :: ts' else none
def cAsgX (tg e : Expr) : Option S := match tg with
  | .Tuple ts _ _ => if swB Γ.sc tg e = false then (cTXs R Γ ts).bind fun ts' => (R.e Γ e).map fun e' => .asgx ts' e' else none
  | _ => none
def cAsg (tg e : Expr) : Option S := match tg with
  | .Subscript (.Name x _) k _ => cSubA R Γ x k e
  | _ => (swS Γ.sc tg e).bind fun r => match r with
    | some names => cPar R Γ names tg e
    | none => match cParN R Γ tg e with
      | some s => some s
      | none => match cGenA R Γ tg e with
        | some s => some s
        | none => cAsgX R Γ tg e
/-- x.setdefault(k, []).append(e) -/
def cSapp : Expr → Option S
  | .Call (.Attribute (.Call (.Attribute (.Name x _) m1 apos) [k, .List [] _] [] cpos) m2 apos2) [a] [] cpos2 =>
    if m1 = "setdefault" ∧ m2 = "append" ∧ nStar k = true ∧ nStar a = true ∧ (apos.endLine == cpos.line) = true ∧ (apos2.endLine == cpos2.line) = true then
      (var Γ x).bind fun i => (R.e Γ k).bind fun k' => (R.e Γ a).map fun a' => S.sapp i k' a' else none
  | _ => none
/-- an expression that stands alone -/
def cExpr (e : Expr) : Option S := if isCompE e = true then none else
  match (match e with
    | .Call (.Attribute (.Name x _) m apos) [a] [] cpos => if (apos.endLine == cpos.line) = true ∧ nStar a = true then
        (if m = "append" then (var Γ x).bind fun i => (R.e Γ a).map fun a' => S.app i a'
        else if m = "extend" then (var Γ x).bind fun i => (R.e Γ a).map fun a' => S.ext i a' else none) else none
    | _ => none) with
  | some s => some s
  | none => match cSapp R Γ e with
    | some s => some s
    | none => (R.e Γ e).map .ex
def cAug (tg : Expr) (op : Operator) (e : Expr) : Option S := match tg, op with
  | .Name x _, .Add => (lvar Γ x).bind fun i => (R.e Γ e).map fun e' => .aug i .add e'
  | .Name x _, .Sub => (lvar Γ x).bind fun i => (R.e Γ e).map fun e' => .aug i .sub e'
  | _, _ => none
def cRet : Option Expr → Option S
  | none => some .retN
  | some (.Name x p) => match var Γ x with
    | some i => some (.ret (.v i))
    | none => (R.e Γ (.Name x p)).bind fun e' => if isV e' = false then some (.ret e') else none
  | some e => (R.e Γ e).bind fun e' => if isV e' = false then some (.ret e') else none
/-- a statement, the blocks within by B -/
def stepS (B : List Stmt → Option (List S)) : Stmt → Option S
  | .Assign [tg] e _ => cAsg R Γ tg e
  | .Expr e _ => cExpr R Γ e
  | .AugAssign tg op e _ => cAug R Γ tg op e
  | .Return e _ => cRet R Γ e
  | .If c a b _ => (R.t Γ c).bind fun c' => (B a).bind fun a' => (B b).map fun b' => .ite c' a' b'
  | .While c b [] _ => (R.t Γ c).bind fun c' => (B b).map fun b' => .whl c' b'
  | .For tg it b [] _ => if nSet it = true then (cWalk R Γ tg it).bind fun w => (R.g Γ tg).bind fun t => (B b).map fun b' => .for_ w.1 t w.2 b' else none
  | .Break _ => some .brk
  | .Continue _ => some .cnt
  | .Pass _ => some .pass
  | .Raise _ _ _ => some .rai
  | _ => none
def cSs (B : List Stmt → Option (List S)) : List Stmt → Option (List S)
  | [] => some []
  | s :: ss => (stepS R Γ B s).bind fun s' => (cSs B ss).map fun ss' => s' :: ss'
end
def blocks (R : Cmp) (Γ : Gam) : Nat → List Stmt → Option (List S)
  | 0, _ => none
  | n + 1, ss => cSs R Γ (blocks R Γ n) ss
section
variable {κ : Ctx} {C : Cl} {w : Nat} {Γ : Gam} {X : Cx} {R : Cmp} {pos p : Pos} {x : Str}
theorem one_of (m : GM κ C Γ X) (h : oneB Γ x = true) : X.env.scope.names.lookup x = some .local := by
  unfold oneB at h
  rw [m.sc]
  split at h
  · assumption
  · cases h
theorem cSetC_ok (S : Snd κ C R) (m : GM κ C Γ X) (hk : Γ.sc.kind = .function) {tg e : Expr} {s' : WW.S} (h : cSetC R Γ tg e = some s') : PS X (.Assign [tg] e pos) (tSt κ C w s') := by
  unfold cSetC at h
  split at h
  · split at h
    · rename_i hc
      simp only [Option.bind_eq_some_iff, Option.map_eq_some_iff] at h
      obtain ⟨i, h1, e', h2, rfl⟩ := h
      unfold cLc at h2
      split at h2
      · simp only [Option.bind_eq_some_iff, Option.map_eq_some_iff] at h2
        obtain ⟨⟨k, a, t, fs, own⟩, h3, e1, h4, rfl⟩ := h2
        obtain ⟨rfl, z⟩ := cGen_ok S m h3
        refine st_setLc m.xc (by rw [m.N]; exact slot_get h1) (one_of m hc.2) ?_ z.hi z.ok z.hg z.ht (fun s H C0 cl fp => S.e _ _ _ _ m.blk h4) z.hs z.hsl
        rw [sw_eq m.sc hk, hc.1]
      · cases h2
    · cases h
  · split at h
    · rename_i hc
      simp only [Option.bind_eq_some_iff, Option.map_eq_some_iff] at h
      obtain ⟨i, h1, e', h2, rfl⟩ := h
      unfold cDc at h2
      split at h2
      · simp only [Option.bind_eq_some_iff, Option.map_eq_some_iff] at h2
        obtain ⟨⟨k, a, t, fs, own⟩, h3, e1, h4, e2, h5, rfl⟩ := h2
        obtain ⟨rfl, z⟩ := cGen_ok S m h3
        refine st_setDc m.xc (by rw [m.N]; exact slot_get h1) (one_of m hc.2) ?_ z.hi z.ok z.hg z.ht (fun s H C0 cl fp => S.e _ _ _ _ m.blk h4) (fun s H C0 cl fp => S.e _ _ _ _ m.blk h5) z.hs z.hsl
        rw [sw_eq m.sc hk, hc.1]
      · cases h2
    · cases h
  · cases h
theorem sole_eq (m : GM κ C Γ X) (hk : Γ.sc.kind = .function) {tg e : Expr} {l : Nat} (h : swB Γ.sc tg e = false) : swapsWithSole [tg] e l X.env = pure false := by
  show swapsWith e (some tg) l X.env = _
  rw [sw_eq m.sc hk, h]
theorem cGenA_ok (S : Snd κ C R) (m : GM κ C Γ X) (hk : Γ.sc.kind = .function) {tg e : Expr} {s' : WW.S} (hw : swS Γ.sc tg e = some none) (h : cGenA R Γ tg e = some s') : PS X (.Assign [tg] e pos) (tSt κ C w s') := by
  unfold cGenA at h
  split at h
  · exact cSetC_ok S m hk h
  · rename_i hb
    split at h
    · rename_i hn
      simp only [Option.bind_eq_some_iff, Option.map_eq_some_iff] at h
      obtain ⟨t, h1, e', h2, rfl⟩ := h
      exact st_asg (S.e _ _ _ _ m h2) (S.g _ _ _ _ m h1) (sole_eq m hk (by simpa using hb)) (swS_eq m.sc hk hw) hn
    · cases h
theorem lvars_ok (m : GM κ C Γ X) : ∀ {xs : List (Str × Pos)} {is : List Nat}, lvars Γ xs = some is → xs.length = is.length ∧ ∀ (n : Nat) (x : Str × Pos) (i : Nat), xs[n]? = some x → is[n]? = some i → X.N[i]? = some x.1 ∧ Loc X.env.scope x.1 ∧ (X.fn x.1 = true ∨ X.env.scope.names.lookup x.1 = some .local)
  | [], _, h => by cases h; exact ⟨rfl, fun n x i e => by simp at e⟩
  | (x, p) :: xs, _, h => by
    simp only [lvars, Option.bind_eq_some_iff, Option.map_eq_some_iff] at h
    obtain ⟨i, h1, is, h2, rfl⟩ := h
    obtain ⟨l, k⟩ := lvars_ok m h2
    refine ⟨by simp [l], fun n y j e1 e2 => ?_⟩
    cases n with
    | zero => cases e1; cases e2; exact lvar_of m h1
    | succ n => exact k n y j (by simpa using e1) (by simpa using e2)
theorem cParN_ok (S : Snd κ C R) (m : GM κ C Γ X) (hk : Γ.sc.kind = .function) {tg e : Expr} {s' : WW.S} (hw : swS Γ.sc tg e = some none) (h : cParN R Γ tg e = some s') : PS X (.Assign [tg] e pos) (tSt κ C w s') := by
  unfold cParN at h
  split at h
  · simp only [Option.bind_eq_some_iff] at h
    obtain ⟨xs, h1, is, h2, h3⟩ := h
    split at h3
    · rename_i hl
      rw [Option.map_eq_some_iff] at h3
      obtain ⟨es', h4, rfl⟩ := h3
      have e1 := namesOf_ok h1
      subst e1
      obtain ⟨k1, k2⟩ := lvars_ok m h2
      exact st_parN m.xc k1 hl k2 (cEs_par S m h4) (swS_eq m.sc hk hw)
    · cases h3
  · cases h
theorem cPar_ok (S : Snd κ C R) (m : GM κ C Γ X) (hk : Γ.sc.kind = .function) {tg e : Expr} {names : List Str} {s' : WW.S} (hw : swS Γ.sc tg e = some (some names)) (h : cPar R Γ names tg e = some s') : PS X (.Assign [tg] e pos) (tSt κ C w s') := by
  unfold cPar at h
  split at h
  · simp only [Option.bind_eq_some_iff] at h
    obtain ⟨i, h1, j, h2, h3⟩ := h
    split at h3
    · rename_i hc
      simp only [Bool.and_eq_true, bne_iff_ne, ne_eq, beq_iff_eq] at hc
      obtain ⟨⟨⟨c1, c2⟩, c3⟩, c4⟩ := hc
      rw [Option.map_eq_some_iff] at h3
      obtain ⟨es', h4, rfl⟩ := h3
      subst c4
      exact st_par2 (a' := .dnew) (b' := .dnew) m.xc (by rw [m.N]; exact slot_get h1) (by rw [m.N]; exact slot_get h2) c3 (one_of m c1) (one_of m c2) (cEs_par S m h4) (swS_eq m.sc hk hw)
    · cases h3
  · simp only [Option.bind_eq_some_iff] at h
    obtain ⟨i, h1, j, h2, l, h20, h3⟩ := h
    split at h3
    · rename_i hc
      simp only [Bool.and_eq_true, bne_iff_ne, ne_eq, beq_iff_eq] at hc
      obtain ⟨⟨⟨⟨⟨⟨c1, c2⟩, c3⟩, c4⟩, c5⟩, c6⟩, c7⟩ := hc
      rw [Option.map_eq_some_iff] at h3
      obtain ⟨es', h4, rfl⟩ := h3
      subst c7
      exact st_par3 m.xc (by rw [m.N]; exact slot_get h1) (by rw [m.N]; exact slot_get h2) (by rw [m.N]; exact slot_get h20) c4 c5 c6 (one_of m c1) (one_of m c2) (one_of m c3) (cEs_par S m h4) (swS_eq m.sc hk hw)
    · cases h3
  · cases h
theorem cTX_ok (S : Snd κ C R) (m : GM κ C Γ X) {tg : Expr} {t : TX} (h : cTX R Γ tg = some t) : PG X tg (tX κ C t) := by
  unfold cTX at h
  split at h
  · rw [Option.map_eq_some_iff] at h
    obtain ⟨i, h1, rfl⟩ := h
    obtain ⟨v1, v2, v3⟩ := lvar_of m h1
    exact gx_n m.xc v1 v2 v3
  · split at h
    · rename_i hs
      simp only [Option.bind_eq_some_iff, Option.map_eq_some_iff] at h
      obtain ⟨i, h1, k', h3, rfl⟩ := h
      obtain ⟨v1, v2, v3, v4⟩ := var_of m h1
      exact gx_s m.xc v1 v2 v3 v4 (S.e _ _ _ _ m h3) hs
    · cases h
  · cases h
theorem cTXs_ok (S : Snd κ C R) (m : GM κ C Γ X) : ∀ {ts : List Expr} {ts' : List TX}, cTXs R Γ ts = some ts' → PGs X ts (tXs κ C ts') ∧ ts.all nStar = true ∧ ts.length = ts'.length
  | [], _, h => by cases h; exact ⟨gxs_nil, rfl, rfl⟩
  | t :: ts, _, h => by
    simp only [cTXs] at h
    split at h
    · rename_i hs
      simp only [Option.bind_eq_some_iff, Option.map_eq_some_iff] at h
      obtain ⟨t', h1, ts', h2, rfl⟩ := h
      obtain ⟨p1, p2, p3⟩ := cTXs_ok S m h2
      exact ⟨gxs_cons (cTX_ok S m h1) p1 hs, by rw [List.all_cons, hs, p2]; rfl, by rw [List.length_cons, List.length_cons, p3]⟩
    · cases h
theorem cAsgX_ok (S : Snd κ C R) (m : GM κ C Γ X) (hk : Γ.sc.kind = .function) {tg e : Expr} {s' : WW.S} (hw : swS Γ.sc tg e = some none) (h : cAsgX R Γ tg e = some s') : PS X (.Assign [tg] e pos) (tSt κ C w s') := by
  unfold cAsgX at h
  split at h
  · split at h
    · rename_i hb
      simp only [Option.bind_eq_some_iff, Option.map_eq_some_iff] at h
      obtain ⟨ts', h1, e', h2, rfl⟩ := h
      obtain ⟨p1, p2, p3⟩ := cTXs_ok S m h1
      exact st_asgx m.xc (S.e _ _ _ _ m h2) p1 p2 p3 (sole_eq m hk hb) (swS_eq m.sc hk hw)
    · cases h
  · cases h
theorem cAsg_ok (S : Snd κ C R) (m : GM κ C Γ X) (hk : Γ.sc.kind = .function) {tg e : Expr} {s' : WW.S} (h : cAsg R Γ tg e = some s') : PS X (.Assign [tg] e pos) (tSt κ C w s') := by
  unfold cAsg at h
  split at h
  · unfold cSubA at h
    split at h
    · rename_i hs
      simp only [Option.bind_eq_some_iff, Option.map_eq_some_iff] at h
      obtain ⟨i, h1, e', h2, k', h3, rfl⟩ := h
      obtain ⟨v1, v2, v3, v4⟩ := var_of m h1
      refine st_sub m.xc v1 v2 v3 v4 (S.e _ _ _ _ m h2) (S.e _ _ _ _ m h3) hs (sole_eq m hk ?_) (swS_eq m.sc hk ?_)
      · unfold swB
        split <;> rfl
      · rfl
    · cases h
  · rw [Option.bind_eq_some_iff] at h
    obtain ⟨r, h1, h2⟩ := h
    split at h2
    · exact cPar_ok S m hk h1 h2
    · split at h2
      · rename_i s hs
        cases h2
        exact cParN_ok S m hk h1 hs
      split at h2
      · rename_i s hs
        cases h2
        exact cGenA_ok S m hk h1 hs
      · exact cAsgX_ok S m hk h1 h2
theorem cSapp_ok (S : Snd κ C R) (m : GM κ C Γ X) {e : Expr} {s' : WW.S} (h : cSapp R Γ e = some s') : PS X (.Expr e pos) (tSt κ C w s') := by
  unfold cSapp at h
  split at h
  · split at h
    · rename_i hc
      obtain ⟨h1, h2, h3, h4, h5, h6⟩ := hc
      subst h1 h2
      simp only [Option.bind_eq_some_iff, Option.map_eq_some_iff] at h
      obtain ⟨i, g1, k', g2, a', g3, rfl⟩ := h
      obtain ⟨v1, v2, v3, v4⟩ := var_of m g1
      exact st_sapp m.xc v1 v2 v3 v4 (S.e _ _ _ _ m g2) h3 (S.e _ _ _ _ m g3) h4 h5 h6
    · cases h
  · cases h
theorem cExpr_ok (S : Snd κ C R) (m : GM κ C Γ X) {e : Expr} {s' : WW.S} (h : cExpr R Γ e = some s') : PS X (.Expr e pos) (tSt κ C w s') := by
  unfold cExpr at h
  split at h
  · cases h
  rename_i hc
  split at h
  · rename_i r hr
    cases h
    split at hr
    · split at hr
      · rename_i hl
        split at hr
        · rename_i hm; subst hm
          simp only [Option.bind_eq_some_iff, Option.map_eq_some_iff] at hr
          obtain ⟨i, h1, a', h2, rfl⟩ := hr
          obtain ⟨v1, v2, v3, v4⟩ := var_of m h1
          exact st_app v1 v2 v3 v4 (S.e _ _ _ _ m h2) hl.2 hl.1
        split at hr
        · rename_i hm; subst hm
          simp only [Option.bind_eq_some_iff, Option.map_eq_some_iff] at hr
          obtain ⟨i, h1, a', h2, rfl⟩ := hr
          obtain ⟨v1, v2, v3, v4⟩ := var_of m h1
          exact st_ext v1 v2 v3 v4 (S.e _ _ _ _ m h2) hl.2 hl.1
        · cases hr
      · cases hr
    · cases hr
  split at h
  · rename_i r hr
    cases h
    exact cSapp_ok S m hr
  · rw [Option.map_eq_some_iff] at h
    obtain ⟨e', h1, rfl⟩ := h
    refine st_ex (S.e _ _ _ _ m h1) (sw_none ?_)
    cases e <;> first | rfl | exact absurd rfl hc
theorem cAug_ok (S : Snd κ C R) (m : GM κ C Γ X) {tg e : Expr} {op : Operator} {s' : WW.S} (h : cAug R Γ tg op e = some s') : PS X (.AugAssign tg op e pos) (tSt κ C w s') := by
  unfold cAug at h
  split at h
  · simp only [Option.bind_eq_some_iff, Option.map_eq_some_iff] at h
    obtain ⟨i, h1, e', h2, rfl⟩ := h
    obtain ⟨v1, v2, v3⟩ := lvar_of m h1
    exact st_aug m.xc (.inl ⟨rfl, rfl⟩) v1 v2 v3 (S.e _ _ _ _ m h2)
  · simp only [Option.bind_eq_some_iff, Option.map_eq_some_iff] at h
    obtain ⟨i, h1, e', h2, rfl⟩ := h
    obtain ⟨v1, v2, v3⟩ := lvar_of m h1
    exact st_aug m.xc (.inr ⟨rfl, rfl⟩) v1 v2 v3 (S.e _ _ _ _ m h2)
  · cases h
theorem cRet_ok (S : Snd κ C R) (m : GM κ C Γ X) {e : Option Expr} {s' : WW.S} (h : cRet R Γ e = some s') : PS X (.Return e pos) (tSt κ C w s') := by
  unfold cRet at h
  split at h
  · cases h; exact st_retN
  · split at h
    · rename_i hv
      cases h
      obtain ⟨v1, v2, v3, v4⟩ := var_of m hv
      exact st_retV v1 v2 v3 v4
    · rw [Option.bind_eq_some_iff] at h
      obtain ⟨e', h1, h2⟩ := h
      split at h2
      · rename_i hn; cases h2; exact st_ret (S.e _ _ _ _ m h1) hn
      · cases h2
  · rw [Option.bind_eq_some_iff] at h
    obtain ⟨e', h1, h2⟩ := h
    split at h2
    · rename_i hn; cases h2; exact st_ret (S.e _ _ _ _ m h1) hn
    · cases h2
structure BOk (κ : Ctx) (C : Cl) (w : Nat) (X : Cx) (B : List Stmt → Option (List S)) : Prop where
  b : ∀ ss ss', B ss = some ss' → PSs X ss (tSs κ C w ss')
theorem stepS_ok (S : Snd κ C R) (m : GM κ C Γ X) (hk : Γ.sc.kind = .function) (hp : PassesOwn (model X.prog X.w) X.A X.env X.xe) {B : List Stmt → Option (List WW.S)} (hB : BOk κ C w X B) {s : Stmt} {s' : WW.S} (h : stepS R Γ B s = some s') : PS X s (tSt κ C w s') := by
  unfold stepS at h
  split at h
  · exact cAsg_ok S m hk h
  · exact cExpr_ok S m h
  · exact cAug_ok S m h
  · exact cRet_ok S m h
  · simp only [Option.bind_eq_some_iff, Option.map_eq_some_iff] at h
    obtain ⟨c', h1, a', h2, b', h3, rfl⟩ := h
    exact st_ite (S.t _ _ _ _ m h1) (hB.b _ _ h2) (hB.b _ _ h3)
  · simp only [Option.bind_eq_some_iff, Option.map_eq_some_iff] at h
    obtain ⟨c', h1, b', h3, rfl⟩ := h
    exact st_whl hp (S.t _ _ _ _ m h1) (hB.b _ _ h3)
  · split at h
    · rename_i hn
      simp only [Option.bind_eq_some_iff, Option.map_eq_some_iff] at h
      obtain ⟨⟨k, a⟩, h1, t, h2, b', h3, rfl⟩ := h
      exact st_for hp m.xc.calm (cWalk_ok S m h1) (S.g _ _ _ _ m h2) (hB.b _ _ h3) (folded_ok hn _)
    · cases h
  · cases h; exact st_brk
  · cases h; exact st_cnt
  · cases h; exact st_pass
  · cases h; exact st_never
  · cases h
theorem cSs_ok (S : Snd κ C R) (m : GM κ C Γ X) (hk : Γ.sc.kind = .function) (hp : PassesOwn (model X.prog X.w) X.A X.env X.xe) {B : List Stmt → Option (List WW.S)} (hB : BOk κ C w X B) : ∀ {ss : List Stmt} {ss' : List WW.S}, cSs R Γ B ss = some ss' → PSs X ss (tSs κ C w ss')
  | [], _, h => by cases h; exact ss_nil
  | s :: ss, _, h => by
    simp only [cSs, Option.bind_eq_some_iff, Option.map_eq_some_iff] at h
    obtain ⟨s', h1, ss', h2, rfl⟩ := h
    exact ss_cons (stepS_ok S m hk hp hB h1) (cSs_ok S m hk hp hB h2)
theorem blocks_ok (S : Snd κ C R) (m : GM κ C Γ X) (hk : Γ.sc.kind = .function) (hp : PassesOwn (model X.prog X.w) X.A X.env X.xe) : ∀ n, BOk κ C w X (blocks R Γ n)
  | 0 => ⟨fun _ _ h => by cases h⟩
  | n + 1 => ⟨fun _ _ h => cSs_ok S m hk hp (blocks_ok S m hk hp n) h⟩
end
end WW
end
section
set_option maxHeartbeats 1000000
/-! defs -/
namespace WW
open PySem PySem.Spec PyProof.Rows L2 L2.DX
def plainArgs (p : Arguments) : Bool := p.posonlyargs.isEmpty && p.vararg.isNone && p.kwonlyargs.isEmpty && p.kwarg.isNone
theorem zip_look : ∀ {ps : List Str} {us : List Value}, us.length = ps.length → ∀ n ∈ ps, ((ps.zip us).lookup n).isNone = false
  | [], _, _, n, h => by cases h
  | p :: ps, [], h, _, _ => by cases h
  | p :: ps, u :: us, h, n, hn => by
    rw [List.zip_cons_cons, List.lookup_cons]
    split
    · rfl
    · rename_i e
      refine zip_look (by simpa using h) n ?_
      rcases List.mem_cons.mp hn with z | z
      · subst z; simp at e
      · exact z
theorem zip_back : ∀ {ps : List Str} {us : List Value}, us.length = ps.length → ps.Nodup → ps.filterMap (fun n => ((ps.zip us).lookup n).map fun v => (n, v)) = ps.zip us
  | [], _, _, _ => rfl
  | p :: ps, [], h, _ => by cases h
  | p :: ps, u :: us, h, nd => by
    rw [List.nodup_cons] at nd
    rw [List.zip_cons_cons, List.filterMap_cons]
    have e : List.lookup p ((p, u) :: ps.zip us) = some u := by rw [List.lookup_cons, beq_self_eq_true]
    rw [e]
    have hc : ∀ l : List Str, p ∉ l → l.filterMap (fun n => (List.lookup n ((p, u) :: ps.zip us)).map fun v => (n, v)) = l.filterMap (fun n => (List.lookup n (ps.zip us)).map fun v => (n, v)) := by
      intro l
      induction l with
      | nil => intro _; rfl
      | cons a l ih =>
        intro hn
        simp only [List.mem_cons, not_or] at hn
        rw [List.filterMap_cons, List.filterMap_cons, ih hn.2, List.lookup_cons]
        have : (a == p) = false := by
          rw [beq_eq_false_iff_ne]
          exact fun z => hn.1 z.symm
        rw [this]
    show (p, u) :: _ = _
    rw [hc ps nd.1, zip_back (by simpa using h) nd.2]
theorem bind_plain {name qual : Str} {params : Arguments} {body : List Stmt} {scope : Scope} {kV doc pm : Value} {an : Option Addr} {cdv ct : Value} {us : List Value} (h : plainArgs params = true) (hl : us.length = (params.args.map (·.arg)).length) (nd : (params.args.map (·.arg)).Nodup) :
    bindArgs (PySem.W.fnOf name qual params body scope .none kV doc pm an cdv ct) ⟨us, []⟩ = pure ((params.args.map (·.arg)).zip us) := by
  obtain ⟨po, ar, va, ko, kd, kw, de⟩ := params
  unfold plainArgs at h
  simp only [Bool.and_eq_true, List.isEmpty_iff, Option.isNone_iff_eq_none] at h
  obtain ⟨⟨⟨rfl, rfl⟩, rfl⟩, rfl⟩ := h
  have e1 : ∀ n ∈ ar.map (·.arg), (((ar.map (·.arg)).zip us).lookup n).isNone = false := zip_look hl
  have e2 : ((ar.map (·.arg)).take (ar.map (·.arg)).length).filter (fun n => (((ar.map (·.arg)).zip us).lookup n).isNone) = [] := by
    rw [List.take_length, List.filter_eq_nil_iff]
    intro n hn
    rw [e1 n hn]
    simp
  have e3 := zip_back hl nd
  unfold bindArgs
  simp [PySem.W.fnOf, seqItems?, hl]
  have e4 : notAStandIn Value.none = pure () := rfl
  rw [e4, pure_bind, if_neg]
  · rw [← List.filterMap_map] at *
    exact congrArg pure e3
  · simp
    intro a ha
    have := e1 a (List.mem_of_mem_take ha)
    cases hx : List.lookup a ((ar.map (·.arg)).zip us) with
    | none => rw [hx] at this; cases this
    | some v => exact ⟨v, PySem.mem_of_lookup hx⟩
end WW
end
section
set_option maxHeartbeats 1000000
/-! defs of a text: each keeps what the evaluator tells -/
namespace WW
open PySem PySem.Spec PyProof.Rows L2 L2.DX C8
/-- a def's text -/
structure FT where
  params : Arguments
  body : List Stmt
  scope : Scope
/-- a def, compiled: N its slots' names -/
def cFn (n : Nat) (glo fre N : List Str) (t : FT) : Option Fn :=
  if (plainArgs t.params && decide ((t.params.args.map (·.arg)).Nodup) && scC N (t.params.args.map (·.arg)) t.scope) = true then
    (blocks (cmp n) ⟨N, t.scope, false, [], glo, fre⟩ n t.body).map fun b => ⟨(t.params.args.map (·.arg)).length, N.length, b⟩
  else none
/-- a text: its defs' trees, their slots' names -/
structure Txt where
  n : Nat
  glo : List Str
  fre : List Str
  ft : Str → Option FT
  sl : Str → List Str
def Txt.tab (τ : Txt) : Tab := ⟨fun x => (τ.ft x).bind fun t => cFn τ.n τ.glo τ.fre (τ.sl x) t, fun _ => none⟩
/-- what is known of the text behind its top -/
structure TxtOk (κ : Ctx) (τ : Txt) : Prop where
  fn : ∀ x t, τ.ft x = some t → ∃ (f : Addr) (fd : FuncData), κ.mg x = some (.ref f) ∧ FunD κ.K x x t.params t.body t.scope [] [] f fd
  glo : ∀ x ∈ τ.glo, (∃ ad, κ.mg x = some (.ref ad)) ∧ ((τ.tab.f x).isSome = true ∨ x = "_law_draw" ∨ x = "_law_stream")
  fre : ∀ x ∈ τ.fre, κ.mg x = none
section
variable {κ : Ctx} {τ : Txt} {P : Program} {base : Heap} {w k : Nat}
theorem prim_none {x : Str} {ds : List D} {g : G} (h1 : x ≠ "_law_draw") (h2 : x ≠ "_law_stream") : prim x ds g = none := by
  unfold prim
  rw [if_neg h1, if_neg h2]
theorem runF_len {C : Cl} {Fn : Fn} {ds : List D} {g g' : G} {d : D} {f : Bool} (h : runF C w Fn ds g = some (d, f, g')) : ds.length = Fn.np := by
  unfold runF at h
  split at h
  · rename_i c; exact c.1
  · cases h
/-- a def's promise, one level up -/
theorem def_fn (ok : TxtOk κ τ) {x : Str} {t : FT} (ht : τ.ft x = some t) {Fn : Fn} (hF : cFn τ.n τ.glo τ.fre (τ.sl x) t = some Fn) (h1 : x ≠ "_law_draw") (h2 : x ≠ "_law_stream")
    (hc : ∀ (X : Cx), X.prog = P → X.w = κ.w → X.K = κ.K → X.mg = κ.mg → X.base = base → ∀ y ∈ τ.glo, DefOk X κ (callN τ.tab w k) k y) {f : Addr} {fd : FuncData} (F : FunD κ.K x x t.params t.body t.scope [] [] f fd) :
    FnOk P κ.w κ.K κ.mg base CXN (k + 1) f fd (t.params.args.map (·.arg)) (spV κ ((callN τ.tab w (k + 1)).f x)) ∧ plainArgs t.params = true ∧ (t.params.args.map (·.arg)).Nodup := by
  have hF' := hF
  unfold cFn at hF
  split at hF
  · rename_i hcnd
    rw [Option.map_eq_some_iff] at hF
    obtain ⟨b, hb, rfl⟩ := hF
    simp only [Bool.and_eq_true, decide_eq_true_eq] at hcnd
    obtain ⟨⟨hp, hnd⟩, hs⟩ := hcnd
    have hsc := fnScope_by hs
    refine ⟨?_, hp, hnd⟩
    have run_eq : ∀ ds g, (callN τ.tab w (k + 1)).f x ds g = runF (callN τ.tab w k) w ⟨(t.params.args.map (·.arg)).length, (τ.sl x).length, b⟩ ds g := fun ds g => by
      show (match prim x ds g with
        | some r => r
        | none => (τ.tab.f x).bind fun F => runF (callN τ.tab w k) w F ds g) = _
      rw [prim_none h1 h2]
      show (((τ.ft x).bind fun t => cFn τ.n τ.glo τ.fre (τ.sl x) t).bind fun F => runF (callN τ.tab w k) w F ds g) = _
      rw [ht]
      show ((cFn τ.n τ.glo τ.fre (τ.sl x) t).bind fun F => runF (callN τ.tab w k) w F ds g) = _
      rw [hF']
      rfl
    refine F.ok hsc (fun vs H Q E h => ?_) fun cdv A outer s H vs Q E hr h => ?_
    · obtain ⟨F0, g, ds, d, fl, g', _, rl, hrun, _⟩ := h
      rw [run_eq] at hrun
      rw [rl.length, runF_len hrun]
    · obtain ⟨F0, g, ds, d, fl, g', pre, rl, hrun, kk⟩ := h
      rw [run_eq] at hrun
      have hbr := body_run (o := κ.own) (N := τ.sl x) (Q := Q) pre rl rfl hrun kk
      have m : GM κ (callN τ.tab w k) ⟨τ.sl x, t.scope, false, [], τ.glo, τ.fre⟩ (cxOf CXN P κ.w κ.K κ.mg base (τ.sl x) x t.scope f cdv A outer s H E) := {
        xc := ⟨rfl, rfl, rfl, by have := hr.un; show (A.deeper _).units + 70 < cLine; omega, rfl, hsc.nd⟩
        N := rfl
        sc := rfl
        fn := fun _ _ => rfl
        cel := fun y hy => by cases hy
        glo := fun y hy => ⟨(ok.glo y hy).1, k, hr, hc _ rfl rfl rfl rfl rfl y hy⟩
        fre := ok.fre }
      exact ⟨_, (blocks_ok (cmp_ok τ.n) m hsc.kind (passes_of rfl) τ.n).b _ _ hb, hbr⟩
  · cases hF
theorem def_up (ok : TxtOk κ τ) {x : Str} {t : FT} (ht : τ.ft x = some t) {Fn : Fn} (hF : cFn τ.n τ.glo τ.fre (τ.sl x) t = some Fn) (h1 : x ≠ "_law_draw") (h2 : x ≠ "_law_stream")
    (hc : ∀ (X : Cx), X.prog = P → X.w = κ.w → X.K = κ.K → X.mg = κ.mg → X.base = base → ∀ y ∈ τ.glo, DefOk X κ (callN τ.tab w k) k y) :
    ∀ (X : Cx), X.prog = P → X.w = κ.w → X.K = κ.K → X.mg = κ.mg → X.base = base → DefOk X κ (callN τ.tab w (k + 1)) (k + 1) x := by
  intro X e1 e2 e3 e4 e5
  obtain ⟨f, fd, hm, F⟩ := ok.fn x t ht
  obtain ⟨g, hp, hnd⟩ := def_fn ok ht hF h1 h2 hc F
  refine ⟨f, fd, t.params.args.map (·.arg), by rw [e4]; exact hm, by rw [e1, e2, e3, e4, e5]; exact g, by rw [e3]; exact F.kp, ?_⟩
  rw [e3]
  exact F.bindsN fun kV doc pm an cdv ct us hl => bind_plain hp hl hnd
/-- no promise at all -/
theorem def_zero (ok : TxtOk κ τ) {x : Str} {t : FT} (ht : τ.ft x = some t) {Fn : Fn} (hF : cFn τ.n τ.glo τ.fre (τ.sl x) t = some Fn) {X : Cx} (e3 : X.K = κ.K) (e4 : X.mg = κ.mg) : DefOk X κ (callN τ.tab w 0) k x := by
  obtain ⟨f, fd, hm, F⟩ := ok.fn x t ht
  unfold cFn at hF
  split at hF
  · rename_i hcnd
    simp only [Bool.and_eq_true, decide_eq_true_eq] at hcnd
    obtain ⟨⟨hp, hnd⟩, hs⟩ := hcnd
    refine ⟨f, fd, t.params.args.map (·.arg), by rw [e4]; exact hm, ⟨fun vs H Q E h => ?_, fun A outer s H args us vs Q E hr e0 hb r h => ?_⟩, by rw [e3]; exact F.kp, ?_⟩
    · obtain ⟨F0, g, ds, d, fl, g', _, rl, hrun, _⟩ := h
      cases hrun
    · obtain ⟨F0, g, ds, d, fl, g', _, rl, hrun, _⟩ := h
      cases hrun
    · rw [e3]
      exact F.bindsN fun kV doc pm an cdv ct us hl => bind_plain hp hl hnd
  · cases hF
/-- all defs, at each level; the draws' two by themselves -/
theorem def_all (ok : TxtOk κ τ) (hp : ∀ (k : Nat) (X : Cx), X.prog = P → X.w = κ.w → X.K = κ.K → X.mg = κ.mg → X.base = base → ∀ y ∈ τ.glo, (y = "_law_draw" ∨ y = "_law_stream") → DefOk X κ (callN τ.tab w k) k y) :
    ∀ (k : Nat) (X : Cx), X.prog = P → X.w = κ.w → X.K = κ.K → X.mg = κ.mg → X.base = base → ∀ y ∈ τ.glo, DefOk X κ (callN τ.tab w k) k y := by
  intro k
  induction k with
  | zero =>
    intro X e1 e2 e3 e4 e5 y hy
    rcases (ok.glo y hy).2 with h | h
    · obtain ⟨Fn, hF⟩ := Option.isSome_iff_exists.mp h
      have hF : ((τ.ft y).bind fun t => cFn τ.n τ.glo τ.fre (τ.sl y) t) = some Fn := hF
      rw [Option.bind_eq_some_iff] at hF
      obtain ⟨t, ht, hF⟩ := hF
      exact def_zero ok ht hF e3 e4
    · exact hp 0 X e1 e2 e3 e4 e5 y hy h
  | succ k ih =>
    intro X e1 e2 e3 e4 e5 y hy
    by_cases hd : y = "_law_draw" ∨ y = "_law_stream"
    · exact hp (k + 1) X e1 e2 e3 e4 e5 y hy hd
    · rcases (ok.glo y hy).2 with h | h
      · obtain ⟨Fn, hF⟩ := Option.isSome_iff_exists.mp h
        have hF : ((τ.ft y).bind fun t => cFn τ.n τ.glo τ.fre (τ.sl y) t) = some Fn := hF
        rw [Option.bind_eq_some_iff] at hF
        obtain ⟨t, ht, hF⟩ := hF
        simp only [not_or] at hd
        exact def_up ok ht hF hd.1 hd.2 ih X e1 e2 e3 e4 e5
      · exact absurd h hd
end
end WW
end
section
set_option maxHeartbeats 1000000
/-! the stream of draws: it is made -/
namespace WW
open PySem PySem.Spec PyProof.Rows L2 L2.DX C8
section
variable {κ : Ctx} {X : Cx} {H : Hp} {F : Fz} {g : G}
/-- the stream's two objects are new -/
theorem stream_post (p : Pre κ H F g) (hg : g.s = none) {a b : Addr} {ns : List Int} (hb : H b = none) (hab : b ≠ a) (ha : H a = none) :
    Post κ H F (upd (upd H b (.lst (ns.map .int))) a (.lst [.ref b, .int 0, .int 0, .int 17])) ⟨F.m, some (a, b), F.c⟩ ⟨some ⟨ns, 0, 0, 17⟩⟩ := by
  have hs : F.s = none := by
    have := p.st
    unfold StrR at this
    rw [hg] at this
    cases e : F.s with
    | none => rfl
    | some q => rw [e] at this; exact this.elim
  have fm : ∀ c, H c = none → F.m c = none := fun c hc => by
    cases e : F.m c with
    | none => rfl
    | some o => rw [p.fk c o e] at hc; cases hc
  have up : ∀ c o, H c = some o → upd (upd H b (.lst (ns.map .int))) a (.lst [.ref b, .int 0, .int 0, .int 17]) c = some o := fun c o h => by
    rw [upd_ne (fun z => by rw [z, ha] at h; cases h), upd_ne (fun z => by rw [z, hb] at h; cases h)]
    exact h
  refine ⟨⟨fun _ _ h => h, fun q h => (by rw [hs] at h; cases h), fun _ _ h => h⟩, rfl, fun c o h => up c o (p.fk c o h), ?_, ?_, fun c o _ h => up c o h, fun _ _ _ => rfl, fun c h => ?_⟩
  · exact ⟨hab.symm, upd_same, by rw [upd_ne hab, upd_same], fm a ha, fm b hb⟩
  · exact p.tb.le ⟨fun _ _ h => h, fun q h => (by rw [hs] at h; cases h), fun _ _ h => h⟩ fun q _ o h => up q.1 o h
  · obtain ⟨q, e, z⟩ := h
    cases e
    rcases z with z | z
    · rw [z]; exact .inr ha
    · rw [z]; exact .inr hb
def strF (ds : List D) (g : G) : Option (D × Bool × G) := match ds, g.s with
  | [.scr ns], none => some (.strm, false, ⟨some ⟨ns, 0, 0, 17⟩⟩)
  | _, _ => none
theorem prim_str {ds : List D} {g : G} : prim "_law_stream" ds g = some (strF ds g) := by
  unfold prim
  rw [if_neg (by decide), if_pos rfl]
  rfl
theorem call_str {T : Tab} {w k : Nat} {ds : List D} {g : G} : (callN T w (k + 1)).f "_law_stream" ds g = strF ds g := by
  show (match prim "_law_stream" ds g with
    | some r => r
    | none => (T.f "_law_stream").bind fun F => runF (callN T w k) w F ds g) = _
  rw [prim_str]
/-- return [list(script), 0, 0, 17] -/
def streamBody (q1 q2 q3 q4 q5 q6 q7 q8 : Pos) (k1 k2 k3 : Nat) : List Stmt := [.Return (some (.List [.Call (.Name "list" q1) [.Name "script" q2] [] q3, .Constant (.int 0) k1 q4, .Constant (.int 0) k2 q5, .Constant (.int 17) k3 q6] q7)) q8]
theorem stream_walk {q1 q2 q3 q4 q5 q6 q7 q8 : Pos} {k1 k2 k3 : Nat} {vs : List V} {Q : VK} {E : XK} {k : Nat} {τ : Txt} {w : Nat} (hK : X.K = κ.K) (hmg : X.mg = κ.mg) (hN : X.N = [("script" : Str)]) (hv : X.env.scope.names.lookup ("script" : Str) = some NameKind.local) (hg : X.env.scope.names.lookup ("list" : Str) = some NameKind.globalImplicit) (hm : κ.mg "list" = none)
    (h : spV κ ((callN τ.tab w (k + 1)).f "_law_stream") vs H Q E) : ∃ t, PSs X (streamBody q1 q2 q3 q4 q5 q6 q7 q8 k1 k2 k3) t ∧ t { nx := fun _ H' => Q .non H', rt := Q } (L2.start [("script" : Str)] vs) H := by
  have pv : PE X (.Name "script" q2) (tVar 0) := pe_var (by rw [hN]; rfl) (.inl hv)
  have pl := pe_callTy (p := q1) (pos := q3) (call_list_of (X := X)) hg (by rw [hmg]; exact hm) rfl (pa_cons pv pa_nil) (hn := by decide)
  refine ⟨_, pss_one (ps_ret (pe_lst (pa_cons pl (pa_cons pe_int (pa_cons pe_int (pa_cons pe_int pa_nil)))))), ?_⟩
  obtain ⟨F, g, ds, d, f, g', pre, rl, hrun, kk⟩ := h
  rw [call_str] at hrun
  unfold strF at hrun
  split at hrun
  · rename_i ns hgs
    cases hrun
    cases rl with
    | cons ra rb =>
      cases rb
      cases ra with
      | scr sq =>
        rename_i a
        refine ⟨.ref a, rfl, ?_⟩
        have pf : SqL X.K H a (ns.map V.int) := by
          rw [hK]
          exact sqL_le (κ := κ) (F := F) (F' := ⟨H, F.s, F.c⟩) ⟨pre.fk, fun _ z => z, fun _ _ z => z⟩ sq
        refine ⟨a, _, rfl, .inl pf, fun b hb => ⟨show 4 ≤ sizeLine by decide, fun c hc => ?_⟩⟩
        have hbc : b ≠ c := fun z => by rw [z, upd_same] at hc; cases hc
        have hc0 : H c = none := by rw [upd_ne hbc.symm] at hc; exact hc
        refine kk _ _ ⟨F.m, some (c, b), F.c⟩ (stream_post pre hgs hb hbc hc0) ?_
        exact .strm rfl
  · cases hrun
end
end WW
end
section
set_option maxHeartbeats 1000000
/-! the next draw: its reading -/
namespace WW
open PySem PySem.Spec PyProof.Rows L2 L2.DX C8
section
abbrev cI (i : Int) : TE := tC (.int i)
abbrev ixS (K : PySem.W.Frag) (i : Int) : TE := tOp (rIxL K) (tVar 0) (cI i)
abbrev gS (i : Int) : TG := gSub (tVar 0) (cI i) rSetL
abbrev dAdd (a b : TE) : TE := tOp (rI0 fun i j => .int (i + j)) a b
abbrev dMul (a b : TE) : TE := tOp (rI CMul fun i j => .int (i * j)) a b
abbrev dMod (a b : TE) : TE := tOp (rI (fun _ j => 0 < j) fun i j => .int (i % j)) a b
abbrev dPow (a b : TE) : TE := tOp (rI CPow fun i j => .int (i ^ j.toNat)) a b
abbrev dDiv (a b : TE) : TE := tOp (rI CDiv fun i j => .int (i / j)) a b
abbrev dInt (t : TE) : TE := tCB (fun xs H Q => (∃ i, xs = [.int i] ∧ Q (.int i) H) ∨ ∃ k, xs = [.bl k] ∧ Q (.int (if k then 1 else 0)) H) (tCons t tNil)
abbrev dAbs (t : TE) : TE := tCB (fun xs H Q => ∃ i, xs = [.int i] ∧ Q (.int (if i < 0 then -i else i)) H) (tCons t tNil)
abbrev dPop (X : Cx) : TE := fun σ H Q => ixS X.K 0 σ H fun x H1 => TyI X "list" x H1 ∧ tCons (cI 0) tNil σ H1 fun xs H2 => rPopAt x xs H2 Q
abbrev dTest (X : Cx) : TT := L2.tAnd (tTest (tOp rEq (ixS X.K 1) (cI 0))) (tTest (tOp (rNeD X.K) (ixS X.K 0) (tLst tNil)))
abbrev dBody (X : Cx) : TS := tSeq (tAsg (dAbs (dPop X)) (gName 2)) (tSeq (tAsg (dMod (dInt (dAdd (dAdd (dMul (ixS X.K 3) (cI 8191)) (tVar 2)) (cI 3))) (cI 2147483647)) (gS 3))
  (tAsg (tIf (tTest (tOp (rI0 fun i j => .bl (decide (j ≤ i))) (tVar 2) (dPow (cI 10) (cI 18)))) (tVar 2) (cI 0)) (gS 1)))
abbrev dIf (X : Cx) : TS := tIfS (tTest (tOp (rI0 fun i j => .bl (decide (j < i))) (ixS X.K 1) (cI 0))) (tSeq (tAsg (dMod (dInt (ixS X.K 1)) (tVar 1)) (gName 3)) (tSeq (tAsg (dDiv (ixS X.K 1) (tVar 1)) (gS 1)) (tRet (tVar 3)))) tNext
abbrev dEnd (X : Cx) : TS := tSeq (tAsg (dMod (dInt (dPow (dAdd (dAdd (ixS X.K 3) (dMul (cI 7919) (ixS X.K 2))) (cI 104729)) (cI 5))) (cI 2147483629)) (gName 4))
  (tRet (dMod (dMod (dInt (dPow (dAdd (dAdd (dMul (tVar 4) (cI 48271)) (dMul (cI 30011) (ixS X.K 2))) (cI 29)) (cI 3))) (cI 1000000007)) (tVar 1)))
def tDraw (X : Cx) : TS := tSeq (tAsg (dAdd (ixS X.K 2) (cI 1)) (gS 2)) (tSeq (tWhile (dTest X) (dBody X)) (tSeq (dIf X) (dEnd X)))
end
section
variable {K : PySem.W.Frag} {σ : L2.St} {H : Hp} {a : Addr} {xs : List V} {i : Int} {j : Nat} {v : V}
theorem ixS_of {Q : VK} (hσ : σ[0]? = some (some (.ref a))) (hH : H a = some (.lst xs)) (hv : atI xs i = some v) (q : Q v H) : ixS K i σ H Q := ⟨_, hσ, a, xs, i, v, rfl, rfl, .inl (.inl hH), hv, q⟩
theorem gS_of {Q : L2.St → Hp → Prop} {y : V} (hσ : σ[0]? = some (some (.ref a))) (hH : H a = some (.lst xs)) (hj : ixN xs.length i = some j) (q : Q σ (upd H a (.lst (xs.set j y)))) : gS i y σ H Q := ⟨_, hσ, a, xs, i, j, rfl, rfl, hH, hj, q⟩
end
/-- what the stream's objects are, and that all else stands -/
structure DSt (H0 H : Hp) (a b : Addr) (cells : List Int) (cur cnt mix : Int) : Prop where
  ab : a ≠ b
  ha : H a = some (.lst [.ref b, .int cur, .int cnt, .int mix])
  hb : H b = some (.lst (cells.map .int))
  keep : ∀ c o, c ≠ a → c ≠ b → H0 c = some o → H c = some o
section
variable {H0 H : Hp} {a b : Addr} {cells : List Int} {cur cnt mix : Int}
theorem DSt.setA (q : DSt H0 H a b cells cur cnt mix) (cur' cnt' mix' : Int) : DSt H0 (upd H a (.lst [.ref b, .int cur', .int cnt', .int mix'])) a b cells cur' cnt' mix' :=
  ⟨q.ab, upd_same, by rw [upd_ne q.ab.symm]; exact q.hb, fun c o h1 h2 h => by rw [upd_ne h1]; exact q.keep c o h1 h2 h⟩
theorem DSt.setB (q : DSt H0 H a b cells cur cnt mix) (cells' : List Int) : DSt H0 (upd H b (.lst (cells'.map .int))) a b cells' cur cnt mix :=
  ⟨q.ab, by rw [upd_ne q.ab]; exact q.ha, upd_same, fun c o h1 h2 h => by rw [upd_ne h2]; exact q.keep c o h1 h2 h⟩
theorem DSt.new (q : DSt H0 H a b cells cur cnt mix) {p : Addr} {o : HO} (hp : H p = none) : DSt H0 (upd H p o) a b cells cur cnt mix :=
  ⟨q.ab, by rw [upd_ne fun z => by rw [← z, q.ha] at hp; cases hp]; exact q.ha, by rw [upd_ne fun z => by rw [← z, q.hb] at hp; cases hp]; exact q.hb, fun c o h1 h2 h => by
    have := q.keep c o h1 h2 h
    rw [upd_ne fun z => by rw [← z, this] at hp; cases hp]; exact this⟩
end
theorem ints_dp {K : PySem.W.Frag} {H : Hp} : ∀ ns : List Int, DpAll K H (ns.map V.int) (ns.map PyData.int)
  | [] => .nil
  | n :: ns => .cons (.int n) (ints_dp ns)
theorem atI_eq {xs : List V} {i : Nat} {v : V} (h : xs[i]? = some v) : atI xs (i : Int) = some v := atI_nat h
theorem fill_mix : ∀ (cells : List Int) (cur mix : Int), 0 ≤ cur → 0 ≤ mix → mix < 2147483647 → 0 ≤ (fill cells cur mix).2.1 ∧ 0 ≤ (fill cells cur mix).2.2 ∧ (fill cells cur mix).2.2 < 2147483647
  | [], cur, mix, h1, h2, h3 => ⟨h1, h2, h3⟩
  | c :: cs, cur, mix, h1, h2, h3 => by
    unfold fill
    split
    · refine fill_mix cs _ _ ?_ (Int.emod_nonneg _ (by decide)) (Int.emod_lt_of_pos _ (by decide))
      split <;> omega
    · exact ⟨h1, h2, h3⟩
theorem eqv_nil (ns : List Int) : PyData.eqv (.list (ns.map PyData.int)) (.list []) = ns.isEmpty := by cases ns <;> rfl
theorem sh_ints (ns : List Int) : SeqAt.shaped (.list (ns.map PyData.int)) = true := by
  have h1 : PyData.canLayAll0 (ns.map PyData.int) = true := by
    induction ns with
    | nil => rfl
    | cons n ns ih => exact ih
  have h2 : PyData.depthAll (ns.map PyData.int) ≤ 1 := by
    clear h1
    induction ns with
    | nil => exact Nat.zero_le _
    | cons n ns ih => exact Nat.max_le.mpr ⟨by show PyData.depth (.int n) ≤ 1; simp [PyData.depth], ih⟩
  have h3 : (PyData.list (ns.map PyData.int)).depth ≤ 64 := by
    show PyData.depthAll (ns.map PyData.int) + 1 ≤ 64
    omega
  unfold SeqAt.shaped
  rw [decide_eq_true h3]
  show (PyData.canLayAll0 (ns.map PyData.int) && true) = true
  rw [h1]
  rfl
/-- what the draw's text does -/
theorem draw_read {X : Cx} {H : Hp} {a b : Addr} {s s' : Strm} {m r : Int} {Q : VK} {nx : L2.St → Hp → Prop} (hd : drawF s m = some (r, s')) (q0 : DSt H H a b s.cells s.cur s.cnt s.mix) (k : ∀ H', DSt H H' a b s'.cells s'.cur s'.cnt s'.mix → Q (.int r) H') :
    tDraw X { nx := nx, rt := Q } [some (.ref a), some (.int m), none, none, none] H := by
  unfold drawF at hd
  dsimp only at hd
  split at hd
  rotate_left
  · cases hd
  rename_i hc
  obtain ⟨m0, m1, c0, c1, x0, x1, u0⟩ := hc
  have hf := fill_mix s.cells s.cur s.mix u0 x0 x1
  unfold tDraw
  refine ixS_of rfl q0.ha rfl ⟨s.cnt, 1, rfl, rfl, gS_of (j := 2) rfl q0.ha rfl ?_⟩
  have q1 := q0.setA s.cur (s.cnt + 1) s.mix
  refine while_by (fun σ H1 => ∃ cells cur mix c2, σ = [some (.ref a), some (.int m), c2, none, none] ∧ DSt H H1 a b cells cur (s.cnt + 1) mix ∧ 0 ≤ cur ∧ 0 ≤ mix ∧ mix < 2147483647 ∧ fill cells cur mix = fill s.cells s.cur s.mix)
    (fun _ H1 => match H1 b with
      | some (.lst xs) => xs.length
      | _ => 0) ⟨s.cells, s.cur, s.mix, none, rfl, q1, u0, x0, x1, rfl⟩ ?turn ?mono
  case mono =>
    intro σ H Q Q' im h
    obtain ⟨v, e, p, xs, i, z, e1, e2, e3, e4, sc, kk, e5, h⟩ := h
    refine ⟨v, e, p, xs, i, z, e1, e2, e3, e4, sc, kk, e5, ?_⟩
    split at h
    · rename_i hk
      rw [if_pos hk]
      obtain ⟨v, e, p, xs, i, z, e1, e2, e3, e4, sz, h⟩ := h
      refine ⟨v, e, p, xs, i, z, e1, e2, e3, e4, sz, fun p hp => ?_⟩
      obtain ⟨d, e, f1, f2, f3, f4, k2, f5, h⟩ := h p hp
      exact ⟨d, e, f1, f2, f3, f4, k2, f5, im _ _ h⟩
    · rename_i hk
      rw [if_neg hk]
      exact im _ _ h
  case turn =>
    rintro σ H1 ⟨cells, cur, mix, c2, rfl, q, v0, y0, y1, hfl⟩
    have fin : ∀ H2, DSt H H2 a b cells cur (s.cnt + 1) mix → (cur ≠ 0 ∨ cells = []) → tSeq (dIf X) (dEnd X) { nx := nx, rt := Q } [some (.ref a), some (.int m), c2, none, none] H2 := fun H2 q2 hend => by
      have hz : fill s.cells s.cur s.mix = (cells, cur, mix) := by
        rw [← hfl]
        cases cells with
        | nil => rfl
        | cons c cs =>
          have : cur ≠ 0 := by rcases hend with h | h; exact h; cases h
          unfold fill
          rw [if_neg this]
      rw [hz] at hd
      dsimp only at hd
      refine ixS_of rfl q2.ha rfl ⟨cur, 0, rfl, rfl, _, rfl, ?_⟩
      by_cases hp : 0 < cur
      · rw [if_pos hp] at hd
        cases hd
        rw [if_pos (decide_eq_true hp)]
        refine ixS_of rfl q2.ha rfl (.inl ⟨cur, rfl, _, rfl, cur, m, rfl, rfl, m0, ?_⟩)
        refine ixS_of rfl q2.ha rfl ⟨_, rfl, cur, m, rfl, rfl, ⟨m0, m1⟩, gS_of (j := 1) rfl q2.ha rfl ⟨_, rfl, ?_⟩⟩
        exact k _ (q2.setA (cur / m) (s.cnt + 1) mix)
      · rw [if_neg hp] at hd
        cases hd
        rw [if_neg (by simpa using hp)]
        refine ixS_of rfl q2.ha rfl (ixS_of rfl q2.ha rfl ⟨7919, s.cnt + 1, rfl, rfl, .inl ⟨by decide, by decide⟩, mix, _, rfl, rfl, _, 104729, rfl, rfl, _, 5, rfl, rfl, ⟨by decide, by decide, by omega⟩, .inl ⟨_, rfl, _, 2147483629, rfl, rfl, (show (0 : Int) < 2147483629 by decide), ?_⟩⟩)
        have p0 := Int.emod_nonneg ((mix + 7919 * (s.cnt + 1) + 104729) ^ 5) (b := 2147483629) (by decide)
        have p1 := Int.emod_lt_of_pos ((mix + 7919 * (s.cnt + 1) + 104729) ^ 5) (b := 2147483629) (by decide)
        refine ⟨_, rfl, _, 48271, rfl, rfl, .inr ⟨by decide, by decide⟩, ixS_of rfl q2.ha rfl ⟨30011, s.cnt + 1, rfl, rfl, .inl ⟨by decide, by decide⟩, _, _, rfl, rfl, _, 29, rfl, rfl, _, 3, rfl, rfl, ⟨by decide, by decide, ?_⟩, .inl ⟨_, rfl, _, 1000000007, rfl, rfl, (show (0 : Int) < 1000000007 by decide), _, rfl, _, m, rfl, rfl, m0, ?_⟩⟩⟩
        · have e5 : (Int.toNat 5) = 5 := rfl
          rw [e5]
          omega
        · exact k _ q2
    refine ixS_of rfl q.ha rfl ⟨rfl, _, rfl, ?_⟩
    by_cases hcur : cur = 0
    · subst hcur
      refine L2.iteT ?_
      refine ixS_of rfl q.ha rfl ⟨show 0 ≤ sizeLine by decide, fun p hp => ?_⟩
      have qn := q.new (o := .lst []) hp
      refine ⟨.list (cells.map PyData.int), .list [], .lst (.inl (.inl qn.hb)) (ints_dp cells), .lst (.inl (.inl upd_same)) .nil, sh_ints cells, rfl, _, rfl, ?_⟩
      rw [eqv_nil]
      cases cells with
      | nil => exact fin _ qn (.inr rfl)
      | cons c cs =>
        refine L2.iteT ?_
        have e0 : atI [V.ref b, V.int 0, V.int (s.cnt + 1), V.int mix] 0 = some (V.ref b) := rfl
        refine ixS_of rfl qn.ha e0 ⟨?_, b, (c :: cs).map .int, 0, 0, .int c, rfl, rfl, qn.hb, by decide, by decide, ?_, rfl, ?_⟩
        · intro pins σ' s0 v I r
          cases r
          obtain ⟨_, its, n, _, hh⟩ := (show ObjOk X.prog X.w _ s0.heap b (.lst _) from I.hok b _ qn.hb)
          exact ⟨⟨_, hh, rfl⟩, fun b' e => by cases e; exact ⟨_, hh, rfl⟩⟩
        · simp [seqIndex?]
        · have qp := qn.setB cs
          refine ⟨c, rfl, ?_⟩
          refine ixS_of rfl qp.ha rfl ⟨mix, 8191, rfl, rfl, .inl ⟨by omega, by omega⟩, _, rfl, _, _, rfl, rfl, _, 3, rfl, rfl, .inl ⟨_, rfl, _, 2147483647, rfl, rfl, (show (0 : Int) < 2147483647 by decide), gS_of (j := 3) rfl qp.ha rfl ?_⟩⟩
          have qm := qp.setA 0 (s.cnt + 1) ((mix * 8191 + (if c < 0 then -c else c) + 3) % 2147483647)
          have r0 := Int.emod_nonneg (mix * 8191 + (if c < 0 then -c else c) + 3) (b := 2147483647) (by decide)
          have r1 := Int.emod_lt_of_pos (mix * 8191 + (if c < 0 then -c else c) + 3) (b := 2147483647) (by decide)
          refine ⟨_, rfl, 10, 18, rfl, rfl, ⟨by decide, by decide, by decide⟩, _, _, rfl, rfl, _, rfl, ?_⟩
          have hfl' : fill cs (if (1000000000000000000 : Int) ≤ (if c < 0 then -c else c) then (if c < 0 then -c else c) else 0) ((mix * 8191 + (if c < 0 then -c else c) + 3) % 2147483647) = fill s.cells s.cur s.mix := by
            rw [← hfl]
            rfl
          have e18 : ((10 : Int) ^ Int.toNat 18) = 1000000000000000000 := by decide
          have meas : ∀ H2 cur', DSt H H2 a b cs cur' (s.cnt + 1) ((mix * 8191 + (if c < 0 then -c else c) + 3) % 2147483647) → (match H2 b with
              | some (.lst xs) => xs.length
              | _ => 0) < (match H1 b with
              | some (.lst xs) => xs.length
              | _ => 0) := fun H2 cur' qf => by
            rw [qf.hb, q.hb]
            simp
          by_cases hge : (1000000000000000000 : Int) ≤ (if c < 0 then -c else c)
          · rw [if_pos hge] at hfl'
            have qf := qm.setA (if c < 0 then -c else c) (s.cnt + 1) ((mix * 8191 + (if c < 0 then -c else c) + 3) % 2147483647)
            rw [show decide ((10 : Int) ^ Int.toNat 18 ≤ (if c < 0 then -c else c)) = true from decide_eq_true (by rw [e18]; exact hge)]
            refine L2.iteT ⟨_, rfl, gS_of (j := 1) rfl qm.ha rfl ⟨⟨cs, _, _, _, rfl, qf, by omega, r0, r1, hfl'⟩, meas _ _ qf⟩⟩
          · rw [if_neg hge] at hfl'
            have qf := qm.setA 0 (s.cnt + 1) ((mix * 8191 + (if c < 0 then -c else c) + 3) % 2147483647)
            rw [show decide ((10 : Int) ^ Int.toNat 18 ≤ (if c < 0 then -c else c)) = false from decide_eq_false (by rw [e18]; exact hge)]
            refine L2.iteF (gS_of (j := 1) rfl qm.ha rfl ⟨⟨cs, _, _, _, rfl, qf, by omega, r0, r1, hfl'⟩, meas _ _ qf⟩)
    · have e : decide (V.int cur = V.int 0) = false := decide_eq_false fun z => by cases z; exact hcur rfl
      rw [e]
      refine L2.iteF (L2.iteF ?_)
      exact fin _ q (.inl hcur)
def drawG (ds : List D) (g : G) : Option (D × Bool × G) := match ds, g.s with
  | [.strm, .int m], some s => (drawF s m).map fun (r, s') => (.int r, false, ⟨some s'⟩)
  | _, _ => none
theorem prim_draw {ds : List D} {g : G} : prim "_law_draw" ds g = some (drawG ds g) := rfl
theorem call_draw {T : Tab} {w k : Nat} {ds : List D} {g : G} : (callN T w (k + 1)).f "_law_draw" ds g = drawG ds g := rfl
/-- a draw's promise, by its text -/
theorem draw_walk {κ : Ctx} {X : Cx} {τ : Txt} {w k : Nat} {body : List Stmt} {vs : List V} {H : Hp} {Q : VK} {E : XK} (hb : PSs X body (tDraw X)) (h : spV κ ((callN τ.tab w (k + 1)).f "_law_draw") vs H Q E) :
    ∃ t, PSs X body t ∧ t { nx := fun _ H' => Q .non H', rt := Q } (L2.start ["stream", "many", "cell", "digit", "mixed"] vs) H := by
  refine ⟨_, hb, ?_⟩
  obtain ⟨F, g, ds, d, f, g', pre, rl, hrun, kk⟩ := h
  rw [call_draw] at hrun
  unfold drawG at hrun
  split at hrun
  rotate_left
  · cases hrun
  rename_i m s hg
  rw [Option.map_eq_some_iff] at hrun
  obtain ⟨⟨r, s'⟩, hd, he⟩ := hrun
  cases he
  cases rl with
  | cons ra rb =>
    cases rb with
    | cons rb rc =>
      cases rc
      cases rb
      cases ra with
      | strm hs =>
        rename_i a b
        have st := pre.st
        unfold StrR at st
        rw [hg, hs] at st
        obtain ⟨ab, h1, h2, h3, h4⟩ := st
        refine draw_read hd ⟨ab, h1, h2, fun c o _ _ h => h⟩ fun H' q => kk _ H' F ?_ (.int r)
        refine ⟨.rfl, rfl, fun c o h => q.keep c o (fun z => by rw [z, h3] at h; cases h) (fun z => by rw [z, h4] at h; cases h) (pre.fk c o h), ?_, ?_, fun c o hw h => q.keep c o (fun z => hw.1 ⟨_, hs, .inl z⟩) (fun z => hw.1 ⟨_, hs, .inr z⟩) h, fun _ _ _ => rfl, fun c h => .inl h⟩
        · unfold StrR
          rw [hs]
          exact ⟨ab, q.ha, q.hb, h3, h4⟩
        · exact pre.tb.le .rfl fun p hp o h => q.keep p.1 o (fun z => by
            obtain ⟨ps, e, _⟩ := pre.tb p hp
            rw [z, h1] at e
            cases e) (fun z => by
            obtain ⟨ps, e, _⟩ := pre.tb p hp
            rw [z, h2] at e
            cases e) h
/-- no promise at all -/
theorem prim_zero {κ : Ctx} {τ : Txt} {P : Program} {base : Heap} {w k : Nat} {x : Str} {t : FT} (ok : TxtOk κ τ) (ht : τ.ft x = some t) (hp : plainArgs t.params = true) (hnd : (t.params.args.map (·.arg)).Nodup) {X : Cx} (e3 : X.K = κ.K) (e4 : X.mg = κ.mg) : DefOk X κ (callN τ.tab w 0) k x := by
  obtain ⟨f, fd, hm, F⟩ := ok.fn x t ht
  refine ⟨f, fd, t.params.args.map (·.arg), by rw [e4]; exact hm, ⟨fun vs H Q E h => ?_, fun A outer s H args us vs Q E hr e0 hb r h => ?_⟩, by rw [e3]; exact F.kp, ?_⟩
  · obtain ⟨F0, g, ds, d, fl, g', _, rl, hrun, _⟩ := h
    cases hrun
  · obtain ⟨F0, g, ds, d, fl, g', _, rl, hrun, _⟩ := h
    cases hrun
  · rw [e3]
    exact F.bindsN fun kV doc pm an cdv ct us hl => bind_plain hp hl hnd
/-- a def by its text -/
theorem prim_ok {κ : Ctx} {τ : Txt} {P : Program} {base : Heap} {w k : Nat} {x : Str} {t : FT} {N : List Str} (ok : TxtOk κ τ) (ht : τ.ft x = some t) (hp : plainArgs t.params = true) (hnd : (t.params.args.map (·.arg)).Nodup) (hsc : FnScope N (t.params.args.map (·.arg)) t.scope)
    (hlen : ∀ ds g r, (callN τ.tab w k).f x ds g = some r → ds.length = (t.params.args.map (·.arg)).length)
    (hw : 0 < k → ∀ (f : Addr) (cdv : Value) (A : Around) (outer : List PySem.Env) (s : Shared) (H : Hp) (vs : List V) (Q : VK) (E : XK), spV κ ((callN τ.tab w k).f x) vs H Q E →
      (cxOf CXN P κ.w κ.K κ.mg base N x t.scope f cdv A outer s H E).A.units + 70 < cLine →
      ∃ t', PSs (cxOf CXN P κ.w κ.K κ.mg base N x t.scope f cdv A outer s H E) t.body t' ∧ t' { nx := fun _ H' => Q .non H', rt := Q } (L2.start N vs) H) :
    ∀ (X : Cx), X.prog = P → X.w = κ.w → X.K = κ.K → X.mg = κ.mg → X.base = base → DefOk X κ (callN τ.tab w k) k x := by
  intro X e1 e2 e3 e4 e5
  cases k with
  | zero => exact prim_zero (P := P) (base := base) ok ht hp hnd e3 e4
  | succ k =>
    obtain ⟨f, fd, hm, F⟩ := ok.fn x t ht
    refine ⟨f, fd, t.params.args.map (·.arg), by rw [e4]; exact hm, ?_, by rw [e3]; exact F.kp, ?_⟩
    · rw [e1, e2, e3, e4, e5]
      refine F.ok hsc (fun vs H Q E h => ?_) fun cdv A outer s H vs Q E hr h => ?_
      · obtain ⟨F0, g, ds, d, fl, g', _, rl, hrun, _⟩ := h
        rw [rl.length, hlen _ _ _ hrun]
      · exact hw (Nat.succ_pos k) f cdv A outer s H vs Q E h (by have := hr.un; show (A.deeper _).units + 70 < cLine; omega)
    · rw [e3]
      exact F.bindsN fun kV doc pm an cdv ct us hl => bind_plain hp hl hnd
end WW
end
section
set_option maxHeartbeats 1000000
/-! the end: a row's defs by their places, the law's call -/
namespace WW
open PySem PySem.Spec PyProof.Rows L2 L2.DX
def topOf (P : Program) (i : Nat) : Stmt := P.main.body.getD i (.Pass ⟨0, 0, 0, 0⟩)
def ddOf (P : Program) (p : Str × Nat) : He.DefD := ⟨(p.1, none), p.1, p.1, defArgs (topOf P p.2), defBody (topOf P p.2), defScope (topOf P p.2), [], []⟩
def ftOf (P : Program) (idx : List (Str × Nat)) (x : Str) : Option FT := (idx.lookup x).map fun i => ⟨defArgs (topOf P i), defBody (topOf P i), defScope (topOf P i)⟩
def txOf (P : Program) (n : Nat) (idx : List (Str × Nat)) (fre : List Str) (sl : List (Str × List Str)) : Txt := ⟨n, idx.map (·.1), fre, ftOf P idx, fun x => (sl.lookup x).getD []⟩
def faOf (idx : List (Str × Nat)) (fre : List Str) : List He.Fa := idx.map (fun p => .glo p.1) ++ fre.map .free
def kOf (K : PySem.W.Frag) (w : World) (mg : Str → Option Value) : Ctx := ⟨K, w, mg, fun _ => none, [], []⟩
theorem lookup_at {α β : Type} [BEq α] [LawfulBEq α] : ∀ {l : List (α × β)} {x : α} {y : β}, l.lookup x = some y → ∃ j : Nat, l[j]? = some (x, y)
  | [], _, _, h => by cases h
  | (a, b) :: l, x, y, h => by
    rw [List.lookup_cons] at h
    split at h
    · rename_i e
      have e := eq_of_beq e
      cases h
      exact ⟨0, by rw [e]; rfl⟩
    · obtain ⟨j, hj⟩ := lookup_at h
      exact ⟨j + 1, by simpa using hj⟩
theorem txt_ok {P : Program} {n : Nat} {idx : List (Str × Nat)} {fre : List Str} {sl : List (Str × List Str)} {K : PySem.W.Frag} {w : World} {mg : Str → Option Value} {h : Heap} (X : K.In h) (G : h.Ns mainGlobals mg)
    (c : He.SaysD (faOf idx fre) (idx.map (ddOf P)) K) (hc : (idx.all fun p => ((txOf P n idx fre sl).tab.f p.1).isSome || (decide (p.1 = "_law_draw") || decide (p.1 = "_law_stream"))) = true) : TxtOk (kOf K w mg) (txOf P n idx fre sl) where
  fn := fun x t ht => by
    have ht : (idx.lookup x).map _ = some t := ht
    rw [Option.map_eq_some_iff] at ht
    obtain ⟨i, h1, rfl⟩ := ht
    obtain ⟨j, hj⟩ := lookup_at h1
    obtain ⟨fd, F⟩ := c.def_ j (d := ddOf P (x, i)) (by rw [List.getElem?_map, hj]; rfl)
    have hlt := (List.getElem?_eq_some_iff.mp hj).1
    have g := He.glo_ok X G (c.fact j (f := .glo x) (by
      unfold faOf
      rw [List.getElem?_append_left (by rw [List.length_map]; exact hlt), List.getElem?_map, hj]; rfl))
    exact ⟨_, fd, g, F⟩
  glo := fun x hx => by
    obtain ⟨p, hp, rfl⟩ := List.mem_map.mp (show x ∈ idx.map (·.1) from hx)
    obtain ⟨j, hlt, hj⟩ := List.mem_iff_getElem.mp hp
    have hj : idx[j]? = some p := by rw [List.getElem?_eq_getElem hlt, hj]
    refine ⟨⟨_, He.glo_ok X G (c.fact j (f := .glo p.1) (by
      unfold faOf
      rw [List.getElem?_append_left (by rw [List.length_map]; exact hlt), List.getElem?_map, hj]; rfl))⟩, ?_⟩
    have := List.all_eq_true.mp hc p hp
    simp only [Bool.or_eq_true, decide_eq_true_eq] at this
    exact this
  fre := fun x hx => by
    obtain ⟨j, hlt, hj⟩ := List.mem_iff_getElem.mp (show x ∈ fre from hx)
    have hj : fre[j]? = some x := by rw [List.getElem?_eq_getElem hlt, hj]
    exact He.free_ok X G (c.fact (idx.length + j) (f := .free x) (by
      unfold faOf
      rw [List.getElem?_append_right (by rw [List.length_map]; omega), List.length_map, Nat.add_sub_cancel_left, List.getElem?_map, hj]; rfl))
/-- the law's promise at a script -/
theorem sp_law {K : PySem.W.Frag} {w : World} {mg : Str → Option Value} {run : List D → G → Option (D × Bool × G)} {H : Hp} {a : Addr} {ns : List Int} {E : XK} (hS : SqL K H a (ns.map V.int)) {f : Bool} {g' : G} (hr : run [.scr ns] ⟨none⟩ = some (.bl true, f, g')) :
    spV (kOf K w mg) run [.ref a] H (fun v _ => v = .bl true) E := by
  refine ⟨⟨H, none, fun _ => none⟩, ⟨none⟩, [.scr ns], _, f, g', ⟨fun _ _ h => h, trivial, fun p hp => by cases hp⟩, .cons (.scr hS) .nil, hr, fun v H' F' _ rs => ?_⟩
  cases f with
  | false =>
    have rs : Rep (kOf K w mg) F' v (.bl true) := rs
    cases rs
    rfl
  | true =>
    obtain ⟨_, _, rt, _⟩ := rs
    exact rt.elim
end WW
end
section
set_option maxHeartbeats 0
/-! the law's defs, its head, its end -/
namespace Hd
open PySem PySem.Spec PyProof.Rows L2 L2.DX WW
abbrev P : Program := PySem.Challenge.pw_wordforword_k18_whole_means
def idx : List (Str × Nat) := [(("is_list" : Str), 1), (("is_whole" : Str), 2), (("is_number" : Str), 3), (("is_below" : Str), 4), (("is_row" : Str), 5), (("kept_rows" : Str), 12), (("kept_counter" : Str), 13), (("need_counter" : Str), 14), (("closed" : Str), 15), (("both_arrows" : Str), 16), (("useful_of" : Str), 17), (("counted_stands" : Str), 18), (("lowest" : Str), 20), (("weighed" : Str), 21), (("first_round" : Str), 22), (("mean_of" : Str), 23), (("lesser_round" : Str), 24), (("least_round" : Str), 25), (("turned" : Str), 26), (("best_round" : Str), 27), (("both_means" : Str), 28), (("means" : Str), 29), (("need_flag" : Str), 30), (("mean_paper" : Str), 31), (("turn_of" : Str), 32), (("is_paper_of" : Str), 33), (("is_mean_paper" : Str), 34), (("_law_stream" : Str), 36), (("_law_draw" : Str), 37), (("_law_same" : Str), 38), (("_law_copied" : Str), 39), (("_law_loose" : Str), 40), (("_law_unlike" : Str), 41), (("_law_reach" : Str), 42), (("_law_counted" : Str), 43), (("_law_lowest" : Str), 44), (("_law_is_mean_paper" : Str), 45), (("_law_rings" : Str), 46), (("_law_paper_right" : Str), 47), (("law" : Str), 48)]
def fre : List Str := [("abs" : Str), ("all" : Str), ("any" : Str), ("bool" : Str), ("dict" : Str), ("enumerate" : Str), ("int" : Str), ("isinstance" : Str), ("len" : Str), ("list" : Str), ("range" : Str), ("sorted" : Str), ("str" : Str), ("sum" : Str), ("tuple" : Str), ("zip" : Str)]
def sl : List (Str × List Str) := [(("is_list" : Str), [("thing" : Str)]),
  (("is_whole" : Str), [("thing" : Str)]),
  (("is_number" : Str), [("thing" : Str)]),
  (("is_below" : Str), [("thing" : Str), ("most" : Str)]),
  (("is_row" : Str), [("thing" : Str), ("many" : Str)]),
  (("kept_rows" : Str), [("things" : Str), ("bounds" : Str), ("found" : Str), ("thing" : Str), ("part" : Str), ("bound" : Str), (".0" : Str), ("mine" : Str), ("theirs" : Str)]),
  (("kept_counter" : Str), [("thing" : Str), ("stands" : Str), ("letters" : Str), ("starts" : Str), ("moves" : Str), ("ends" : Str), (".0" : Str), ("number" : Str)]),
  (("need_counter" : Str), [("counter" : Str), ("kept" : Str)]),
  (("closed" : Str), [("some" : Str), ("arrows" : Str), ("found" : Str), ("left" : Str), ("there" : Str), (".0" : Str), ("one" : Str)]),
  (("both_arrows" : Str), [("pairs" : Str), ("there" : Str), ("back" : Str), ("one" : Str), ("other" : Str)]),
  (("useful_of" : Str), [("counter" : Str), ("_" : Str), ("starts" : Str), ("moves" : Str), ("ends" : Str), ("there" : Str), ("back" : Str), ("come" : Str), ("goes" : Str), (".0" : Str), ("lead" : Str), ("to" : Str), ("stand" : Str)]),
  (("counted_stands" : Str), [("counter" : Str)]),
  (("lowest" : Str), [("above" : Str), ("below" : Str), ("one" : Str), ("other" : Str)]),
  (("weighed" : Str), [("counter" : Str), ("useful" : Str), ("found" : Str), ("index" : Str), ("lead" : Str), ("_" : Str), ("number" : Str), ("there" : Str)]),
  (("first_round" : Str), [("useful" : Str), ("arrows" : Str), ("found" : Str), ("left" : Str), ("some" : Str), ("row" : Str), ("at" : Str), (".0" : Str), ("stand" : Str), ("_" : Str), ("lead" : Str), ("there" : Str), ("arrow" : Str)]),
  (("mean_of" : Str), [("turn" : Str), (".0" : Str), ("_" : Str), ("number" : Str)]),
  (("lesser_round" : Str), [("useful" : Str), ("arrows" : Str), ("above" : Str), ("below" : Str), ("heights" : Str), ("last" : Str), ("changed" : Str), ("_" : Str), ("arrow" : Str), ("lead" : Str), ("number" : Str), ("there" : Str), ("told" : Str), ("row" : Str), ("at" : Str), (".0" : Str), ("stand" : Str)]),
  (("least_round" : Str), [("useful" : Str), ("arrows" : Str), ("turn" : Str), ("above" : Str), ("below" : Str), ("lesser" : Str), ("heights" : Str)]),
  (("turned" : Str), [("arrows" : Str), (".0" : Str), ("index" : Str), ("lead" : Str), ("number" : Str), ("there" : Str)]),
  (("best_round" : Str), [("useful" : Str), ("arrows" : Str), ("is_least" : Str), ("found" : Str), ("turn" : Str), ("heights" : Str), ("above" : Str), ("below" : Str), ("sign" : Str), (".0" : Str), ("arrow" : Str), ("height" : Str)]),
  (("both_means" : Str), [("useful" : Str), ("arrows" : Str), (".0" : Str), ("is_least" : Str)]),
  (("means" : Str), [("counter" : Str), ("useful" : Str), ("arrows" : Str)]),
  (("need_flag" : Str), [("is_least" : Str)]),
  (("mean_paper" : Str), [("counter" : Str), ("is_least" : Str), ("useful" : Str), ("arrows" : Str), ("found" : Str)]),
  (("turn_of" : Str), [("arrows" : Str), ("thing" : Str), ("arrow" : Str), ("known" : Str), ("found" : Str), ("at" : Str), (".0" : Str), ("one" : Str)]),
  (("is_paper_of" : Str), [("useful" : Str), ("arrows" : Str), ("is_least" : Str), ("thing" : Str), ("turn" : Str), ("above" : Str), ("below" : Str), ("heights" : Str), ("rests" : Str), (".0" : Str), ("height" : Str), ("stand" : Str), ("_" : Str), ("lead" : Str), ("number" : Str), ("there" : Str), ("rest" : Str)]),
  (("is_mean_paper" : Str), [("counter" : Str), ("is_least" : Str), ("thing" : Str), ("useful" : Str), ("arrows" : Str)]),
  (("_law_stream" : Str), [("script" : Str)]),
  (("_law_draw" : Str), [("stream" : Str), ("many" : Str), ("cell" : Str), ("digit" : Str), ("mixed" : Str)]),
  (("_law_same" : Str), [("found" : Str), ("due" : Str), (".0" : Str), ("mine" : Str), ("theirs" : Str)]),
  (("_law_copied" : Str), [("thing" : Str), ("some" : Str), (".0" : Str), ("key" : Str), ("one" : Str)]),
  (("_law_loose" : Str), [("stream" : Str), ("thing" : Str), ("some" : Str), (".0" : Str), ("part" : Str)]),
  (("_law_unlike" : Str), [("things" : Str), ("found" : Str), ("one" : Str)]),
  (("_law_reach" : Str), [("first" : Str), ("links" : Str), ("found" : Str), ("at" : Str), ("ahead" : Str), (".0" : Str), ("link" : Str), ("to" : Str)]),
  (("_law_counted" : Str), [("counter" : Str), ("links" : Str), ("come" : Str), ("go" : Str), (".0" : Str), ("move" : Str), ("pair" : Str), ("one" : Str), ("to" : Str), ("stand" : Str)]),
  (("_law_lowest" : Str), [("above" : Str), ("below" : Str), ("one" : Str), ("other" : Str)]),
  (("_law_is_mean_paper" : Str), [("useful" : Str), ("arrows" : Str), ("is_least" : Str), ("thing" : Str), ("row" : Str), ("heights" : Str), ("known" : Str), ("turn" : Str), ("above" : Str), ("below" : Str), ("high" : Str), ("rests" : Str), (".0" : Str), ("part" : Str), ("one" : Str), ("arrow" : Str), ("index" : Str), ("at" : Str), ("rest" : Str)]),
  (("_law_rings" : Str), [("stream" : Str), ("sizes" : Str), ("moves" : Str), ("rings" : Str), ("many" : Str), ("letter" : Str), ("size" : Str), ("path" : Str), ("adds" : Str), ("lost" : Str), (".0" : Str), ("k" : Str)]),
  (("_law_paper_right" : Str), [("stream" : Str), ("counter" : Str), ("is_least" : Str), ("due" : Str), ("mine" : Str), ("useful_ones" : Str), ("arrows" : Str), ("paper" : Str), ("numbers" : Str), ("heights" : Str), ("at" : Str), ("bent" : Str), ("found" : Str), (".0" : Str), ("index" : Str), ("move" : Str), ("one" : Str)]),
  (("law" : Str), [("script" : Str), ("stream" : Str), ("turn" : Str), ("counter" : Str), ("rings" : Str), ("least" : Str), ("most" : Str), ("ring" : Str), ("due" : Str), ("alone" : Str), (".0" : Str), ("move" : Str)])]
def tx : Txt := txOf P 30 idx fre sl
theorem tx_all : (idx.all fun p => (tx.tab.f p.1).isSome || (decide (p.1 = "_law_draw") || decide (p.1 = "_law_stream"))) = true := by decide +kernel
abbrev R : PySem.W.OpenRow := PySem.W.OpenLaw.row PySem.Challenge.rw_wordforword_k18_whole_means
abbrev hk : PySem.W.Hook := He.hookD 4 (faOf idx fre) (idx.map (ddOf P))
def ob (s : PySem.W.SharedT) : He.AlD := He.obsDG 4 (faOf idx fre) (idx.map (ddOf P)) (HandSHeadRun.getT s)
theorem ob_eq (s : PySem.W.SharedT) : ob s = hk.obs s.abs := He.obsDG_eq (HandSHeadRun.getT_eq s)
def lo0 : List Str := [("is_list" : Str), ("is_whole" : Str), ("is_number" : Str), ("is_below" : Str), ("is_row" : Str), ("ReadError" : Str), ("BadCounter" : Str), ("BadFlag" : Str), ("kept_rows" : Str), ("kept_counter" : Str), ("need_counter" : Str), ("closed" : Str), ("both_arrows" : Str), ("useful_of" : Str), ("counted_stands" : Str), ("lowest" : Str), ("weighed" : Str), ("first_round" : Str), ("mean_of" : Str), ("lesser_round" : Str), ("least_round" : Str), ("turned" : Str), ("best_round" : Str), ("both_means" : Str), ("means" : Str), ("need_flag" : Str), ("mean_paper" : Str), ("turn_of" : Str), ("is_paper_of" : Str), ("is_mean_paper" : Str)]
def lo1 : List Str := [("_law_stream" : Str), ("_law_draw" : Str), ("_law_same" : Str), ("_law_copied" : Str), ("_law_loose" : Str), ("_law_unlike" : Str), ("_law_reach" : Str), ("_law_counted" : Str), ("_law_lowest" : Str), ("_law_is_mean_paper" : Str), ("_law_rings" : Str), ("_law_paper_right" : Str)]
def lo : List Str := lo0 ++ lo1
theorem run (w : World) : HandSHeadRun.RunEq R (PySem.W.view R.prog [48]) hk ob 6000 lo w := by
  intro os
  kernel_rfl
end Hd
end
section
set_option maxHeartbeats 0
namespace Hd
open PySem PySem.Spec PyProof.Rows L2 L2.DX WW
def F_is_list : Fn := ⟨1, 1, [.ret (.u (.isi [.list, .tuple]) (.p 0))]⟩
def F_is_whole : Fn := ⟨1, 1, [.ret (.and (.u (.isi [.int]) (.p 0)) (.not (.u (.isi [.bool]) (.p 0))))]⟩
def F_is_number : Fn := ⟨1, 1, [.ret (.and (.call ("is_whole" : Str) [(.v 0)]) (.b .ge (.p 0) (.c (.int 0))))]⟩
def F_is_below : Fn := ⟨2, 2, [.ret (.and (.call ("is_number" : Str) [(.v 0)]) (.b .lt (.p 0) (.p 1)))]⟩
def F_is_row : Fn := ⟨2, 2, [.ret (.and (.call ("is_list" : Str) [(.v 0)]) (.b .eq (.u .len (.p 0)) (.p 1)))]⟩
def F_kept_rows : Fn := ⟨2, 9, [.ite (.not (.u .tru (.call ("is_list" : Str) [(.v 0)]))) [.ret (.c .non)] [],
    .asg (.n 2) (.lst []),
    .for_ 0 (.n 3) [(.v 0)] [.ite (.not (.u .tru (.call ("is_row" : Str) [(.v 3), (.u .len (.p 1))]))) [.ret (.c .non)] [],
    .for_ 3 (.t [(.n 4), (.n 5)]) [(.v 3), (.v 1)] [.ite (.or (.not (.u .tru (.call ("is_whole" : Str) [(.v 4)]))) (.and (.u .notN (.p 5)) (.not (.u .tru (.call ("is_below" : Str) [(.v 4), (.v 5)]))))) [.ret (.c .non)] []],
    .app 2 (.u .tuple (.p 3))],
    .ite (.u .tru (.u .any (.lc (.not (.b .lt (.p 7) (.p 8))) 3 (.t [(.n 7), (.n 8)]) [(.v 2), (.b .sla (.p 2) (.c (.int 1)))] [] [6, 7, 8]))) [.ret (.c .non)] [],
    .ret (.v 2)]⟩
def F_kept_counter : Fn := ⟨1, 8, [.ite (.or (.not (.u .tru (.call ("is_row" : Str) [(.v 0), (.c (.int 5))]))) (.not (.u .tru (.u .all (.lc (.and (.call ("is_whole" : Str) [(.v 7)]) (.b .gt (.p 7) (.c (.int 0)))) 0 (.n 7) [(.b .slb (.p 0) (.c (.int 2)))] [] [6, 7]))))) [.ret (.c .non)] [],
    .par [1, 2] [(.b .idx (.p 0) (.c (.int 0))), (.b .idx (.p 0) (.c (.int 1)))],
    .asg (.n 3) (.call ("kept_rows" : Str) [(.b .idx (.p 0) (.c (.int 2))), (.tup [(.v 1), (.c .non)])]),
    .asg (.n 4) (.call ("kept_rows" : Str) [(.b .idx (.p 0) (.c (.int 3))), (.tup [(.v 1), (.v 2), (.c .non), (.v 1)])]),
    .asg (.n 5) (.call ("kept_rows" : Str) [(.b .idx (.p 0) (.c (.int 4))), (.tup [(.v 1), (.c .non)])]),
    .ite (.or (.u .isN (.p 3)) (.or (.u .isN (.p 4)) (.u .isN (.p 5)))) [.ret (.c .non)] [],
    .ret (.tup [(.v 1), (.v 2), (.v 3), (.v 4), (.v 5)])]⟩
def F_need_counter : Fn := ⟨1, 2, [.asg (.n 1) (.call ("kept_counter" : Str) [(.v 0)]),
    .ite (.u .isN (.p 1)) [.rai] [],
    .ret (.v 1)]⟩
def F_closed : Fn := ⟨2, 7, [.par [2, 3] [(.dc (.v 6) (.c (.bl true)) 0 (.n 6) [(.v 0)] [] [5, 6]), (.u .list (.p 0))],
    .whl (.u .tru (.p 3)) [.for_ 0 (.n 4) [(.m3 (.p 1) (.pop 3) (.lst []))] [.ite (.b .notin (.p 4) (.p 2)) [.sub 2 (.v 4) (.c (.bl true)),
    .app 3 (.v 4)] []]],
    .ret (.v 2)]⟩
def F_both_arrows : Fn := ⟨1, 5, [.par [1, 2] [.dnew, .dnew],
    .for_ 0 (.t [(.n 3), (.n 4)]) [(.v 0)] [.sapp 1 (.v 3) (.v 4),
    .sapp 2 (.v 4) (.v 3)],
    .ret (.tup [(.v 1), (.v 2)])]⟩
def F_useful_of : Fn := ⟨1, 13, [.asg (.t [(.n 1), (.n 1), (.n 2), (.n 3), (.n 4)]) (.v 0),
    .asg (.t [(.n 5), (.n 6)]) (.call ("both_arrows" : Str) [(.lc (.tup [(.v 10), (.v 11)]) 0 (.t [(.n 10), (.n 1), (.n 1), (.n 11)]) [(.v 3)] [] [9, 10, 1, 11])]),
    .asg (.n 7) (.call ("closed" : Str) [(.lc (.v 12) 0 (.t [(.n 12), (.n 1)]) [(.v 2)] [] [9, 12, 1]), (.v 5)]),
    .asg (.n 8) (.call ("closed" : Str) [(.lc (.v 12) 0 (.t [(.n 12), (.n 1)]) [(.v 4)] [] [9, 12, 1]), (.v 6)]),
    .ret (.lc (.v 12) 1 (.n 12) [(.b .idx (.p 0) (.c (.int 0)))] [(.and (.b .isin (.p 12) (.p 7)) (.b .isin (.p 12) (.p 8)))] [9, 12])]⟩
def F_counted_stands : Fn := ⟨1, 1, [.ret (.call ("useful_of" : Str) [(.call ("need_counter" : Str) [(.v 0)])])]⟩
def F_lowest : Fn := ⟨2, 4, [.par [2, 3] [(.u .abs (.p 0)), (.v 1)],
    .whl (.u .tru (.p 3)) [.par [2, 3] [(.v 3), (.b .mod (.p 2) (.p 3))]],
    .ret (.tup [(.b .fdiv (.p 0) (.p 2)), (.b .fdiv (.p 1) (.p 2))])]⟩
def F_weighed : Fn := ⟨1, 8, [.asg (.n 1) (.call ("useful_of" : Str) [(.v 0)]),
    .asg (.n 2) (.lst []),
    .for_ 2 (.t [(.n 3), (.t [(.n 4), (.n 5), (.n 6), (.n 7)])]) [(.b .idx (.p 0) (.c (.int 3)))] [.ite (.and (.b .isin (.p 4) (.p 1)) (.b .isin (.p 7) (.p 1))) [.app 2 (.tup [(.v 3), (.v 4), (.v 6), (.v 7)])] []],
    .ret (.tup [(.v 1), (.v 2)])]⟩
def F_first_round : Fn := ⟨2, 13, [.par [2, 3] [(.lst []), (.u .list (.p 0))],
    .asg (.n 4) (.c (.bl true)),
    .whl (.u .tru (.p 4)) [.asg (.n 4) (.lc (.v 8) 0 (.n 8) [(.v 3)] [(.not (.u .tru (.u .any (.lc (.and (.b .eq (.p 10) (.p 8)) (.b .isin (.p 11) (.p 3))) 0 (.t [(.n 9), (.n 10), (.n 9), (.n 11)]) [(.v 1)] [] [7, 9, 10, 11]))))] [7, 8]),
    .asg (.n 3) (.lc (.v 8) 0 (.n 8) [(.v 3)] [(.b .notin (.p 8) (.p 4))] [7, 8])],
    .ite (.not (.u .tru (.p 3))) [.ret (.c .non)] [],
    .par [5, 6] [(.lst []), (.b .idx (.p 3) (.c (.int 0)))],
    .whl (.b .notin (.p 6) (.p 5)) [.app 5 (.v 6),
    .app 2 (.b .idx (.lc (.v 12) 0 (.n 12) [(.v 1)] [(.and (.b .eq (.b .idx (.p 12) (.c (.int 1))) (.p 6)) (.b .isin (.b .idx (.p 12) (.c (.int 3))) (.p 3)))] [7, 12]) (.c (.int 0))),
    .asg (.n 6) (.b .idx (.b .idx (.p 2) (.u .neg (.c (.int 1)))) (.c (.int 3)))],
    .ret (.b .sla (.p 2) (.m .index (.p 5) (.v 6)))]⟩
def F_mean_of : Fn := ⟨1, 4, [.ret (.call ("lowest" : Str) [(.u .sum (.lc (.v 3) 0 (.t [(.n 2), (.n 2), (.n 3), (.n 2)]) [(.v 0)] [] [1, 2, 3])), (.u .len (.p 0))])]⟩
def F_lesser_round : Fn := ⟨4, 17, [.par [4, 5] [(.dc (.v 16) (.c (.int 0)) 0 (.n 16) [(.v 0)] [] [15, 16]), .dnew],
    .asg (.n 6) (.c .non),
    .for_ 1 (.n 7) [(.b .add (.u .len (.p 0)) (.c (.int 1)))] [.asg (.n 6) (.c .non),
    .for_ 0 (.n 8) [(.v 1)] [.asg (.t [(.n 7), (.n 9), (.n 10), (.n 11)]) (.v 8),
    .asg (.n 12) (.b .sub (.b .add (.b .idx (.p 4) (.p 9)) (.b .mul (.p 10) (.p 3))) (.p 2)),
    .ite (.b .lt (.p 12) (.b .idx (.p 4) (.p 11))) [.asgx [(.s 4 (.v 11)), (.s 5 (.v 11)), (.n 6)] (.tup [(.v 12), (.v 8), (.v 11)])] []],
    .ite (.u .isN (.p 6)) [.ret (.tup [(.c .non), (.lc (.b .idx (.p 4) (.p 16)) 0 (.n 16) [(.v 0)] [] [15, 16])])] []],
    .for_ 0 (.n 7) [(.v 0)] [.asg (.n 6) (.b .idx (.b .idx (.p 5) (.p 6)) (.c (.int 1)))],
    .par [13, 14] [(.lst [(.b .idx (.p 5) (.p 6))]), (.b .idx (.b .idx (.p 5) (.p 6)) (.c (.int 1)))],
    .whl (.b .ne (.p 14) (.p 6)) [.app 13 (.b .idx (.p 5) (.p 14)),
    .asg (.n 14) (.b .idx (.b .idx (.p 5) (.p 14)) (.c (.int 1)))],
    .ret (.tup [(.u .rev (.p 13)), (.c .non)])]⟩
def F_least_round : Fn := ⟨2, 7, [.asg (.n 2) (.call ("first_round" : Str) [(.v 0), (.v 1)]),
    .ite (.u .isN (.p 2)) [.ret (.c .non)] [],
    .asg (.t [(.n 3), (.n 4)]) (.call ("mean_of" : Str) [(.v 2)]),
    .asg (.t [(.n 5), (.n 6)]) (.call ("lesser_round" : Str) [(.v 0), (.v 1), (.v 3), (.v 4)]),
    .whl (.u .notN (.p 5)) [.asg (.n 2) (.v 5),
    .asg (.t [(.n 3), (.n 4)]) (.call ("mean_of" : Str) [(.v 2)]),
    .asg (.t [(.n 5), (.n 6)]) (.call ("lesser_round" : Str) [(.v 0), (.v 1), (.v 3), (.v 4)])],
    .ret (.tup [(.v 2), (.v 6)])]⟩
def F_turned : Fn := ⟨1, 6, [.ret (.lc (.tup [(.v 2), (.v 3), (.u .neg (.p 4)), (.v 5)]) 0 (.t [(.n 2), (.n 3), (.n 4), (.n 5)]) [(.v 0)] [] [1, 2, 3, 4, 5])]⟩
def F_best_round : Fn := ⟨3, 12, [.asg (.n 3) (.call ("least_round" : Str) [(.v 0), (.ite (.u .tru (.p 2)) (.v 1) (.call ("turned" : Str) [(.v 1)]))]),
    .ite (.u .isN (.p 3)) [.ret (.c .non)] [],
    .asg (.t [(.n 4), (.n 5)]) (.v 3),
    .asg (.t [(.n 6), (.n 7)]) (.call ("mean_of" : Str) [(.v 4)]),
    .asg (.n 8) (.ite (.u .tru (.p 2)) (.c (.int 1)) (.u .neg (.c (.int 1)))),
    .ret (.tup [(.lc (.b .idx (.p 10) (.c (.int 0))) 0 (.n 10) [(.v 4)] [] [9, 10]), (.tup [(.b .mul (.p 8) (.p 6)), (.v 7)]), (.lc (.b .mul (.p 8) (.p 11)) 0 (.n 11) [(.v 5)] [] [9, 11])])]⟩
def F_both_means : Fn := ⟨2, 4, [.ite (.u .isN (.call ("best_round" : Str) [(.v 0), (.v 1), (.c (.bl true))])) [.ret (.lst [])] [],
    .ret (.lc (.b .idx (.call ("best_round" : Str) [(.v 0), (.v 1), (.v 3)]) (.c (.int 1))) 0 (.n 3) [(.tup [(.c (.bl true)), (.c (.bl false))])] [] [2, 3])]⟩
def F_means : Fn := ⟨1, 3, [.asg (.t [(.n 1), (.n 2)]) (.call ("weighed" : Str) [(.call ("need_counter" : Str) [(.v 0)])]),
    .ret (.call ("both_means" : Str) [(.v 1), (.v 2)])]⟩
def F_need_flag : Fn := ⟨1, 1, [.ite (.not (.u .tru (.u (.isi [.bool]) (.p 0)))) [.rai] []]⟩
def F_mean_paper : Fn := ⟨2, 5, [.asg (.t [(.n 2), (.n 3)]) (.call ("weighed" : Str) [(.call ("need_counter" : Str) [(.v 0)])]),
    .ex (.call ("need_flag" : Str) [(.v 1)]),
    .asg (.n 4) (.call ("best_round" : Str) [(.v 2), (.v 3), (.v 1)]),
    .ret (.ite (.u .isN (.p 4)) (.c .non) (.tup [(.b .idx (.p 4) (.c (.int 0))), (.b .idx (.p 4) (.c (.int 2)))]))]⟩
def F_turn_of : Fn := ⟨2, 8, [.asg (.n 3) (.dc (.b .idx (.p 2) (.c (.int 0))) (.v 2) 0 (.n 2) [(.v 0)] [] [6, 2]),
    .ite (.or (.not (.u .tru (.call ("is_list" : Str) [(.v 1)]))) (.or (.b .eq (.u .len (.p 1)) (.c (.int 0))) (.not (.u .tru (.u .all (.lc (.and (.call ("is_whole" : Str) [(.v 7)]) (.b .isin (.p 7) (.p 3))) 0 (.n 7) [(.v 1)] [] [6, 7])))))) [.ret (.c .non)] [],
    .asg (.n 4) (.lc (.b .idx (.p 3) (.p 7)) 0 (.n 7) [(.v 1)] [] [6, 7]),
    .for_ 2 (.t [(.n 5), (.n 2)]) [(.v 4)] [.ite (.b .ne (.b .idx (.p 2) (.c (.int 1))) (.b .idx (.b .idx (.p 4) (.b .sub (.p 5) (.c (.int 1)))) (.c (.int 3)))) [.ret (.c .non)] []],
    .ret (.v 4)]⟩
def F_is_paper_of : Fn := ⟨4, 17, [.ite (.not (.u .tru (.call ("is_row" : Str) [(.v 3), (.c (.int 2))]))) [.ret (.c (.bl false))] [],
    .asg (.n 4) (.call ("turn_of" : Str) [(.v 1), (.b .idx (.p 3) (.c (.int 0)))]),
    .ite (.or (.u .isN (.p 4)) (.or (.not (.u .tru (.call ("is_row" : Str) [(.b .idx (.p 3) (.c (.int 1))), (.u .len (.p 0))]))) (.not (.u .tru (.u .all (.lc (.call ("is_whole" : Str) [(.v 10)]) 0 (.n 10) [(.b .idx (.p 3) (.c (.int 1)))] [] [9, 10])))))) [.ret (.c (.bl false))] [],
    .asg (.t [(.n 5), (.n 6)]) (.call ("mean_of" : Str) [(.v 4)]),
    .asg (.n 7) (.dc (.v 11) (.v 10) 3 (.t [(.n 11), (.n 10)]) [(.v 0), (.b .idx (.p 3) (.c (.int 1)))] [] [9, 11, 10]),
    .asg (.n 8) (.lc (.b .sub (.b .add (.b .sub (.b .mul (.p 14) (.p 6)) (.p 5)) (.b .idx (.p 7) (.p 13))) (.b .idx (.p 7) (.p 15))) 0 (.t [(.n 12), (.n 13), (.n 14), (.n 15)]) [(.v 1)] [] [9, 12, 13, 14, 15]),
    .ret (.u .all (.lc (.ite (.u .tru (.p 2)) (.b .ge (.p 16) (.c (.int 0))) (.b .le (.p 16) (.c (.int 0)))) 0 (.n 16) [(.v 8)] [] [9, 16]))]⟩
def F_is_mean_paper : Fn := ⟨3, 5, [.asg (.t [(.n 3), (.n 4)]) (.call ("weighed" : Str) [(.call ("need_counter" : Str) [(.v 0)])]),
    .ex (.call ("need_flag" : Str) [(.v 1)]),
    .ret (.call ("is_paper_of" : Str) [(.v 3), (.v 4), (.v 1), (.v 2)])]⟩
def F__law_same : Fn := ⟨2, 5, [.ite (.u .tru (.u (.isi [.list, .tuple]) (.p 1))) [.ite (.or (.b .ne (.u (.isi [.list]) (.p 0)) (.u (.isi [.list]) (.p 1))) (.b .ne (.u (.isi [.tuple]) (.p 0)) (.u (.isi [.tuple]) (.p 1)))) [.ret (.c (.bl false))] [],
    .ret (.and (.b .eq (.u .len (.p 0)) (.u .len (.p 1))) (.u .all (.lc (.call ("_law_same" : Str) [(.v 3), (.v 4)]) 3 (.t [(.n 3), (.n 4)]) [(.v 0), (.v 1)] [] [2, 3, 4])))] [],
    .ite (.u .tru (.u (.isi [.dict]) (.p 1))) [.ret (.and (.u (.isi [.dict]) (.p 0)) (.call ("_law_same" : Str) [(.u .items (.p 0)), (.u .items (.p 1))]))] [],
    .ite (.or (.u .tru (.u (.isi [.bool]) (.p 1))) (.u .tru (.u (.isi [.bool]) (.p 0)))) [.ret (.and (.u (.isi [.bool]) (.p 1)) (.and (.u (.isi [.bool]) (.p 0)) (.b .eq (.p 0) (.p 1))))] [],
    .ite (.or (.u .isN (.p 1)) (.u .isN (.p 0))) [.ret (.and (.u .isN (.p 1)) (.u .isN (.p 0)))] [],
    .ite (.or (.b .ne (.u (.isi [.int]) (.p 1)) (.u (.isi [.int]) (.p 0))) (.b .ne (.u (.isi [.str]) (.p 1)) (.u (.isi [.str]) (.p 0)))) [.ret (.c (.bl false))] [],
    .ret (.and (.not (.u (.isi [.list, .tuple, .dict]) (.p 0))) (.b .eq (.p 0) (.p 1)))]⟩
def F__law_copied : Fn := ⟨1, 5, [.ite (.u .tru (.u (.isi [.dict]) (.p 0))) [.ret (.u .dict (.lc (.tup [(.v 3), (.call ("_law_copied" : Str) [(.b .idx (.p 0) (.p 3))])]) 0 (.n 3) [(.v 0)] [] [2, 3]))] [],
    .asg (.n 1) (.ite (.u .tru (.u (.isi [.list, .tuple]) (.p 0))) (.lc (.call ("_law_copied" : Str) [(.v 4)]) 0 (.n 4) [(.v 0)] [] [2, 4]) (.v 0)),
    .ret (.ite (.u .tru (.u (.isi [.tuple]) (.p 0))) (.u .tuple (.p 1)) (.v 1))]⟩
def F__law_loose : Fn := ⟨2, 5, [.ite (.not (.u .tru (.u (.isi [.list, .tuple]) (.p 1)))) [.ret (.v 1)] [],
    .asg (.n 2) (.lc (.call ("_law_loose" : Str) [(.v 0), (.v 4)]) 0 (.n 4) [(.v 1)] [] [3, 4]),
    .ret (.ite (.b .eq (.call ("_law_draw" : Str) [(.v 0), (.c (.int 2))]) (.c (.int 0))) (.u .tuple (.p 2)) (.v 2))]⟩
def F__law_unlike : Fn := ⟨1, 3, [.asg (.n 1) (.lst []),
    .for_ 0 (.n 2) [(.u .sorted (.p 0))] [.ite (.or (.b .eq (.p 1) (.lst [])) (.b .ne (.b .idx (.p 1) (.u .neg (.c (.int 1)))) (.p 2))) [.app 1 (.v 2)] []],
    .ret (.v 1)]⟩
def F__law_reach : Fn := ⟨2, 8, [.par [2, 3] [(.u .list (.p 0)), (.c (.int 0))],
    .whl (.b .lt (.p 3) (.u .len (.p 2))) [.asg (.n 4) (.call ("_law_unlike" : Str) [(.lc (.b .idx (.p 6) (.c (.int 1))) 0 (.n 6) [(.v 1)] [(.b .eq (.b .idx (.p 6) (.c (.int 0))) (.b .idx (.p 2) (.p 3)))] [5, 6])]),
    .asg (.n 2) (.b .add (.p 2) (.lc (.v 7) 0 (.n 7) [(.v 4)] [(.b .notin (.p 7) (.p 2))] [5, 7])),
    .asg (.n 3) (.b .add (.p 3) (.c (.int 1)))],
    .ret (.u .sorted (.p 2))]⟩
def F__law_counted : Fn := ⟨1, 10, [.asg (.n 1) (.lc (.tup [(.b .idx (.p 5) (.c (.int 0))), (.b .idx (.p 5) (.c (.int 3)))]) 0 (.n 5) [(.b .idx (.p 0) (.c (.int 3)))] [] [4, 5]),
    .asg (.n 2) (.call ("_law_reach" : Str) [(.call ("_law_unlike" : Str) [(.lc (.b .idx (.p 6) (.c (.int 0))) 0 (.n 6) [(.b .idx (.p 0) (.c (.int 2)))] [] [4, 6])]), (.v 1)]),
    .asg (.n 3) (.call ("_law_reach" : Str) [(.call ("_law_unlike" : Str) [(.lc (.b .idx (.p 6) (.c (.int 0))) 0 (.n 6) [(.b .idx (.p 0) (.c (.int 4)))] [] [4, 6])]), (.lc (.tup [(.v 8), (.v 7)]) 0 (.t [(.n 7), (.n 8)]) [(.v 1)] [] [4, 7, 8])]),
    .ret (.lc (.v 9) 0 (.n 9) [(.v 2)] [(.b .isin (.p 9) (.p 3))] [4, 9])]⟩
def F__law_lowest : Fn := ⟨2, 4, [.par [2, 3] [(.u .abs (.p 0)), (.v 1)],
    .whl (.b .gt (.p 3) (.c (.int 0))) [.par [2, 3] [(.v 3), (.b .mod (.u .int (.p 2)) (.p 3))]],
    .ret (.tup [(.b .fdiv (.p 0) (.p 2)), (.b .fdiv (.p 1) (.p 2))])]⟩
def F__law_is_mean_paper : Fn := ⟨4, 19, [.ite (.or (.not (.u .tru (.u (.isi [.list, .tuple]) (.p 3)))) (.or (.b .ne (.u .len (.p 3)) (.c (.int 2))) (.not (.u .tru (.u .all (.lc (.u (.isi [.list, .tuple]) (.p 13)) 0 (.n 13) [(.v 3)] [] [12, 13])))))) [.ret (.c (.bl false))] [],
    .asg (.t [(.n 4), (.n 5)]) (.v 3),
    .ite (.or (.not (.u .tru (.u .all (.lc (.and (.u (.isi [.int]) (.p 14)) (.not (.u (.isi [.bool]) (.p 14)))) 0 (.n 14) [(.b .add (.u .list (.p 4)) (.u .list (.p 5)))] [] [12, 14])))) (.or (.b .ne (.u .len (.p 5)) (.u .len (.p 0))) (.b .eq (.u .len (.p 4)) (.c (.int 0))))) [.ret (.c (.bl false))] [],
    .asg (.n 6) (.u .dict (.lc (.tup [(.b .idx (.p 15) (.c (.int 0))), (.v 15)]) 0 (.n 15) [(.v 1)] [] [12, 15])),
    .ite (.not (.u .tru (.u .all (.lc (.b .isin (.p 16) (.p 6)) 0 (.n 16) [(.v 4)] [] [12, 16])))) [.ret (.c (.bl false))] [],
    .asg (.n 7) (.lc (.b .idx (.p 6) (.p 16)) 0 (.n 16) [(.v 4)] [] [12, 16]),
    .ite (.not (.u .tru (.u .all (.lc (.b .eq (.b .idx (.p 15) (.c (.int 1))) (.b .idx (.b .idx (.p 7) (.b .sub (.p 17) (.c (.int 1)))) (.c (.int 3)))) 2 (.t [(.n 17), (.n 15)]) [(.v 7)] [] [12, 17, 15])))) [.ret (.c (.bl false))] [],
    .asg (.t [(.n 8), (.n 9)]) (.call ("_law_lowest" : Str) [(.u .sum (.lc (.b .idx (.p 15) (.c (.int 2))) 0 (.n 15) [(.v 7)] [] [12, 15])), (.u .len (.p 7))]),
    .asg (.n 10) (.u .dict (.b .zipl (.p 0) (.p 5))),
    .asg (.n 11) (.lc (.b .sub (.b .add (.b .sub (.b .mul (.b .idx (.p 15) (.c (.int 2))) (.p 9)) (.p 8)) (.b .idx (.p 10) (.b .idx (.p 15) (.c (.int 1))))) (.b .idx (.p 10) (.b .idx (.p 15) (.c (.int 3))))) 0 (.n 15) [(.v 1)] [] [12, 15]),
    .ret (.u .all (.lc (.ite (.u .tru (.p 2)) (.b .ge (.p 18) (.c (.int 0))) (.b .le (.p 18) (.c (.int 0)))) 0 (.n 18) [(.v 11)] [] [12, 18]))]⟩
def F__law_rings : Fn := ⟨1, 12, [.par [1, 2, 3, 4] [(.lc (.b .add (.c (.int 1)) (.call ("_law_draw" : Str) [(.v 0), (.c (.int 3))])) 1 (.n 11) [(.b .add (.c (.int 1)) (.call ("_law_draw" : Str) [(.v 0), (.c (.int 3))]))] [] [10, 11]), (.lst []), (.lst []), (.c (.int 1))],
    .for_ 2 (.t [(.n 5), (.n 6)]) [(.ite (.b .gt (.u .sum (.p 1)) (.c (.int 6))) (.b .slb (.p 1) (.c (.int 2))) (.v 1))] [.asg (.n 7) (.b .add (.b .add (.lst [(.c (.int 0))]) (.lc (.b .add (.p 4) (.p 11)) 1 (.n 11) [(.b .sub (.p 6) (.c (.int 1)))] [] [10, 11])) (.lst [(.c (.int 0))])),
    .asg (.n 8) (.lc (.b .sub (.call ("_law_draw" : Str) [(.v 0), (.c (.int 41))]) (.c (.int 20))) 1 (.n 11) [(.v 6)] [] [10, 11]),
    .ext 2 (.lc (.tup [(.b .idx (.p 7) (.p 11)), (.ite (.b .eq (.p 11) (.c (.int 0))) (.v 5) (.c (.int 0))), (.b .idx (.p 8) (.p 11)), (.b .idx (.p 7) (.b .add (.p 11) (.c (.int 1))))]) 1 (.n 11) [(.v 6)] [] [10, 11]),
    .app 3 (.tup [(.u .sum (.p 8)), (.v 6)]),
    .asg (.n 4) (.b .sub (.b .add (.p 4) (.p 6)) (.c (.int 1)))],
    .asg (.n 9) (.v 4),
    .ext 2 (.lst [(.tup [(.c (.int 0)), (.c (.int 2)), (.c (.int 20)), (.v 9)]), (.tup [(.v 9), (.c (.int 0)), (.b .sub (.c (.int 20)) (.b .mul (.c (.int 40)) (.call ("_law_draw" : Str) [(.v 0), (.c (.int 2))]))), (.v 9)])]),
    .ret (.tup [(.tup [(.b .add (.p 4) (.c (.int 1))), (.c (.int 3)), (.lst [(.tup [(.c (.int 0)), (.call ("_law_draw" : Str) [(.v 0), (.c (.int 5))])])]), (.call ("_law_unlike" : Str) [(.v 2)]), (.lst [(.tup [(.c (.int 0)), (.c (.int 0))])])]), (.v 3)])]⟩
def F__law_paper_right : Fn := ⟨4, 17, [.par [4, 5] [(.call ("_law_loose" : Str) [(.v 0), (.v 1)]), (.call ("_law_counted" : Str) [(.v 1)])],
    .asg (.n 6) (.lc (.tup [(.v 14), (.b .idx (.p 15) (.c (.int 0))), (.b .idx (.p 15) (.c (.int 2))), (.b .idx (.p 15) (.c (.int 3)))]) 2 (.t [(.n 14), (.n 15)]) [(.b .idx (.p 1) (.c (.int 3)))] [(.and (.b .isin (.b .idx (.p 15) (.c (.int 0))) (.p 5)) (.b .isin (.b .idx (.p 15) (.c (.int 3))) (.p 5)))] [13, 14, 15]),
    .asg (.n 7) (.call ("mean_paper" : Str) [(.v 4), (.v 2)]),
    .ite (.b .ne (.u .isN (.p 7)) (.u .isN (.p 3))) [.ret (.c (.bl false))] [],
    .ite (.u .isN (.p 3)) [.ret (.call ("_law_same" : Str) [(.call ("is_mean_paper" : Str) [(.v 4), (.v 2), (.tup [(.lst []), (.lst [])])]), (.c (.bl false))])] [],
    .ite (.or (.not (.u .tru (.u (.isi [.tuple]) (.p 7)))) (.not (.u .tru (.call ("_law_is_mean_paper" : Str) [(.v 5), (.v 6), (.v 2), (.v 7)])))) [.ret (.c (.bl false))] [],
    .asg (.n 8) (.lc (.b .idx (.b .idx (.b .idx (.p 1) (.c (.int 3))) (.p 14)) (.c (.int 2))) 0 (.n 14) [(.b .idx (.p 7) (.c (.int 0)))] [] [13, 14]),
    .ite (.not (.u .tru (.call ("_law_same" : Str) [(.call ("_law_lowest" : Str) [(.u .sum (.p 8)), (.u .len (.p 8))]), (.v 3)]))) [.ret (.c (.bl false))] [],
    .par [9, 10] [(.u .list (.b .idx (.p 7) (.c (.int 1)))), (.call ("_law_draw" : Str) [(.v 0), (.u .len (.b .idx (.p 7) (.c (.int 1))))])],
    .asg (.n 11) (.lst [(.tup [(.b .idx (.p 7) (.c (.int 0))), (.b .add (.b .add (.b .slb (.p 9) (.p 10)) (.lst [(.b .add (.b .idx (.p 9) (.p 10)) (.c (.int 1000)))])) (.b .sla (.p 9) (.b .add (.p 10) (.c (.int 1)))))]), (.tup [(.b .idx (.p 7) (.c (.int 0))), (.b .sla (.p 9) (.c (.int 1)))]), (.tup [(.lst []), (.v 9)]), (.tup [(.b .mul (.u .list (.b .idx (.p 7) (.c (.int 0)))) (.c (.int 2))), (.v 9)])]),
    .asg (.n 12) (.lc (.call ("is_mean_paper" : Str) [(.v 4), (.v 2), (.call ("_law_copied" : Str) [(.v 16)])]) 0 (.n 16) [(.b .add (.lst [(.v 7)]) (.p 11))] [] [13, 16]),
    .ret (.call ("_law_same" : Str) [(.v 12), (.b .add (.lst [(.c (.bl true))]) (.lc (.call ("_law_is_mean_paper" : Str) [(.v 5), (.v 6), (.v 2), (.v 16)]) 0 (.n 16) [(.v 11)] [] [13, 16]))])]⟩
def F_law : Fn := ⟨1, 12, [.asg (.n 1) (.call ("_law_stream" : Str) [(.v 0)]),
    .for_ 1 (.n 2) [(.c (.int 6))] [.asg (.t [(.n 3), (.n 4)]) (.call ("_law_rings" : Str) [(.v 1)]),
    .par [5, 6] [(.b .idx (.p 4) (.c (.int 0))), (.b .idx (.p 4) (.c (.int 0)))],
    .for_ 0 (.n 7) [(.b .sla (.p 4) (.c (.int 1)))] [.asg (.n 5) (.ite (.b .lt (.b .mul (.b .idx (.p 7) (.c (.int 0))) (.b .idx (.p 5) (.c (.int 1)))) (.b .mul (.b .idx (.p 5) (.c (.int 0))) (.b .idx (.p 7) (.c (.int 1))))) (.v 7) (.v 5)),
    .asg (.n 6) (.ite (.b .gt (.b .mul (.b .idx (.p 7) (.c (.int 0))) (.b .idx (.p 6) (.c (.int 1)))) (.b .mul (.b .idx (.p 6) (.c (.int 0))) (.b .idx (.p 7) (.c (.int 1))))) (.v 7) (.v 6))],
    .asg (.n 8) (.lst [(.call ("_law_lowest" : Str) [(.b .idx (.p 5) (.c (.int 0))), (.b .idx (.p 5) (.c (.int 1)))]), (.call ("_law_lowest" : Str) [(.b .idx (.p 6) (.c (.int 0))), (.b .idx (.p 6) (.c (.int 1)))])]),
    .ite (.not (.u .tru (.call ("_law_same" : Str) [(.lst [(.call ("means" : Str) [(.call ("_law_loose" : Str) [(.v 1), (.v 3)])]), (.call ("counted_stands" : Str) [(.v 3)])]), (.lst [(.v 8), (.u .rng (.b .sub (.b .idx (.p 3) (.c (.int 0))) (.c (.int 1))))])]))) [.ret (.c (.bl false))] [],
    .ite (.or (.not (.u .tru (.call ("_law_paper_right" : Str) [(.v 1), (.v 3), (.c (.bl true)), (.b .idx (.p 8) (.c (.int 0)))]))) (.not (.u .tru (.call ("_law_paper_right" : Str) [(.v 1), (.v 3), (.c (.bl false)), (.b .idx (.p 8) (.c (.int 1)))])))) [.ret (.c (.bl false))] [],
    .asg (.n 9) (.tup [(.b .idx (.p 3) (.c (.int 0))), (.c (.int 3)), (.b .idx (.p 3) (.c (.int 2))), (.lc (.v 11) 0 (.n 11) [(.b .idx (.p 3) (.c (.int 3)))] [(.and (.b .eq (.b .idx (.p 11) (.c (.int 0))) (.c (.int 0))) (.b .gt (.b .idx (.p 11) (.c (.int 3))) (.c (.int 0))))] [10, 11]), (.b .idx (.p 3) (.c (.int 4)))]),
    .ite (.or (.not (.u .tru (.call ("_law_same" : Str) [(.call ("means" : Str) [(.v 9)]), (.lst [])]))) (.not (.u .tru (.call ("_law_paper_right" : Str) [(.v 1), (.v 9), (.b .eq (.call ("_law_draw" : Str) [(.v 1), (.c (.int 2))]) (.c (.int 0))), (.c .non)])))) [.ret (.c (.bl false))] []],
    .ret (.c (.bl true))]⟩
def tabL : List (Str × Fn) := [(("is_list" : Str), F_is_list), (("is_whole" : Str), F_is_whole), (("is_number" : Str), F_is_number), (("is_below" : Str), F_is_below), (("is_row" : Str), F_is_row), (("kept_rows" : Str), F_kept_rows), (("kept_counter" : Str), F_kept_counter), (("need_counter" : Str), F_need_counter), (("closed" : Str), F_closed), (("both_arrows" : Str), F_both_arrows), (("useful_of" : Str), F_useful_of), (("counted_stands" : Str), F_counted_stands), (("lowest" : Str), F_lowest), (("weighed" : Str), F_weighed), (("first_round" : Str), F_first_round), (("mean_of" : Str), F_mean_of), (("lesser_round" : Str), F_lesser_round), (("least_round" : Str), F_least_round), (("turned" : Str), F_turned), (("best_round" : Str), F_best_round), (("both_means" : Str), F_both_means), (("means" : Str), F_means), (("need_flag" : Str), F_need_flag), (("mean_paper" : Str), F_mean_paper), (("turn_of" : Str), F_turn_of), (("is_paper_of" : Str), F_is_paper_of), (("is_mean_paper" : Str), F_is_mean_paper), (("_law_same" : Str), F__law_same), (("_law_copied" : Str), F__law_copied), (("_law_loose" : Str), F__law_loose), (("_law_unlike" : Str), F__law_unlike), (("_law_reach" : Str), F__law_reach), (("_law_counted" : Str), F__law_counted), (("_law_lowest" : Str), F__law_lowest), (("_law_is_mean_paper" : Str), F__law_is_mean_paper), (("_law_rings" : Str), F__law_rings), (("_law_paper_right" : Str), F__law_paper_right), (("law" : Str), F_law)]
def T1 : Tab := ⟨fun x => tabL.lookup x, fun _ => none⟩
section
variable {w k : Nat} {ds : List D} {g : G}
theorem c_is_list : (callN T1 w (k + 1)).f "is_list" ds g = runF (callN T1 w k) w F_is_list ds g := rfl
theorem c_is_whole : (callN T1 w (k + 1)).f "is_whole" ds g = runF (callN T1 w k) w F_is_whole ds g := rfl
theorem c_is_number : (callN T1 w (k + 1)).f "is_number" ds g = runF (callN T1 w k) w F_is_number ds g := rfl
theorem c_is_below : (callN T1 w (k + 1)).f "is_below" ds g = runF (callN T1 w k) w F_is_below ds g := rfl
theorem c_is_row : (callN T1 w (k + 1)).f "is_row" ds g = runF (callN T1 w k) w F_is_row ds g := rfl
theorem c_kept_rows : (callN T1 w (k + 1)).f "kept_rows" ds g = runF (callN T1 w k) w F_kept_rows ds g := rfl
theorem c_kept_counter : (callN T1 w (k + 1)).f "kept_counter" ds g = runF (callN T1 w k) w F_kept_counter ds g := rfl
theorem c_need_counter : (callN T1 w (k + 1)).f "need_counter" ds g = runF (callN T1 w k) w F_need_counter ds g := rfl
theorem c_closed : (callN T1 w (k + 1)).f "closed" ds g = runF (callN T1 w k) w F_closed ds g := rfl
theorem c_both_arrows : (callN T1 w (k + 1)).f "both_arrows" ds g = runF (callN T1 w k) w F_both_arrows ds g := rfl
theorem c_useful_of : (callN T1 w (k + 1)).f "useful_of" ds g = runF (callN T1 w k) w F_useful_of ds g := rfl
theorem c_counted_stands : (callN T1 w (k + 1)).f "counted_stands" ds g = runF (callN T1 w k) w F_counted_stands ds g := rfl
theorem c_lowest : (callN T1 w (k + 1)).f "lowest" ds g = runF (callN T1 w k) w F_lowest ds g := rfl
theorem c_weighed : (callN T1 w (k + 1)).f "weighed" ds g = runF (callN T1 w k) w F_weighed ds g := rfl
theorem c_first_round : (callN T1 w (k + 1)).f "first_round" ds g = runF (callN T1 w k) w F_first_round ds g := rfl
theorem c_mean_of : (callN T1 w (k + 1)).f "mean_of" ds g = runF (callN T1 w k) w F_mean_of ds g := rfl
theorem c_lesser_round : (callN T1 w (k + 1)).f "lesser_round" ds g = runF (callN T1 w k) w F_lesser_round ds g := rfl
theorem c_least_round : (callN T1 w (k + 1)).f "least_round" ds g = runF (callN T1 w k) w F_least_round ds g := rfl
theorem c_turned : (callN T1 w (k + 1)).f "turned" ds g = runF (callN T1 w k) w F_turned ds g := rfl
theorem c_best_round : (callN T1 w (k + 1)).f "best_round" ds g = runF (callN T1 w k) w F_best_round ds g := rfl
theorem c_both_means : (callN T1 w (k + 1)).f "both_means" ds g = runF (callN T1 w k) w F_both_means ds g := rfl
theorem c_means : (callN T1 w (k + 1)).f "means" ds g = runF (callN T1 w k) w F_means ds g := rfl
theorem c_need_flag : (callN T1 w (k + 1)).f "need_flag" ds g = runF (callN T1 w k) w F_need_flag ds g := rfl
theorem c_mean_paper : (callN T1 w (k + 1)).f "mean_paper" ds g = runF (callN T1 w k) w F_mean_paper ds g := rfl
theorem c_turn_of : (callN T1 w (k + 1)).f "turn_of" ds g = runF (callN T1 w k) w F_turn_of ds g := rfl
theorem c_is_paper_of : (callN T1 w (k + 1)).f "is_paper_of" ds g = runF (callN T1 w k) w F_is_paper_of ds g := rfl
theorem c_is_mean_paper : (callN T1 w (k + 1)).f "is_mean_paper" ds g = runF (callN T1 w k) w F_is_mean_paper ds g := rfl
theorem c__law_same : (callN T1 w (k + 1)).f "_law_same" ds g = runF (callN T1 w k) w F__law_same ds g := rfl
theorem c__law_copied : (callN T1 w (k + 1)).f "_law_copied" ds g = runF (callN T1 w k) w F__law_copied ds g := rfl
theorem c__law_loose : (callN T1 w (k + 1)).f "_law_loose" ds g = runF (callN T1 w k) w F__law_loose ds g := rfl
theorem c__law_unlike : (callN T1 w (k + 1)).f "_law_unlike" ds g = runF (callN T1 w k) w F__law_unlike ds g := rfl
theorem c__law_reach : (callN T1 w (k + 1)).f "_law_reach" ds g = runF (callN T1 w k) w F__law_reach ds g := rfl
theorem c__law_counted : (callN T1 w (k + 1)).f "_law_counted" ds g = runF (callN T1 w k) w F__law_counted ds g := rfl
theorem c__law_lowest : (callN T1 w (k + 1)).f "_law_lowest" ds g = runF (callN T1 w k) w F__law_lowest ds g := rfl
theorem c__law_is_mean_paper : (callN T1 w (k + 1)).f "_law_is_mean_paper" ds g = runF (callN T1 w k) w F__law_is_mean_paper ds g := rfl
theorem c__law_rings : (callN T1 w (k + 1)).f "_law_rings" ds g = runF (callN T1 w k) w F__law_rings ds g := rfl
theorem c__law_paper_right : (callN T1 w (k + 1)).f "_law_paper_right" ds g = runF (callN T1 w k) w F__law_paper_right ds g := rfl
theorem c_law : (callN T1 w (k + 1)).f "law" ds g = runF (callN T1 w k) w F_law ds g := rfl
end
end Hd
end
section
set_option maxHeartbeats 1000000
/-! what a run ends with: small rules -/
namespace WW
open PySem
/-- o is there, and Q holds of it -/
def Wp {α : Type} (o : Option α) (Q : α → Prop) : Prop := ∃ x, o = some x ∧ Q x
section
variable {α β : Type} {o : Option α} {Q : α → Prop}
theorem Wp.bind {f : α → Option β} {Q : β → Prop} (h : Wp o fun x => Wp (f x) Q) : Wp (o.bind f) Q := by
  obtain ⟨x, rfl, y, h1, h2⟩ := h
  exact ⟨y, h1, h2⟩
theorem Wp.map {f : α → β} {Q : β → Prop} (h : Wp o fun x => Q (f x)) : Wp (o.map f) Q := by
  obtain ⟨x, rfl, h⟩ := h
  exact ⟨_, rfl, h⟩
theorem Wp.some {x : α} (h : Q x) : Wp (some x) Q := ⟨x, rfl, h⟩
theorem Wp.mono {Q' : α → Prop} (h : Wp o Q) (i : ∀ x, Q x → Q' x) : Wp o Q' := by
  obtain ⟨x, e, h⟩ := h
  exact ⟨x, e, i x h⟩
theorem Wp.of (e : o = .some x) (h : Q x) : Wp o Q := ⟨x, e, h⟩
end
/-! ### loops -/
/-- a for loop by its invariant over what is left -/
theorem wp_for {body : St → Option Out} {t : T} {Q : Out → Prop} (I : List D → St → Prop)
    (step : ∀ x xs st, I (x :: xs) st → ∃ r1, asgT t x false st.r = some r1 ∧ Wp (body { st with r := r1 }) fun o => match o with
      | .nx s => I xs s
      | .cnt s => I xs s
      | .brk s => Q (.nx s)
      | .ret d f g => Q (.ret d f g))
    (fin : ∀ st, I [] st → Q (.nx st)) : ∀ xs st, I xs st → Wp (forL body t xs st) Q
  | [], st, h => ⟨_, rfl, fin st h⟩
  | x :: xs, st, h => by
    obtain ⟨r1, h1, o, h2, h3⟩ := step x xs st h
    unfold forL
    rw [h1, Option.bind_some, h2, Option.bind_some]
    cases o with
    | nx s => exact wp_for I step fin xs s h3
    | cnt s => exact wp_for I step fin xs s h3
    | brk s => exact ⟨_, rfl, h3⟩
    | ret d f g => exact ⟨_, rfl, h3⟩
/-- a while loop by its invariant and a measure below the fuel -/
theorem wp_whl {c : St → Option (D × Bool × St)} {body : St → Option Out} {Q : Out → Prop} (I : St → Prop) (μ : St → Nat)
    (step : ∀ st, I st → Wp (c st) fun x => match x.1 with
      | .bl false => Q (.nx x.2.2)
      | .bl true => Wp (body x.2.2) fun o => match o with
        | .nx s => I s ∧ μ s < μ st
        | .cnt s => I s ∧ μ s < μ st
        | .brk s => Q (.nx s)
        | .ret d f g => Q (.ret d f g)
      | _ => False) : ∀ n st, I st → μ st < n → Wp (whlN c body n st) Q := by
  intro n
  induction n with
  | zero => intro st _ h; exact absurd h (Nat.not_lt_zero _)
  | succ n ih =>
    intro st hi hm
    obtain ⟨⟨d, f, s1⟩, h1, h2⟩ := step st hi
    unfold whlN
    rw [h1, Option.bind_some]
    dsimp only at h2 ⊢
    split at h2
    · exact ⟨_, rfl, h2⟩
    · obtain ⟨o, h3, h4⟩ := h2
      rw [h3, Option.bind_some]
      cases o with
      | nx s => exact ih s h4.1 (by omega)
      | cnt s => exact ih s h4.1 (by omega)
      | brk s => exact ⟨_, rfl, h4⟩
      | ret d f g => exact ⟨_, rfl, h4⟩
    · exact h2.elim
/-- a list comprehension whose elements change nothing -/
theorem lc_enc {α : Type} {C : Cl} {e : E} {k : Nat} {t : T} {a ifs : List E} {own : List Nat} {st : St} {ds : List D} (l : List α) (enc : α → D) (p : α → Bool) (f : α → D) (h1 : evs C a st = some (ds, st)) (h2 : walk k ds = some (l.map enc))
    (hs : ∀ x ∈ l, ∃ r1, asgT t (enc x) false (wip st.r own) = some r1 ∧ wip r1 own = wip st.r own ∧ evTs C ifs ⟨r1, st.g⟩ = some (p x, ⟨r1, st.g⟩) ∧ (p x = true → ∃ fl, toE (ev C e ⟨r1, st.g⟩) = some (f x, fl, ⟨r1, st.g⟩)))
    (hb : ∀ r, wip r own = wip st.r own → back r st.r own = st.r) (hl : l.length ≤ sizeLine) : ev C (.lc e k t a ifs own) st = some (.inr (.lst ((l.filter p).map f)), true, st) := by
  simp only [ev]
  rw [h1, Option.bind_some]
  dsimp only
  rw [h2, Option.bind_some]
  have key : ∀ (ys : List α) (acc : List D) (r : Env), wip r own = wip st.r own → acc.length + ys.length ≤ sizeLine → (∀ x ∈ ys, x ∈ l) → ∃ r', wip r' own = wip st.r own ∧ (ys.map enc).foldlM (fun (acc : List D × St) x =>
        (asgT t x false (wip acc.2.r own)).bind fun r1 => (evTs C ifs { acc.2 with r := r1 }).bind fun (b, s2) =>
          if b = true then (toE (ev C e s2)).bind fun (d, _, s3) => if acc.1.length < sizeLine then some (acc.1 ++ [d], s3) else none else some (acc.1, s2)) (acc, ⟨r, st.g⟩) = some (acc ++ (ys.filter p).map f, ⟨r', st.g⟩) := by
    intro ys
    induction ys with
    | nil => intro acc r hr _ _; exact ⟨r, hr, by simp⟩
    | cons x ys ih =>
      intro acc r hr hlen hin
      obtain ⟨r1, a1, a2, a3, a4⟩ := hs x (hin x (by simp))
      rw [List.map_cons, List.foldlM_cons, hr, a1, Option.bind_some]
      dsimp only
      rw [a3]
      simp only [Option.bind_some]
      cases hp : p x with
      | false =>
        simp only [Bool.false_eq_true, if_false]
        obtain ⟨r', b1, b2⟩ := ih acc r1 a2 (by simp at hlen; omega) fun y hy => hin y (by simp [hy])
        refine ⟨r', b1, ?_⟩
        rw [List.filter_cons_of_neg (by simp [hp])]
        exact b2
      | true =>
        obtain ⟨fl, a5⟩ := a4 hp
        simp only [if_true]
        rw [a5]
        simp only [Option.bind_some]
        rw [if_pos (by simp at hlen; omega)]
        obtain ⟨r', b1, b2⟩ := ih (acc ++ [f x]) r1 a2 (by simp at hlen ⊢; omega) fun y hy => hin y (by simp [hy])
        refine ⟨r', b1, ?_⟩
        rw [List.filter_cons_of_pos hp, List.map_cons]
        have : acc ++ f x :: List.map f (List.filter p ys) = acc ++ [f x] ++ List.map f (List.filter p ys) := by simp
        rw [this]
        exact b2
  obtain ⟨r', k1, k2⟩ := key l [] st.r rfl (by simpa using hl) fun _ h => h
  rw [k2]
  simp only [Option.map_some, List.nil_append, ok]
  rw [hb r' k1]
/-- without conditions -/
theorem lc_all {α : Type} {C : Cl} {e : E} {k : Nat} {t : T} {a : List E} {own : List Nat} {st : St} {ds : List D} (l : List α) (enc : α → D) (f : α → D) (h1 : evs C a st = some (ds, st)) (h2 : walk k ds = some (l.map enc))
    (hs : ∀ x ∈ l, ∃ r1, asgT t (enc x) false (wip st.r own) = some r1 ∧ wip r1 own = wip st.r own ∧ ∃ fl, toE (ev C e ⟨r1, st.g⟩) = some (f x, fl, ⟨r1, st.g⟩))
    (hb : ∀ r, wip r own = wip st.r own → back r st.r own = st.r) (hl : l.length ≤ sizeLine) : ev C (.lc e k t a [] own) st = some (.inr (.lst (l.map f)), true, st) := by
  rw [lc_enc l enc (fun _ => true) f h1 h2 (fun x hx => by
    obtain ⟨r1, a1, a2, a3⟩ := hs x hx
    exact ⟨r1, a1, a2, rfl, fun _ => a3⟩) hb hl, List.filter_eq_self.mpr fun _ _ => rfl]
/-- the own slots behind a comprehension, where they were nobody's or shared -/
theorem back_own : ∀ {own : List Nat} {r r0 : Env}, wip r own = wip r0 own → (∀ i ∈ own, keepS r0[i]? = (r0[i]?).join ∧ i < r0.length) → back r r0 own = r0 := by
  intro own r r0 hw ho
  refine List.ext_getElem? fun j => ?_
  have e : ∀ (own : List Nat) (r : Env), r.length = r0.length → (∀ i ∈ own, i < r0.length) → (back r r0 own)[j]? = if j ∈ own then some (keepS r0[j]?) else r[j]? := by
    intro own
    induction own with
    | nil => intro r _ _; simp [back]
    | cons v vs ih =>
      intro r hl hi
      unfold back
      by_cases z : j = v
      · subst z
        rw [if_pos (by simp), List.getElem?_set_self (by rw [back_len, hl]; exact hi j (by simp))]
      · rw [List.getElem?_set_ne (Ne.symm z), ih r hl fun i hi' => hi i (by simp [hi'])]
        simp [z]
  have e2 : ∀ (own : List Nat) (r : Env), j ∉ own → (wip r own)[j]? = r[j]? := by
    intro own
    induction own with
    | nil => intro r _; rfl
    | cons v vs ih =>
      intro r h
      simp only [List.mem_cons, not_or] at h
      unfold wip
      rw [List.getElem?_set_ne (Ne.symm h.1), ih r h.2]
  have hl : r.length = r0.length := by
    have := congrArg List.length hw
    rw [wip_len, wip_len] at this
    exact this
  rw [e own r hl fun i hi => (ho i hi).2]
  split
  · rename_i h
    have := ho j h
    rw [this.1, List.getElem?_eq_getElem this.2]
    rfl
  · rename_i h
    have : (wip r own)[j]? = (wip r0 own)[j]? := by rw [hw]
    rw [e2 own r h, e2 own r0 h] at this
    exact this
/-- a dict comprehension whose elements change nothing -/
theorem dc_enc {α : Type} {C : Cl} {x y : E} {k : Nat} {t : T} {a : List E} {own : List Nat} {st : St} {ds : List D} (xs : List α) (enc : α → D) (fk fv : α → D) (h1 : evs C a st = some (ds, st)) (h2 : walk k ds = some (xs.map enc))
    (hs : ∀ z ∈ xs, ∃ r1, asgT t (enc z) false (wip st.r own) = some r1 ∧ wip r1 own = wip st.r own ∧ (∃ fl, toE (ev C x ⟨r1, st.g⟩) = some (fk z, fl, ⟨r1, st.g⟩)) ∧ ∃ fl, toE (ev C y ⟨r1, st.g⟩) = some (fv z, fl, ⟨r1, st.g⟩))
    (hk : ∀ l : List (D × D), (∀ p ∈ l, ∃ z ∈ xs, p.1 = fk z) → ∀ z ∈ xs, kOk l (fk z) = true)
    (hb : ∀ r, wip r own = wip st.r own → back r st.r own = st.r) (hl : xs.length ≤ sizeLine) : ev C (.dc x y k t a [] own) st = some (.inr (.dct (xs.foldl (fun l z => dput l (fk z) (fv z)) [])), true, st) := by
  simp only [ev]
  rw [h1, Option.bind_some]
  dsimp only
  rw [h2, Option.bind_some]
  have dl : ∀ (l : List (D × D)) k v, (dput l k v).length ≤ l.length + 1 := by
    intro l k v
    induction l with
    | nil => simp [dput]
    | cons p l ih => unfold dput; split <;> simp <;> omega
  have dm : ∀ (l : List (D × D)) k v p, p ∈ dput l k v → p.1 = k ∨ ∃ q ∈ l, p.1 = q.1 := by
    intro l k v p
    induction l with
    | nil => intro h; simp [dput] at h; exact .inl (by rw [h])
    | cons q l ih =>
      intro h
      unfold dput at h
      split at h
      · rcases List.mem_cons.mp h with h | h
        · exact .inr ⟨q, by simp, by rw [h]⟩
        · exact .inr ⟨p, by simp [h], rfl⟩
      · rcases List.mem_cons.mp h with h | h
        · exact .inr ⟨q, by simp, by rw [h]⟩
        · rcases ih h with h | ⟨q', h1, h2⟩
          · exact .inl h
          · exact .inr ⟨q', by simp [h1], h2⟩
  have key : ∀ (ys : List α) (acc : List (D × D)) (r : Env), wip r own = wip st.r own → acc.length + ys.length ≤ sizeLine → (∀ x ∈ ys, x ∈ xs) → (∀ p ∈ acc, ∃ z ∈ xs, p.1 = fk z) → ∃ r', wip r' own = wip st.r own ∧ (ys.map enc).foldlM (fun (acc : List (D × D) × St) z =>
        (asgT t z false (wip acc.2.r own)).bind fun r1 => (evTs C [] { acc.2 with r := r1 }).bind fun (b, s2) =>
          if b = true then (toE (ev C x s2)).bind fun (kd, _, s3) => (toE (ev C y s3)).bind fun (vd, _, s4) =>
            if kOk acc.1 kd ∧ acc.1.length < sizeLine then some (dput acc.1 kd vd, s4) else none else some (acc.1, s2)) (acc, ⟨r, st.g⟩) = some (ys.foldl (fun l z => dput l (fk z) (fv z)) acc, ⟨r', st.g⟩) := by
    intro ys
    induction ys with
    | nil => intro acc r hr _ _ _; exact ⟨r, hr, rfl⟩
    | cons z ys ih =>
      intro acc r hr hlen hin hacc
      obtain ⟨r1, a1, a2, ⟨f1, a3⟩, ⟨f2, a4⟩⟩ := hs z (hin z (by simp))
      rw [List.map_cons, List.foldlM_cons, hr, a1, Option.bind_some]
      dsimp only
      simp only [evTs, Option.bind_some, if_true]
      rw [a3]
      simp only [Option.bind_some]
      rw [a4]
      simp only [Option.bind_some]
      rw [if_pos ⟨hk acc hacc z (hin z (by simp)), by simp at hlen; omega⟩]
      have := dl acc (fk z) (fv z)
      obtain ⟨r', b1, b2⟩ := ih (dput acc (fk z) (fv z)) r1 a2 (by simp at hlen ⊢; omega) (fun y hy => hin y (by simp [hy])) fun p hp => by
        rcases dm _ _ _ _ hp with h | ⟨q, h1, h2⟩
        · exact ⟨z, hin z (by simp), h⟩
        · obtain ⟨w, h3, h4⟩ := hacc q h1
          exact ⟨w, h3, by rw [h2, h4]⟩
      exact ⟨r', b1, b2⟩
  obtain ⟨r', k1, k2⟩ := key xs [] st.r rfl (by simpa using hl) (fun _ h => h) (fun p hp => by simp at hp)
  rw [k2]
  simp only [Option.map_some, ok]
  rw [hb r' k1]
end WW
end
section
set_option maxHeartbeats 1000000
/-! running the small language by simp -/
namespace WW
open PySem
section
variable {C : Cl} {w : Nat} {st : St} {r : Env} {g : G} {d : D} {f b : Bool} {i j : Nat} {s : S} {ss : List S} {e : E} {es : List E}
@[simp] theorem z_ss0 : evSs C w [] st = some (.nx st) := rfl
@[simp] theorem z_ss1 : evSs C w (s :: ss) st = (evS C w s st).bind fun o => match o with
    | .nx s1 => evSs C w ss s1
    | o => some o := rfl
@[simp] theorem z_asg {t : T} : evS C w (.asg t e) st = (evE C e st).bind fun x => (asgT t x.1 x.2.1 x.2.2.r).map fun r => .nx ⟨r, x.2.2.g⟩ := rfl
@[simp] theorem z_par {is : List Nat} : evS C w (.par is es) st = (evP C es st).bind fun x => (asgN is x.1 x.2.r).map fun r => .nx ⟨r, x.2.g⟩ := rfl
@[simp] theorem z_asgx {ts : List TX} : evS C w (.asgx ts e) st = (evE C e st).bind fun x => match x.1 with
    | .tup ds => (asgXs C ts ds x.2.2).map .nx
    | _ => none := rfl
@[simp] theorem z_app : evS C w (.app i e) st = (owned st.r i).bind fun d0 => (evE C e st).bind fun (x, _, s1) => (owned s1.r i).bind fun d => match d0, d with
    | .lst _, .lst l => if l.length < sizeLine then some (.nx { s1 with r := s1.r.set i (some (.lst (l ++ [x]), true)) }) else none
    | _, _ => none := rfl
@[simp] theorem z_ext : evS C w (.ext i e) st = (owned st.r i).bind fun d0 => (evE C e st).bind fun (x, _, s1) => (owned s1.r i).bind fun d => match d0, d, x with
    | .lst _, .lst l, .lst m => if l.length + m.length ≤ sizeLine then some (.nx { s1 with r := s1.r.set i (some (.lst (l ++ m), true)) }) else none
    | _, _, _ => none := rfl
@[simp] theorem z_ex : evS C w (.ex e) st = (evE C e st).map fun x => .nx x.2.2 := rfl
theorem z_ret (h : ∀ i, e ≠ .v i) : evS C w (.ret e) st = (evE C e st).map fun x => .ret x.1 x.2.1 x.2.2.g := by
  cases e <;> first | rfl | exact absurd rfl (h _)
@[simp] theorem z_retv : evS C w (.ret (.v i)) st = match st.r[i]? with
    | some (some (d, f)) => if isPend d = true then none else some (.ret (norm d) f st.g)
    | _ => none := rfl
@[simp] theorem z_retc {d : D} : evS C w (.ret (.c d)) st = some (.ret d false st.g) := rfl
@[simp] theorem z_retu {o : U} {a : E} : evS C w (.ret (.u o a)) st = (evE C (.u o a) st).map fun x => .ret x.1 x.2.1 x.2.2.g := rfl
@[simp] theorem z_retb {o : B} {a c : E} : evS C w (.ret (.b o a c)) st = (evE C (.b o a c) st).map fun x => .ret x.1 x.2.1 x.2.2.g := rfl
@[simp] theorem z_rett : evS C w (.ret (.tup es)) st = (evE C (.tup es) st).map fun x => .ret x.1 x.2.1 x.2.2.g := rfl
@[simp] theorem z_retl : evS C w (.ret (.lst es)) st = (evE C (.lst es) st).map fun x => .ret x.1 x.2.1 x.2.2.g := rfl
@[simp] theorem z_retand {a c : E} : evS C w (.ret (.and a c)) st = (evE C (.and a c) st).map fun x => .ret x.1 x.2.1 x.2.2.g := rfl
@[simp] theorem z_reti {a c : E} : evS C w (.ret (.ite e a c)) st = (evE C (.ite e a c) st).map fun x => .ret x.1 x.2.1 x.2.2.g := rfl
@[simp] theorem z_retf {x : Str} : evS C w (.ret (.call x es)) st = (evE C (.call x es) st).map fun x => .ret x.1 x.2.1 x.2.2.g := rfl
@[simp] theorem z_retlc {k : Nat} {t : T} {a ifs : List E} {own : List Nat} : evS C w (.ret (.lc e k t a ifs own)) st = (evE C (.lc e k t a ifs own) st).map fun x => .ret x.1 x.2.1 x.2.2.g := rfl
@[simp] theorem z_retN : evS C w .retN st = some (.ret .non false st.g) := rfl
@[simp] theorem z_site {a c : List S} : evS C w (.ite e a c) st = (evE C e st).bind fun x => match x.1 with
    | .bl true => evSs C w a x.2.2
    | .bl false => evSs C w c x.2.2
    | _ => none := rfl
@[simp] theorem z_whl {c : List S} : evS C w (.whl e c) st = whlN (evE C e) (evSs C w c) w st := rfl
@[simp] theorem z_for {k : Nat} {t : T} {a : List E} {c : List S} : evS C w (.for_ k t a c) st = (evs C a st).bind fun x => (walk k x.1).bind fun xs => forL (evSs C w c) t xs x.2 := rfl
@[simp] theorem z_brk : evS C w .brk st = some (.brk st) := rfl
@[simp] theorem z_cnt : evS C w .cnt st = some (.cnt st) := rfl
@[simp] theorem z_pass : evS C w .pass st = some (.nx st) := rfl
@[simp] theorem z_evE : evE C e st = toE (ev C e st) := rfl
@[simp] theorem z_c {d : D} : ev C (.c d) st = some (.inr d, false, st) := rfl
@[simp] theorem z_v : ev C (.v i) st = (look st.r i).map fun d => (.inr (norm d), false, ⟨frz st.r i, st.g⟩) := rfl
@[simp] theorem z_p : ev C (.p i) st = (look st.r i).map fun _ => (.inl i, false, ⟨inn st.r i, st.g⟩) := rfl
@[simp] theorem z_u {o : U} {a : E} : ev C (.u o a) st = (ev C a st).bind fun x => (rsl x.2.2.r x.1).bind fun d => (uF o d).map fun z => (.inr z.1, z.2, x.2.2) := rfl
@[simp] theorem z_b {o : B} {a c : E} : ev C (.b o a c) st = (ev C a st).bind fun x => (ev C c x.2.2).bind fun y => (rsl y.2.2.r x.1).bind fun d => (rsl y.2.2.r y.1).bind fun e => (bF o d e).map fun z => (.inr z.1, z.2, y.2.2) := rfl
@[simp] theorem z_m {o : B} {a c : E} : ev C (.m o a c) st = (ev C a st).bind fun x => (rsl x.2.2.r x.1).bind fun d0 => (toE (ev C c x.2.2)).bind fun y => (rsl y.2.2.r x.1).bind fun d => if mOk o d0 = true then (bF o d y.1).map fun z => (.inr z.1, z.2, y.2.2) else none := rfl
@[simp] theorem z_m3 {a c e : E} : ev C (.m3 a c e) st = (ev C a st).bind fun x => (rsl x.2.2.r x.1).bind fun d0 => (toE (ev C c x.2.2)).bind fun y => (toE (ev C e y.2.2)).bind fun z => (rsl z.2.2.r x.1).bind fun d => if mOk .get d0 = true then (b3F .get d y.1 z.1).map fun v => (.inr v.1, v.2, z.2.2) else none := rfl
@[simp] theorem z_and {a c : E} : ev C (.and a c) st = (toE (ev C a st)).bind fun x => match x.1 with
    | .bl true => (toE (ev C c x.2.2)).map fun y => (.inr y.1, false, y.2.2)
    | .bl false => some (.inr (.bl false), false, x.2.2)
    | _ => none := rfl
@[simp] theorem z_or {a c : E} : ev C (.or a c) st = (toE (ev C a st)).bind fun x => match x.1 with
    | .bl true => some (.inr (.bl true), false, x.2.2)
    | .bl false => (toE (ev C c x.2.2)).map fun y => (.inr y.1, false, y.2.2)
    | _ => none := rfl
@[simp] theorem z_not {a : E} : ev C (.not a) st = (toE (ev C a st)).bind fun x => match x.1 with
    | .bl b => some (.inr (.bl (!b)), false, x.2.2)
    | _ => none := rfl
@[simp] theorem z_ite {c a e : E} : ev C (.ite c a e) st = (toE (ev C c st)).bind fun x => match x.1 with
    | .bl true => (toE (ev C a x.2.2)).map fun y => (.inr y.1, y.2.1, y.2.2)
    | .bl false => (toE (ev C e x.2.2)).map fun y => (.inr y.1, y.2.1, y.2.2)
    | _ => none := rfl
@[simp] theorem z_tup : ev C (.tup es) st = (evs C es st).bind fun x => if x.1.length ≤ sizeLine then some (.inr (.tup x.1), false, x.2) else none := rfl
@[simp] theorem z_lst : ev C (.lst es) st = (evs C es st).bind fun x => if x.1.length ≤ sizeLine then some (.inr (.lst x.1), true, x.2) else none := rfl
@[simp] theorem z_dnew : ev C .dnew st = some (.inr (.dct []), true, st) := rfl
@[simp] theorem z_call {x : Str} : ev C (.call x es) st = (evs C es st).bind fun y => (C.f x y.1 y.2.g).map fun z => (.inr z.1, z.2.1, ⟨y.2.r, z.2.2⟩) := rfl
@[simp] theorem z_pop : ev C (.pop i) st = (owned st.r i).bind fun d => match d with
    | .lst l => (l[l.length - 1]?).map fun x => (.inr x, false, ⟨st.r.set i (some (.lst l.dropLast, true)), st.g⟩)
    | _ => none := rfl
@[simp] theorem z_es0 : evs C [] st = some ([], st) := rfl
@[simp] theorem z_es1 : evs C (e :: es) st = (toE (ev C e st)).bind fun x => (evs C es x.2.2).map fun y => (x.1 :: y.1, y.2) := rfl
@[simp] theorem z_ts0 : evTs C [] st = some (true, st) := rfl
@[simp] theorem z_ts1 : evTs C (e :: es) st = (toE (ev C e st)).bind fun x => match x.1 with
    | .bl true => evTs C es x.2.2
    | .bl false => some (false, x.2.2)
    | _ => none := rfl
@[simp] theorem z_ps0 : evP C [] st = some ([], st) := rfl
@[simp] theorem z_ps1 : evP C (e :: es) st = (evE C e st).bind fun x => (evP C es x.2.2).map fun y => ((x.1, x.2.1) :: y.1, y.2) := rfl
@[simp] theorem z_toE {d : D} : toE (some (.inr d, f, st)) = some (d, f, st) := rfl
@[simp] theorem z_toE0 : toE none = none := rfl
@[simp] theorem z_rsl : rsl r (.inr d) = some d := rfl
@[simp] theorem z_rsl1 : rsl r (.inl i) = look r i := rfl
@[simp] theorem z_ok : ok d f st = (.inr d, f, st) := rfl
@[simp] theorem z_lk0 {x : D × Bool} {r : Env} : look (some x :: r) 0 = if isPend x.1 = true then none else some x.1 := by
  obtain ⟨a, b⟩ := x; rfl
@[simp] theorem z_lkS {x : Option (D × Bool)} {r : Env} : look (x :: r) (i + 1) = look r i := by
  unfold look; rw [List.getElem?_cons_succ]
@[simp] theorem z_ow0 {r : Env} : owned (some (d, true) :: r) 0 = some d := rfl
@[simp] theorem z_owS {x : Option (D × Bool)} {r : Env} : owned (x :: r) (i + 1) = owned r i := by
  unfold owned; rw [List.getElem?_cons_succ]
@[simp] theorem z_fr0 {r : Env} : frz (some (d, true) :: r) 0 = some (norm d, false) :: r := rfl
@[simp] theorem z_fr1 {r : Env} : frz (some (d, false) :: r) 0 = some (d, false) :: r := rfl
@[simp] theorem z_frS {x : Option (D × Bool)} {r : Env} : frz (x :: r) (i + 1) = x :: frz r i := by
  unfold frz; rw [List.getElem?_cons_succ]; split <;> rename_i h <;> simp [h]
theorem z_in0 {r : Env} {x : Option (D × Bool)} (h : ∀ l, x ≠ some (.dcl l, true)) : inn (x :: r) 0 = x :: r := by
  unfold inn
  split
  · rename_i l e
    exact absurd (by simpa using e) (h l)
  · rfl
@[simp] theorem z_inF {r : Env} : inn (some (d, false) :: r) 0 = some (d, false) :: r := z_in0 fun l e => by cases e
@[simp] theorem z_inL {r : Env} {l : List D} : inn (some (.lst l, true) :: r) 0 = some (.lst l, true) :: r := rfl
@[simp] theorem z_inD {r : Env} {l : List (D × D)} : inn (some (.dct l, true) :: r) 0 = some (.dct l, true) :: r := rfl
@[simp] theorem z_inS {x : Option (D × Bool)} {r : Env} : inn (x :: r) (i + 1) = x :: inn r i := by
  unfold inn; rw [List.getElem?_cons_succ]; split <;> rename_i h <;> simp [h]
@[simp] theorem z_tn : asgT (.n i) d f r = some (r.set i (some (d, f))) := rfl
@[simp] theorem z_tt {l : List T} {ds : List D} : asgT (.t l) (.tup ds) f r = asgTs l ds r := rfl
@[simp] theorem z_tt0 : asgTs [] [] r = some r := rfl
@[simp] theorem z_tt1 {t : T} {ts : List T} {ds : List D} : asgTs (t :: ts) (d :: ds) r = (asgT t d false r).bind fun r1 => asgTs ts ds r1 := rfl
@[simp] theorem z_an0 : asgN [] [] r = some r := rfl
@[simp] theorem z_an1 {is : List Nat} {v : D × Bool} {vs : List (D × Bool)} : asgN (i :: is) (v :: vs) r = asgN is vs (r.set i (some v)) := rfl
@[simp] theorem z_pI {a : Int} : isPend (.int a) = false := rfl
@[simp] theorem z_pB : isPend (.bl b) = false := rfl
@[simp] theorem z_pN : isPend .non = false := rfl
@[simp] theorem z_pS {x : Str} : isPend (.str x) = false := rfl
@[simp] theorem z_pT {l : List D} : isPend (.tup l) = false := rfl
@[simp] theorem z_pL {l : List D} : isPend (.lst l) = false := rfl
@[simp] theorem z_pD {l : List (D × D)} : isPend (.dct l) = false := rfl
@[simp] theorem z_pM : isPend .strm = false := rfl
@[simp] theorem z_pC {l : List Int} : isPend (.scr l) = false := rfl
@[simp] theorem z_nI {a : Int} : norm (.int a) = .int a := rfl
@[simp] theorem z_nB : norm (.bl b) = .bl b := rfl
@[simp] theorem z_nN : norm .non = .non := rfl
@[simp] theorem z_nS {x : Str} : norm (.str x) = .str x := rfl
@[simp] theorem z_nT {l : List D} : norm (.tup l) = .tup l := rfl
@[simp] theorem z_nL {l : List D} : norm (.lst l) = .lst l := rfl
@[simp] theorem z_nD {l : List (D × D)} : norm (.dct l) = .dct l := rfl
@[simp] theorem z_nM : norm .strm = .strm := rfl
@[simp] theorem z_nC {l : List Int} : norm (.scr l) = .scr l := rfl
/-! operations -/
variable {a c : Int} {l m : List D}
@[simp] theorem o_neg : uF .neg (.int a) = some (.int (-a), false) := rfl
@[simp] theorem o_truB : uF .tru (.bl b) = some (.bl b, false) := rfl
@[simp] theorem o_truN : uF .tru .non = some (.bl false, false) := rfl
@[simp] theorem o_truI : uF .tru (.int a) = some (.bl (a != 0), false) := rfl
@[simp] theorem o_truT : uF .tru (.tup l) = some (.bl (!l.isEmpty), false) := rfl
@[simp] theorem o_truL : uF .tru (.lst l) = some (.bl (!l.isEmpty), false) := rfl
@[simp] theorem o_lenL : uF .len (.lst l) = some (.int l.length, false) := rfl
@[simp] theorem o_lenT : uF .len (.tup l) = some (.int l.length, false) := rfl
@[simp] theorem o_abs : uF .abs (.int a) = some (.int (if a < 0 then -a else a), false) := rfl
@[simp] theorem o_int : uF .int (.int a) = some (.int a, false) := rfl
@[simp] theorem o_listL : uF .list (.lst l) = if l.length ≤ sizeLine then some (.lst l, true) else none := rfl
@[simp] theorem o_listT : uF .list (.tup l) = if l.length ≤ sizeLine then some (.lst l, true) else none := rfl
@[simp] theorem o_tupL : uF .tuple (.lst l) = if l.length ≤ sizeLine then some (.tup l, false) else none := rfl
@[simp] theorem o_tupT : uF .tuple (.tup l) = if l.length ≤ sizeLine then some (.tup l, false) else none := rfl
@[simp] theorem o_all : uF .all (.lst l) = (bools l).map fun b => (.bl (b.all id), false) := rfl
@[simp] theorem o_any : uF .any (.lst l) = (bools l).map fun b => (.bl (b.any id), false) := rfl
@[simp] theorem o_sum : uF .sum (.lst l) = (sumD l 0).map fun n => (.int n, false) := rfl
@[simp] theorem o_rev : uF .rev (.lst l) = some (.lst l.reverse, true) := rfl
@[simp] theorem o_isN0 : uF .isN .non = some (.bl true, false) := rfl
@[simp] theorem o_isNI : uF .isN (.int a) = some (.bl false, false) := rfl
@[simp] theorem o_isNT : uF .isN (.tup l) = some (.bl false, false) := rfl
@[simp] theorem o_isNL : uF .isN (.lst l) = some (.bl false, false) := rfl
@[simp] theorem o_notN0 : uF .notN .non = some (.bl false, false) := rfl
@[simp] theorem o_notNI : uF .notN (.int a) = some (.bl true, false) := rfl
@[simp] theorem o_notNT : uF .notN (.tup l) = some (.bl true, false) := rfl
@[simp] theorem o_notNL : uF .notN (.lst l) = some (.bl true, false) := rfl
@[simp] theorem o_add : bF .add (.int a) (.int c) = some (.int (a + c), false) := rfl
@[simp] theorem o_addL : bF .add (.lst l) (.lst m) = if l.length + m.length ≤ sizeLine then some (.lst (l ++ m), true) else none := rfl
@[simp] theorem o_sub : bF .sub (.int a) (.int c) = some (.int (a - c), false) := rfl
@[simp] theorem o_mul : bF .mul (.int a) (.int c) = if small a || small c then some (.int (a * c), false) else none := rfl
@[simp] theorem o_fdiv : bF .fdiv (.int a) (.int c) = if 0 < c ∧ c < 1073741824 then some (.int (a / c), false) else none := rfl
@[simp] theorem o_mod : bF .mod (.int a) (.int c) = if 0 < c then some (.int (a % c), false) else none := rfl
@[simp] theorem o_ixL : bF .idx (.lst l) (.int a) = (L2.atI l a).map fun d => (d, false) := rfl
@[simp] theorem o_ixT : bF .idx (.tup l) (.int a) = (L2.atI l a).map fun d => (d, false) := rfl
@[simp] theorem o_eqI : bF .eq (.int a) (.int c) = some (.bl (decide (a = c)), false) := rfl
@[simp] theorem o_neI : bF .ne (.int a) (.int c) = some (.bl (!decide (a = c)), false) := rfl
@[simp] theorem o_ltI : bF .lt (.int a) (.int c) = some (.bl (decide (a < c)), false) := rfl
@[simp] theorem o_leI : bF .le (.int a) (.int c) = some (.bl (decide (a ≤ c)), false) := rfl
@[simp] theorem o_gtI : bF .gt (.int a) (.int c) = some (.bl (decide (c < a)), false) := rfl
@[simp] theorem o_geI : bF .ge (.int a) (.int c) = some (.bl (decide (c ≤ a)), false) := rfl
@[simp] theorem o_ixD {l : List (D × D)} : bF .idx (.dct l) d = if kOk l d then (dget l d).map fun d => (d, false) else none := by cases d <;> rfl
@[simp] theorem o_inD {l : List (D × D)} : bF .isin d (.dct l) = if kOk l d then some (.bl (dget l d).isSome, false) else none := by cases d <;> rfl
@[simp] theorem o_niD {l : List (D × D)} : bF .notin d (.dct l) = if kOk l d then some (.bl (!(dget l d).isSome), false) else none := by cases d <;> rfl
@[simp] theorem a_0 {x : D} : L2.atI (x :: l) 0 = some x := L2.atI_nat (j := 0) rfl
@[simp] theorem a_1 {x y : D} : L2.atI (x :: y :: l) 1 = some y := L2.atI_nat (j := 1) rfl
@[simp] theorem a_2 {x y z : D} : L2.atI (x :: y :: z :: l) 2 = some z := L2.atI_nat (j := 2) rfl
@[simp] theorem a_3 {x y z v : D} : L2.atI (x :: y :: z :: v :: l) 3 = some v := L2.atI_nat (j := 3) rfl
@[simp] theorem a_4 {x y z v u : D} : L2.atI (x :: y :: z :: v :: u :: l) 4 = some u := L2.atI_nat (j := 4) rfl
@[simp] theorem wk0L : walk 0 [.lst l] = some l := rfl
@[simp] theorem wk0T : walk 0 [.tup l] = some l := rfl
@[simp] theorem wk2 : walk 2 [.lst l] = some ((l.zipIdx).map fun p => .tup [.int (p.2 : Int), p.1]) := rfl
@[simp] theorem wk3 : walk 3 [.lst l, .lst m] = some (zip2 l m) := rfl
theorem sz8 : 8 ≤ sizeLine := by decide
@[simp] theorem sz0 : 0 ≤ sizeLine := Nat.zero_le _
@[simp] theorem sz1 : 1 ≤ sizeLine := by decide
@[simp] theorem sz2 : 2 ≤ sizeLine := by decide
@[simp] theorem sz3 : 3 ≤ sizeLine := by decide
@[simp] theorem sz4 : 4 ≤ sizeLine := by decide
@[simp] theorem sz5 : 5 ≤ sizeLine := by decide
end
/-- a run of a def, from what its body ends with -/
theorem runF_of {C : Cl} {w : Nat} {F : Fn} {ds : List D} {g : G} {d : D} {f : Bool} {g' : G} (hl : ds.length = F.np ∧ F.np ≤ F.n) (h : evSs C w F.body (begin_ F ds g) = some (.ret d f g')) : runF C w F ds g = some (d, f, g') := by
  unfold runF
  rw [if_pos hl, h]
  rfl
theorem runF_nx {C : Cl} {w : Nat} {F : Fn} {ds : List D} {g : G} {s : St} (hl : ds.length = F.np ∧ F.np ≤ F.n) (h : evSs C w F.body (begin_ F ds g) = some (.nx s)) : runF C w F ds g = some (.non, false, s.g) := by
  unfold runF
  rw [if_pos hl, h]
  rfl
end WW
end
section
set_option maxHeartbeats 1000000
/-! the small defs -/
namespace Hd
open PySem WW
abbrev dA (a : Int × Int × Int × Int) : D := .tup [.int a.1, .int a.2.1, .int a.2.2.1, .int a.2.2.2]
abbrev dI (l : List Int) : D := .lst (l.map .int)
abbrev dAs (l : List (Int × Int × Int × Int)) : D := .lst (l.map dA)
def lwg (a b : Int) : Int := (Int.gcd a b : Int)
abbrev lw (a b : Int) : D := .tup [.int (a / lwg a b), .int (b / lwg a b)]
section
variable {w k : Nat} {g : G}
theorem euclid (a b : Int) (F : Fn) (hb : 0 < b) (hb2 : b < 1073741824) (hw : b.toNat < w) {c : E} {bd : List S} {C : Cl}
    (hc : ∀ (n m : Nat), evE C c ⟨[some (.int a, false), some (.int b, false), some (.int (n : Int), false), some (.int (m : Int), false)], g⟩ = some (.bl (decide (m ≠ 0)), false, ⟨[some (.int a, false), some (.int b, false), some (.int (n : Int), false), some (.int (m : Int), false)], g⟩))
    (hd : ∀ (n m : Nat), 0 < m → evSs C w bd ⟨[some (.int a, false), some (.int b, false), some (.int (n : Int), false), some (.int (m : Int), false)], g⟩ = some (.nx ⟨[some (.int a, false), some (.int b, false), some (.int (m : Int), false), some (.int ((n % m : Nat) : Int), false)], g⟩)) :
    Wp (whlN (evE C c) (evSs C w bd) w ⟨[some (.int a, false), some (.int b, false), some (.int (if a < 0 then -a else a), false), some (.int b, false)], g⟩) fun o =>
      o = .nx ⟨[some (.int a, false), some (.int b, false), some (.int (lwg a b), false), some (.int 0, false)], g⟩ := by
  refine wp_whl (fun st => ∃ n m : Nat, st = ⟨[some (.int a, false), some (.int b, false), some (.int (n : Int), false), some (.int (m : Int), false)], g⟩ ∧ Nat.gcd n m = Int.gcd a b)
    (fun st => match st.r with
      | [_, _, _, some (.int y, _)] => y.toNat
      | _ => 0) ?_ w _ ⟨a.natAbs, b.natAbs, ?_, rfl⟩ hw
  · rintro st ⟨n, m, rfl, hg⟩
    refine ⟨_, hc n m, ?_⟩
    by_cases hm : m = 0
    · subst hm
      simp only [ne_eq, not_true_eq_false, decide_false]
      rw [Nat.gcd_zero_right] at hg
      unfold lwg
      rw [← hg]
      rfl
    · simp only [ne_eq, hm, not_false_eq_true, decide_true]
      refine ⟨_, hd n m (by omega), ⟨m, n % m, rfl, ?_⟩, ?_⟩
      · rw [← hg, Nat.gcd_comm n m, Nat.gcd_rec m n, Nat.gcd_comm]
      · have := Nat.mod_lt n (show m > 0 by omega)
        simp
        omega
  · have h1 : (if a < 0 then -a else a) = (a.natAbs : Int) := by split <;> omega
    have h2 : b = (b.natAbs : Int) := by omega
    rw [h1, ← h2]
theorem lwg_pos {a b : Int} (hb : 0 < b) : 0 < lwg a b ∧ lwg a b ≤ b := by
  unfold lwg
  have h1 : 0 < Int.gcd a b := Int.gcd_pos_of_ne_zero_right a (by omega)
  have h2 : (Int.gcd a b : Int) ∣ b := Int.gcd_dvd_right ..
  exact ⟨by omega, Int.le_of_dvd hb h2⟩
theorem lowest_ok {a b : Int} (hb : 0 < b) (hb2 : b < 1073741824) (hw : b.toNat < w) : (callN T1 w (k + 1)).f "lowest" [.int a, .int b] g = some (lw a b, false, g) := by
  obtain ⟨o, h1, rfl⟩ := euclid (w := w) (g := g) (C := callN T1 w k) a b F_lowest hb hb2 hw (c := .u .tru (.p 3)) (bd := [.par [2, 3] [(.v 3), (.b .mod (.p 2) (.p 3))]]) (fun n m => by
      simp
      by_cases h : m = 0 <;> simp [h]) (fun n m hm => by
      simp [hm])
  obtain ⟨p1, p2⟩ := lwg_pos (a := a) hb
  have p3 : lwg a b < 1073741824 := by omega
  rw [c_lowest]
  refine runF_of ⟨rfl, by decide⟩ ?_
  show evSs _ _ _ ⟨[some (.int a, false), some (.int b, false), none, none], g⟩ = _
  simp [F_lowest, h1, p1, p3]
theorem law_lowest_ok {a b : Int} (hb : 0 < b) (hb2 : b < 1073741824) (hw : b.toNat < w) : (callN T1 w (k + 1)).f "_law_lowest" [.int a, .int b] g = some (lw a b, false, g) := by
  obtain ⟨o, h1, rfl⟩ := euclid (w := w) (g := g) (C := callN T1 w k) a b F__law_lowest hb hb2 hw (c := .b .gt (.p 3) (.c (.int 0))) (bd := [.par [2, 3] [(.v 3), (.b .mod (.u .int (.p 2)) (.p 3))]]) (fun n m => by
      simp
      by_cases h : m = 0 <;> simp [h]; omega) (fun n m hm => by
      simp [hm])
  obtain ⟨p1, p2⟩ := lwg_pos (a := a) hb
  have p3 : lwg a b < 1073741824 := by omega
  rw [c__law_lowest]
  refine runF_of ⟨rfl, by decide⟩ ?_
  show evSs _ _ _ ⟨[some (.int a, false), some (.int b, false), none, none], g⟩ = _
  simp [F__law_lowest, h1, p1, p3]
end
end Hd
end
section
set_option maxHeartbeats 1000000
namespace Hd
open PySem WW
abbrev Ar := Int × Int × Int × Int
section
variable {w k : Nat} {g : G}
theorem sumD_ints : ∀ (l : List Int) (a : Int), sumD (l.map .int) a = some (a + l.sum)
  | [], a => by simp [sumD]
  | x :: l, a => by simp only [List.map_cons, sumD, sumD_ints l, List.sum_cons, Int.add_assoc]
theorem sum_map {α : Type} (l : List α) (f : α → Int) : sumD (l.map fun a => D.int (f a)) 0 = some ((l.map f).sum) := by
  have := sumD_ints (l.map f) 0
  rw [List.map_map, Int.zero_add] at this
  exact this
theorem bools_map {α : Type} (l : List α) (f : α → Bool) : bools (l.map fun a => D.bl (f a)) = some (l.map f) := by
  induction l with
  | nil => rfl
  | cons x l ih => simp [bools, ih]
theorem all_id {α : Type} (l : List α) (f : α → Bool) : (l.map f).all id = l.all f := by rw [List.all_map]; rfl
/-- the mean of some arrows -/
abbrev meanP (t : List Ar) : D := lw (t.map (·.2.2.1)).sum t.length
theorem mean_of_ok {t : List Ar} (h0 : t ≠ []) (h1 : t.length < 1000000) (hw : t.length < w) : (callN T1 w (k + 2)).f "mean_of" [dAs t] g = some (meanP t, false, g) := by
  have hl : 0 < t.length := List.length_pos_iff.mpr h0
  have sz : t.length ≤ sizeLine := Nat.le_trans (Nat.le_of_lt h1) (by decide)
  rw [c_mean_of]
  refine runF_of ⟨rfl, by decide⟩ ?_
  show evSs _ _ _ ⟨[some (dAs t, false), none, none, none], g⟩ = _
  have hlc := lc_all (C := callN T1 w (k + 1)) (e := .v 3) (k := 0) (t := .t [(.n 2), (.n 2), (.n 3), (.n 2)]) (a := [.v 0]) (own := [1, 2, 3]) (st := ⟨[some (dAs t, false), none, none, none], g⟩) (ds := [dAs t]) t dA (fun a => .int a.2.2.1) (by simp) (by simp) (fun x _ => ⟨[some (dAs t, false), none, some (.int x.2.2.2, false), some (.int x.2.2.1, false)], by simp [wip], by simp [wip], by simp⟩) (fun r h => back_own h (by simp [keepS])) sz
  simp [F_mean_of, hlc, sum_map, lowest_ok (show (0 : Int) < t.length by omega) (show (t.length : Int) < 1073741824 by omega) (show (t.length : Int).toNat < w by omega)]
def turnA (a : Ar) : Ar := (a.1, a.2.1, -a.2.2.1, a.2.2.2)
theorem turned_ok {t : List Ar} (h1 : t.length < 1000000) : (callN T1 w (k + 1)).f "turned" [dAs t] g = some (dAs (t.map turnA), true, g) := by
  have sz : t.length ≤ sizeLine := Nat.le_trans (Nat.le_of_lt h1) (by decide)
  rw [c_turned]
  refine runF_of ⟨rfl, by decide⟩ ?_
  show evSs _ _ _ ⟨[some (dAs t, false), none, none, none, none, none], g⟩ = _
  have hlc := lc_all (C := callN T1 w k) (e := (.tup [(.v 2), (.v 3), (.u .neg (.p 4)), (.v 5)])) (k := 0) (t := .t [(.n 2), (.n 3), (.n 4), (.n 5)]) (a := [.v 0]) (own := [1, 2, 3, 4, 5]) (st := ⟨[some (dAs t, false), none, none, none, none, none], g⟩) (ds := [dAs t]) t dA (fun a => dA (turnA a)) (by simp) (by simp) (fun x _ => ⟨[some (dAs t, false), none, some (.int x.1, false), some (.int x.2.1, false), some (.int x.2.2.1, false), some (.int x.2.2.2, false)], by simp [wip], by simp [wip], by simp [turnA]⟩) (fun r h => back_own h (by simp [keepS])) sz
  simp [F_turned, hlc]
end
end Hd
end
section
/-! arrows, heights, rounds: plain facts -/
namespace MM
abbrev Ar := Int × Int × Int × Int
def ld (a : Ar) : Int := a.2.1
def nm (a : Ar) : Int := a.2.2.1
def th (a : Ar) : Int := a.2.2.2
theorem nodup_sub {α : Type} [DecidableEq α] : ∀ {l m : List α}, l.Nodup → (∀ x ∈ l, x ∈ m) → l.length ≤ m.length
  | [], _, _, _ => Nat.zero_le _
  | x :: l, m, nd, h => by
    rw [List.nodup_cons] at nd
    have hx : x ∈ m := h x (by simp)
    have : l.length ≤ (m.erase x).length := nodup_sub nd.2 fun y hy => by
      have ne : y ≠ x := fun e => nd.1 (by rw [← e]; exact hy)
      exact (List.mem_erase_of_ne ne).mpr (h y (by simp [hy]))
    rw [List.length_erase_of_mem hx] at this
    have := List.length_pos_of_mem hx
    simp only [List.length_cons]
    omega
section
variable (U : List Int) (A : List Ar) (above below : Int)
def W (a : Ar) : Int := nm a * below - above
/-- where a search for a lesser round stands -/
structure BF where
  h : Int → Int
  L : Int → Option Ar
  T : Int → Nat
  P : Int → Nat
  now : Nat
def BF.ok (s : BF) (a : Ar) : Prop := s.h (th a) ≤ s.h (ld a) + W above below a
structure Inv (s : BF) : Prop where
  l1 : ∀ v a, s.L v = some a → a ∈ A ∧ th a = v ∧ s.h (ld a) + W above below a ≤ s.h v ∧ (s.T v ≤ s.T (ld a) → s.h (ld a) + W above below a < s.h v)
  l2 : ∀ v a, s.L v = some a → s.P v ≤ s.P (ld a) + 1
  l3 : ∀ v, 1 ≤ s.P v → ∃ a, s.L v = some a
  t : ∀ v, s.T v ≤ s.now
/-- in pass p: done arrows, arrows to come -/
structure Pass (p : Nat) (done todo : List Ar) (s : BF) : Prop where
  inv : Inv A above below s
  le : ∀ v, s.P v ≤ p
  d : ∀ a ∈ done, s.P (ld a) < p → s.ok above below a
  u : ∀ a ∈ todo, s.P (ld a) + 1 < p → s.ok above below a
def BF.put (s : BF) (p : Nat) (a : Ar) : BF := ⟨fun v => if v = th a then s.h (ld a) + W above below a else s.h v, fun v => if v = th a then some a else s.L v, fun v => if v = th a then s.now + 1 else s.T v, fun v => if v = th a then p else s.P v, s.now + 1⟩
variable {U A above below}
theorem Pass.skip {p : Nat} {done todo : List Ar} {a : Ar} {s : BF} (q : Pass A above below p done (a :: todo) s) (h : s.ok above below a) : Pass A above below p (a :: done) todo s :=
  ⟨q.inv, q.le, fun b hb hp => by
    rcases List.mem_cons.mp hb with e | e
    · rw [e]; exact h
    · exact q.d b e hp, fun b hb => q.u b (List.mem_cons_of_mem _ hb)⟩
theorem Pass.step {p : Nat} {done todo : List Ar} {a : Ar} {s : BF} (hp1 : 1 ≤ p) (q : Pass A above below p done (a :: todo) s) (ha : a ∈ A) (h : ¬ s.ok above below a) : Pass A above below p (a :: done) todo (s.put above below p a) := by
  have hP : p ≤ s.P (ld a) + 1 := by
    rcases Nat.lt_or_ge (s.P (ld a) + 1) p with z | z
    · exact absurd (q.u a (by simp) z) h
    · exact z
  have hlt : s.h (ld a) + W above below a < s.h (th a) := by unfold BF.ok at h; omega
  have hh : ∀ v, (s.put above below p a).h v ≤ s.h v := fun v => by
    show (if v = th a then _ else _) ≤ _
    split
    · rename_i e; rw [e]; omega
    · exact Int.le_refl _
  have okp : ∀ b, ld b ≠ th a → s.ok above below b → (s.put above below p a).ok above below b := fun b hb ho => by
    have h1 := hh (th b)
    have h2 : (s.put above below p a).h (ld b) = s.h (ld b) := if_neg hb
    unfold BF.ok at ho ⊢
    rw [h2]
    omega
  have pb : ∀ b, ld b = th a → (s.put above below p a).P (ld b) = p := fun b hb => if_pos hb
  refine ⟨⟨fun v b hb => ?_, fun v b hb => ?_, fun v hv => ?_, fun v => ?_⟩, fun v => ?_, fun b hb hp => ?_, fun b hb hp => ?_⟩
  · by_cases e : v = th a
    · have hb : (if v = th a then some a else s.L v) = some b := hb
      rw [if_pos e] at hb
      cases hb
      have hv : (s.put above below p a).h v = s.h (ld a) + W above below a := if_pos e
      have tv : (s.put above below p a).T v = s.now + 1 := if_pos e
      refine ⟨ha, e.symm, ?_, fun ht => ?_⟩
      · rw [hv]; have := hh (ld a); omega
      · rw [hv]
        by_cases e2 : ld a = th a
        · have : (s.put above below p a).h (ld a) = s.h (ld a) + W above below a := if_pos e2
          rw [this]
          rw [e2] at hlt ⊢
          omega
        · have : (s.put above below p a).T (ld a) = s.T (ld a) := if_neg e2
          rw [tv, this] at ht
          have := q.inv.t (ld a)
          omega
    · have hb : (if v = th a then some a else s.L v) = some b := hb
      rw [if_neg e] at hb
      obtain ⟨c1, c2, c3, c4⟩ := q.inv.l1 v b hb
      have hv : (s.put above below p a).h v = s.h v := if_neg e
      have tv : (s.put above below p a).T v = s.T v := if_neg e
      refine ⟨c1, c2, ?_, fun ht => ?_⟩
      · rw [hv]; have := hh (ld b); omega
      · rw [hv]
        by_cases e2 : ld b = th a
        · have : (s.put above below p a).h (ld b) = s.h (ld a) + W above below a := if_pos e2
          rw [this]
          rw [e2] at c3
          omega
        · have e3 : (s.put above below p a).h (ld b) = s.h (ld b) := if_neg e2
          have e4 : (s.put above below p a).T (ld b) = s.T (ld b) := if_neg e2
          rw [tv, e4] at ht
          rw [e3]
          exact c4 ht
  · by_cases e : v = th a
    · have hb : (if v = th a then some a else s.L v) = some b := hb
      rw [if_pos e] at hb
      cases hb
      have pv : (s.put above below p a).P v = p := if_pos e
      rw [pv]
      by_cases e2 : ld a = th a
      · rw [pb a e2]; omega
      · have : (s.put above below p a).P (ld a) = s.P (ld a) := if_neg e2
        rw [this]; exact hP
    · have hb : (if v = th a then some a else s.L v) = some b := hb
      rw [if_neg e] at hb
      have pv : (s.put above below p a).P v = s.P v := if_neg e
      have := q.inv.l2 v b hb
      rw [pv]
      by_cases e2 : ld b = th a
      · rw [pb b e2]; have := q.le v; omega
      · have e3 : (s.put above below p a).P (ld b) = s.P (ld b) := if_neg e2
        rw [e3]; exact this
  · by_cases e : v = th a
    · exact ⟨a, if_pos e⟩
    · have pv : (s.put above below p a).P v = s.P v := if_neg e
      rw [pv] at hv
      obtain ⟨b, hb⟩ := q.inv.l3 v hv
      exact ⟨b, (if_neg e).trans hb⟩
  · show (if v = th a then s.now + 1 else s.T v) ≤ s.now + 1
    split
    · exact Nat.le_refl _
    · have := q.inv.t v; omega
  · show (if v = th a then p else s.P v) ≤ p
    split
    · exact Nat.le_refl _
    · exact q.le v
  · by_cases e : ld b = th a
    · rw [pb b e] at hp; omega
    · have pv : (s.put above below p a).P (ld b) = s.P (ld b) := if_neg e
      rw [pv] at hp
      rcases List.mem_cons.mp hb with z | z
      · subst z
        unfold BF.ok
        have h1 : (s.put above below p b).h (th b) = s.h (ld b) + W above below b := if_pos rfl
        have h2 : (s.put above below p b).h (ld b) = s.h (ld b) := if_neg e
        rw [h1, h2]
        exact Int.le_refl _
      · exact okp b e (q.d b z hp)
  · by_cases e : ld b = th a
    · rw [pb b e] at hp; omega
    · have pv : (s.put above below p a).P (ld b) = s.P (ld b) := if_neg e
      rw [pv] at hp
      exact okp b e (q.u b (List.mem_cons_of_mem _ hb) hp)
/-- the next pass -/
theorem Pass.next {p : Nat} {done : List Ar} {s : BF} (q : Pass A above below p done [] s) (hd : ∀ a ∈ A, a ∈ done) : Pass A above below (p + 1) [] A s :=
  ⟨q.inv, fun v => Nat.le_succ_of_le (q.le v), fun a ha => (by simp at ha), fun a ha hp => q.d a (hd a ha) (by omega)⟩
theorem Pass.start {h : Int → Int} : Pass A above below 1 [] A ⟨h, fun _ => none, fun _ => 0, fun _ => 0, 0⟩ :=
  ⟨⟨fun _ _ h => (by cases h), fun _ _ h => (by cases h), fun v h => absurd h (by show ¬ 1 ≤ 0; omega), fun _ => Nat.le_refl _⟩, fun _ => Nat.zero_le _, fun a ha => (by simp at ha), fun a _ hp => (by have : 0 + 1 < 1 := hp; omega)⟩
/-! ### back along the last arrows -/
/-- from v back along last arrows l to u -/
inductive Back (s : BF) : Int → List Ar → Int → Prop
  | one {v : Int} {a : Ar} : s.L v = some a → Back s v [a] (ld a)
  | cons {v u : Int} {a : Ar} {l : List Ar} : s.L v = some a → Back s (ld a) l u → Back s v (a :: l) u
theorem Back.sum {s : BF} (I : Inv A above below s) {v u : Int} {l : List Ar} (b : Back s v l u) : (s.h u + (l.map (W above below)).sum < s.h v) ∨ (s.h u + (l.map (W above below)).sum ≤ s.h v ∧ s.T u < s.T v) := by
  induction b with
  | one e =>
    rename_i v a
    obtain ⟨_, _, c3, c4⟩ := I.l1 _ _ e
    simp only [List.map_cons, List.map_nil, List.sum_cons, List.sum_nil]
    rcases Nat.lt_or_ge (s.T (ld a)) (s.T v) with z | z
    · exact .inr ⟨by omega, z⟩
    · have := c4 z; exact .inl (by omega)
  | cons e _ ih =>
    rename_i v u a l _
    obtain ⟨_, _, c3, c4⟩ := I.l1 _ _ e
    simp only [List.map_cons, List.sum_cons]
    rcases ih with z | ⟨z, t⟩
    · exact .inl (by omega)
    · rcases Nat.lt_or_ge (s.T (ld a)) (s.T v) with y | y
      · exact .inr ⟨by omega, by omega⟩
      · have := c4 y; exact .inl (by omega)
theorem Back.neg {s : BF} (I : Inv A above below s) {v : Int} {l : List Ar} (b : Back s v l v) : (l.map (W above below)).sum < 0 := by
  rcases b.sum I with z | ⟨_, t⟩
  · omega
  · omega
theorem Back.mem {s : BF} (I : Inv A above below s) {v u : Int} {l : List Ar} (b : Back s v l u) : ∀ a ∈ l, a ∈ A := by
  induction b with
  | one e => intro a ha; rw [List.mem_singleton.mp ha]; exact (I.l1 _ _ e).1
  | cons e _ ih =>
    intro a ha
    rcases List.mem_cons.mp ha with z | z
    · rw [z]; exact (I.l1 _ _ e).1
    · exact ih a z
/-- a chain: each arrow leads to where the next one begins -/
def Chain : List Ar → Prop
  | [] => True
  | [_] => True
  | a :: b :: r => th a = ld b ∧ Chain (b :: r)
theorem chain_snoc : ∀ {l : List Ar} {a : Ar}, Chain l → (∀ b, l.getLast? = some b → th b = ld a) → Chain (l ++ [a])
  | [], _, _, _ => trivial
  | [b], a, _, h => ⟨h b rfl, trivial⟩
  | b :: c :: r, a, hc, h => ⟨hc.1, chain_snoc hc.2 fun d hd => h d (by simpa using hd)⟩
theorem Back.chain {s : BF} (I : Inv A above below s) {v u : Int} {l : List Ar} (b : Back s v l u) : Chain l.reverse ∧ (∀ a, l.reverse.getLast? = some a → th a = v) ∧ (∀ a, l.reverse.head? = some a → ld a = u) ∧ l ≠ [] := by
  induction b with
  | one e =>
    rename_i v a
    exact ⟨trivial, fun b hb => by simp at hb; rw [← hb]; exact (I.l1 _ _ e).2.1, fun b hb => by simp at hb; rw [← hb], by simp⟩
  | cons e _ ih =>
    rename_i v u a l _
    obtain ⟨i1, i2, i3, i4⟩ := ih
    rw [List.reverse_cons]
    refine ⟨chain_snoc i1 fun b hb => i2 b hb, fun b hb => ?_, fun b hb => i3 b ?_, by simp⟩
    · simp at hb; rw [← hb]; exact (I.l1 _ _ e).2.1
    · rw [List.head?_append] at hb
      cases hl : l.reverse.head? with
      | none => rw [List.head?_eq_none_iff] at hl; simp at hl; exact absurd hl i4
      | some c => rw [hl] at hb; simpa using hb
end
end MM
end
section
namespace MM
section
variable {U : List Int} {A : List Ar} {above below : Int} {s : BF}
def pre (s : BF) (v : Int) : Int := match s.L v with
  | some a => ld a
  | none => v
def it (s : BF) : Nat → Int → Int
  | 0, v => v
  | t + 1, v => pre s (it s t v)
theorem it_add (a b : Nat) (v : Int) : it s (a + b) v = it s a (it s b v) := by
  induction a with
  | zero => simp [it]
  | succ a ih => rw [Nat.succ_add]; show pre s _ = pre s _; rw [ih]
theorem dup_of : ∀ {l : List Int}, ¬ l.Nodup → ∃ (i j : Nat), i < j ∧ ∃ x, l[i]? = some x ∧ l[j]? = some x
  | [], h => absurd List.nodup_nil h
  | x :: l, h => by
    rw [List.nodup_cons] at h
    by_cases hx : x ∈ l
    · obtain ⟨j, hj⟩ := List.mem_iff_getElem?.mp hx
      exact ⟨0, j + 1, by omega, x, rfl, by simpa using hj⟩
    · obtain ⟨i, j, h1, y, h2, h3⟩ := dup_of (fun nd => h ⟨hx, nd⟩)
      exact ⟨i + 1, j + 1, by omega, y, by simpa using h2, by simpa using h3⟩
/-- behind |U| steps back from what was changed in pass |U| + 1 one goes round -/
theorem round_at {n : Nat} {done : List Ar} (q : Pass A above below (n + 1) done [] s) (hA : ∀ a ∈ A, ld a ∈ U ∧ th a ∈ U) (hn : U.length = n) {v : Int} (hv : s.P v = n + 1) :
    (∀ t, ∃ a, s.L (it s t v) = some a) ∧ ∃ d, 1 ≤ d ∧ d ≤ n ∧ it s d (it s n v) = it s n v := by
  have hP : ∀ j, j ≤ n → n + 1 - j ≤ s.P (it s j v) := by
    intro j
    induction j with
    | zero => intro _; show n + 1 - 0 ≤ s.P v; omega
    | succ j ih =>
      intro hj
      have := ih (by omega)
      obtain ⟨a, ha⟩ := q.inv.l3 (it s j v) (by omega)
      have h2 := q.inv.l2 _ a ha
      have : it s (j + 1) v = ld a := by show pre s (it s j v) = _; unfold pre; rw [ha]
      rw [this]
      omega
  have hL : ∀ j, j ≤ n → ∃ a, s.L (it s j v) = some a := fun j hj => q.inv.l3 _ (by have := hP j hj; omega)
  have hU : ∀ j, j ≤ n → it s j v ∈ U := fun j hj => by
    obtain ⟨a, ha⟩ := hL j hj
    obtain ⟨c1, c2, _⟩ := q.inv.l1 _ a ha
    rw [← c2]
    exact (hA a c1).2
  have nd : ¬ ((List.range (n + 1)).map fun j => it s j v).Nodup := fun nd => by
    have := nodup_sub (m := U) nd fun x hx => by
      obtain ⟨j, hj, rfl⟩ := List.mem_map.mp hx
      exact hU j (by have := List.mem_range.mp hj; omega)
    rw [List.length_map, List.length_range] at this
    omega
  obtain ⟨i, j, hij, x, h1, h2⟩ := dup_of nd
  rw [List.getElem?_map, Option.map_eq_some_iff] at h1 h2
  obtain ⟨i', hi, e1⟩ := h1
  obtain ⟨j', hj, e2⟩ := h2
  obtain ⟨hi1, hi2⟩ := List.getElem?_eq_some_iff.mp hi
  obtain ⟨hj1, hj2⟩ := List.getElem?_eq_some_iff.mp hj
  rw [List.getElem_range] at hi2 hj2
  subst hi2 hj2
  rw [List.length_range] at hi1 hj1
  have eq : it s i v = it s j v := e1.trans e2.symm
  have low : ∀ t, ∃ t', t' ≤ n ∧ it s t v = it s t' v := by
    intro t
    induction t using Nat.strongRecOn with
    | ind t ih =>
      rcases Nat.lt_or_ge n t with z | z
      · obtain ⟨t', h1, h2⟩ := ih (t - j + i) (by omega)
        refine ⟨t', h1, ?_⟩
        rw [← h2, it_add, eq, ← it_add]
        congr 1
        omega
      · exact ⟨t, z, rfl⟩
  refine ⟨fun t => ?_, j - i, by omega, by omega, ?_⟩
  · obtain ⟨t', h1, h2⟩ := low t
    rw [h2]
    exact hL t' h1
  · rw [← it_add]
    have : j - i + n = (n - i) + j := by omega
    rw [this, it_add, ← eq, ← it_add]
    congr 1
    omega
theorem Back.snoc {v u : Int} {l : List Ar} (b : Back s v l u) : ∀ {a : Ar}, s.L u = some a → Back s v (l ++ [a]) (ld a) := by
  induction b with
  | one e => intro a ha; exact .cons e (.one ha)
  | cons e _ ih => intro a ha; exact .cons e (ih ha)
/-- a round: a closed chain of arrows -/
structure Round (A : List Ar) (l : List Ar) : Prop where
  ne : l ≠ []
  mem : ∀ a ∈ l, a ∈ A
  ch : Chain l
  cl : ∀ a b, l.getLast? = some a → l.head? = some b → th a = ld b
theorem Back.round (I : Inv A above below s) {v : Int} {l : List Ar} (b : Back s v l v) : Round A l.reverse ∧ (l.reverse.map (W above below)).sum < 0 := by
  obtain ⟨c1, c2, c3, c4⟩ := b.chain I
  refine ⟨⟨by simpa using c4, fun a ha => b.mem I a (List.mem_reverse.mp ha), c1, fun a e h1 h2 => by rw [c2 a h1, c3 e h2]⟩, ?_⟩
  rw [List.map_reverse, List.sum_reverse]
  exact b.neg I
/-! ### heights and rounds -/
/-- no arrow of lesser rest -/
def Paper (A : List Ar) (above below : Int) (h : Int → Int) : Prop := ∀ a ∈ A, h (th a) ≤ h (ld a) + W above below a
theorem chain_sum {h : Int → Int} : ∀ {l : List Ar}, (∀ a ∈ l, h (th a) ≤ h (ld a) + W above below a) → Chain l → ∀ a b, l.head? = some a → l.getLast? = some b → h (th b) ≤ h (ld a) + (l.map (W above below)).sum
  | [], _, _, a, b, h1, _ => by cases h1
  | [x], hp, _, a, b, h1, h2 => by
    simp at h1 h2
    subst h1 h2
    have := hp x (by simp)
    simp
    exact this
  | x :: y :: r, hp, hc, a, b, h1, h2 => by
    simp at h1
    subst h1
    have k := chain_sum (l := y :: r) (fun a ha => hp a (by simp [List.mem_cons.mp ha])) hc.2 y b rfl (by simpa using h2)
    have := hp x (by simp)
    rw [hc.1] at this
    rw [List.map_cons, List.sum_cons]
    omega
theorem Round.pos {h : Int → Int} (p : Paper A above below h) {l : List Ar} (r : Round A l) : 0 ≤ (l.map (W above below)).sum := by
  obtain ⟨b, hb⟩ : ∃ b, l.getLast? = some b := by
    cases e : l.getLast? with
    | none => rw [List.getLast?_eq_none_iff] at e; exact absurd e r.ne
    | some b => exact ⟨b, rfl⟩
  obtain ⟨a, ha⟩ : ∃ a, l.head? = some a := by
    cases e : l.head? with
    | none => rw [List.head?_eq_none_iff] at e; exact absurd e r.ne
    | some b => exact ⟨b, rfl⟩
  have := chain_sum (fun x hx => p x (r.mem x hx)) r.ch a b ha hb
  rw [r.cl b a hb ha] at this
  omega
def sm (l : List Ar) : Int := (l.map nm).sum
theorem W_sum (l : List Ar) : (l.map (W above below)).sum = sm l * below - l.length * above := by
  unfold sm
  induction l with
  | nil => simp
  | cons a l ih =>
    rw [List.map_cons, List.sum_cons, ih, List.map_cons, List.sum_cons, List.length_cons]
    unfold W
    rw [Int.add_mul, Int.natCast_add, Int.add_mul]
    omega
end
end MM
end
section
set_option maxHeartbeats 1000000
/-! the search for a lesser round -/
namespace Hd
open PySem WW MM
def hd (U : List Int) (h : Int → Int) : List (D × D) := U.map fun u => (D.int u, D.int (h u))
theorem same_int (a b : Int) : (D.int a).same (D.int b) = decide (a = b) := rfl
theorem hd_get {U : List Int} {h : Int → Int} {v : Int} (hv : v ∈ U) : dget (hd U h) (.int v) = some (.int (h v)) := by
  induction U with
  | nil => simp at hv
  | cons u U ih =>
    show (if (D.int u).same (D.int v) = true then _ else dget (hd U h) _) = _
    rw [same_int]
    by_cases e : u = v
    · rw [if_pos (by simpa using e), e]
    · rw [if_neg (by simpa using e)]
      exact ih (by simpa [Ne.symm e] using hv)
theorem kOk_int {l : List (D × D)} {v : Int} (h : ∀ p ∈ l, ∃ u, p.1 = .int u) : kOk l (.int v) = true := by
  cases l with
  | nil => rfl
  | cons p l =>
    obtain ⟨a, b⟩ := p
    obtain ⟨u, hu⟩ := h (a, b) (by simp)
    have hu : a = .int u := hu
    subst hu
    rfl
theorem hd_k {U : List Int} {h : Int → Int} {v : Int} : kOk (hd U h) (.int v) = true := kOk_int fun p hp => by
  obtain ⟨u, _, rfl⟩ := List.mem_map.mp hp
  exact ⟨u, rfl⟩
theorem hd_put {U : List Int} {h : Int → Int} {v x : Int} (hv : v ∈ U) (nd : U.Nodup) : dput (hd U h) (.int v) (.int x) = hd U fun u => if u = v then x else h u := by
  induction U with
  | nil => simp at hv
  | cons u U ih =>
    rw [List.nodup_cons] at nd
    show (if (D.int u).same (D.int v) = true then _ else _ :: dput (hd U h) _ _) = _ :: hd U _
    rw [same_int]
    by_cases e : u = v
    · subst e
      rw [if_pos (by simp)]
      show _ = (D.int u, D.int (if u = u then x else h u)) :: hd U _
      rw [if_pos rfl]
      congr 1
      unfold hd
      refine List.map_congr_left fun w hw => ?_
      have ne : w ≠ u := fun z => nd.1 (by rw [← z]; exact hw)
      simp [ne]
    · rw [if_neg (by simpa using e)]
      show _ = (D.int u, D.int (if u = v then x else h u)) :: hd U _
      rw [if_neg e]
      congr 1
      exact ih (by simpa [Ne.symm e] using hv) nd.2
structure LD (U : List Int) (l : List (D × D)) (L : Int → Option Ar) : Prop where
  get : ∀ v, dget l (.int v) = (L v).map dA
  ks : ∃ K : List Int, l.map (·.1) = K.map .int ∧ K.Nodup ∧ ∀ v ∈ K, v ∈ U
theorem LD.k {U : List Int} {l : List (D × D)} {L : Int → Option Ar} (q : LD U l L) (v : Int) : kOk l (.int v) = true := kOk_int fun p hp => by
  obtain ⟨K, h1, _, _⟩ := q.ks
  have : p.1 ∈ l.map (·.1) := List.mem_map_of_mem hp
  rw [h1] at this
  obtain ⟨u, _, e⟩ := List.mem_map.mp this
  exact ⟨u, e.symm⟩
theorem LD.len {U : List Int} {l : List (D × D)} {L : Int → Option Ar} (q : LD U l L) : l.length ≤ U.length := by
  obtain ⟨K, h1, h2, h3⟩ := q.ks
  have := congrArg List.length h1
  rw [List.length_map, List.length_map] at this
  rw [this]
  exact nodup_sub h2 h3
theorem LD.nil {U : List Int} : LD U [] fun _ => none := ⟨fun _ => rfl, [], rfl, List.nodup_nil, fun _ h => by simp at h⟩
theorem dput_get {l : List (D × D)} {v u : Int} {x : D} (h : ∀ p ∈ l, ∃ u, p.1 = .int u) : dget (dput l (.int v) x) (.int u) = if u = v then some x else dget l (.int u) := by
  induction l with
  | nil =>
    show (if (D.int v).same (D.int u) = true then _ else _) = _
    rw [same_int]
    by_cases e : v = u
    · rw [if_pos (by simpa using e), if_pos e.symm]
    · rw [if_neg (by simpa using e), if_neg (Ne.symm e)]
  | cons p l ih =>
    obtain ⟨a, b⟩ := p
    obtain ⟨z, hz⟩ := h (a, b) (by simp)
    have hz : a = .int z := hz
    subst hz
    have ih := ih fun p hp => h p (by simp [hp])
    unfold dput
    rw [same_int]
    by_cases e : z = v
    · rw [if_pos (by simpa using e)]
      show (if (D.int z).same (D.int u) = true then _ else _) = _
      rw [same_int]
      by_cases e2 : z = u
      · rw [if_pos (by simpa using e2), if_pos (e2.symm.trans e)]
      · rw [if_neg (by simpa using e2), if_neg fun y => e2 (e.trans y.symm)]
        show _ = if (D.int z).same (D.int u) = true then _ else _
        rw [same_int, if_neg (by simpa using e2)]
    · rw [if_neg (by simpa using e)]
      show (if (D.int z).same (D.int u) = true then _ else _) = if u = v then _ else if (D.int z).same (D.int u) = true then _ else _
      rw [same_int, ih]
      by_cases e2 : z = u
      · rw [if_pos (by simpa using e2), if_neg fun y => e (e2.trans y), if_pos (by simpa using e2)]
      · rw [if_neg (by simpa using e2)]
        simp [e2]
theorem LD.put {U : List Int} {l : List (D × D)} {L : Int → Option Ar} (q : LD U l L) {v : Int} {a : Ar} (hv : v ∈ U) : LD U (dput l (.int v) (dA a)) fun u => if u = v then some a else L u := by
  have hi : ∀ p ∈ l, ∃ u, p.1 = .int u := fun p hp => by
    obtain ⟨K, h1, _, _⟩ := q.ks
    have : p.1 ∈ l.map (·.1) := List.mem_map_of_mem hp
    rw [h1] at this
    obtain ⟨u, _, e⟩ := List.mem_map.mp this
    exact ⟨u, e.symm⟩
  refine ⟨fun u => ?_, ?_⟩
  · rw [dput_get hi, q.get]
    split <;> rfl
  · obtain ⟨K, h1, h2, h3⟩ := q.ks
    have gen : ∀ (l : List (D × D)) (K : List Int), l.map (·.1) = K.map .int → (dput l (.int v) (dA a)).map (·.1) = (if v ∈ K then K else K ++ [v]).map .int := by
      intro l
      induction l with
      | nil => intro K h; cases K with
        | nil => rfl
        | cons _ _ => simp at h
      | cons p l ih => intro K h; cases K with
        | nil => simp at h
        | cons z K =>
          obtain ⟨b, c⟩ := p
          simp only [List.map_cons, List.cons.injEq] at h
          obtain ⟨rfl, h⟩ := h
          unfold dput
          rw [same_int]
          by_cases e : z = v
          · rw [if_pos (by simpa using e), if_pos (by simp [e])]
            simp [h]
          · rw [if_neg (by simpa using e), List.map_cons, ih K h]
            by_cases m : v ∈ K
            · rw [if_pos m, if_pos (by simp [m])]; rfl
            · rw [if_neg m, if_neg (by simp [m, Ne.symm e])]; rfl
    refine ⟨_, gen l K h1, ?_, fun u hu => ?_⟩
    · split
      · exact h2
      · rename_i m
        rw [List.nodup_append]
        exact ⟨h2, by simp, fun x hx y hy e => m (by simp at hy; rw [← hy, ← e]; exact hx)⟩
    · split at hu
      · exact h3 u hu
      · rcases List.mem_append.mp hu with z | z
        · exact h3 u z
        · simp at z; rw [z]; exact hv
/-- what is asked of the arrows -/
structure Good (U : List Int) (A : List Ar) : Prop where
  nd : U.Nodup
  n : U.length ≤ 10
  m : A.length ≤ 1000
  U : ∀ a ∈ A, ld a ∈ U ∧ th a ∈ U
  B : ∀ a ∈ A, -1000 ≤ nm a ∧ nm a ≤ 1000
section
variable {w k : Nat} {g : G} {U : List Int} {A : List Ar} {ab be : Int}
abbrev lrE (U : List Int) (A : List Ar) (ab be : Int) (h : Int → Int) (ll : List (D × D)) (ch : D) (x7 x8 x9 x10 x11 x12 : Option (D × Bool)) : WW.Env :=
  [some (dI U, false), some (dAs A, false), some (.int ab, false), some (.int be, false), some (.dct (hd U h), true), some (.dct ll, true), some (ch, false), x7, x8, x9, x10, x11, x12, none, none, none, none]
def inB : List S := [.asg (.t [(.n 7), (.n 9), (.n 10), (.n 11)]) (.v 8),
    .asg (.n 12) (.b .sub (.b .add (.b .idx (.p 4) (.p 9)) (.b .mul (.p 10) (.p 3))) (.p 2)),
    .ite (.b .lt (.p 12) (.b .idx (.p 4) (.p 11))) [.asgx [(.s 4 (.v 11)), (.s 5 (.v 11)), (.n 6)] (.tup [(.v 12), (.v 8), (.v 11)])] []]
abbrev told (ab be : Int) (h : Int → Int) (a : Ar) : Int := h (ld a) + nm a * be - ab
theorem in_skip {C : Cl} (G0 : Good U A) {h : Int → Int} {ll : List (D × D)} {ch : D} {x7 x9 x10 x11 x12 : Option (D × Bool)} {a : Ar} (ha : a ∈ A) (hc : h (th a) ≤ told ab be h a) :
    evSs C w inB ⟨lrE U A ab be h ll ch x7 (some (dA a, false)) x9 x10 x11 x12, g⟩ = some (.nx ⟨lrE U A ab be h ll ch (some (.int a.1, false)) (some (dA a, false)) (some (.int (ld a), false)) (some (.int (nm a), false)) (some (.int (th a), false)) (some (.int (told ab be h a), false)), g⟩) := by
  obtain ⟨u1, u2⟩ := G0.U a ha
  obtain ⟨b1, b2⟩ := G0.B a ha
  have sm : small (nm a) = true := by unfold small; simp; omega
  have g1 := hd_get (h := h) u1
  have g2 := hd_get (h := h) u2
  have k1 := hd_k (U := U) (h := h) (v := ld a)
  have k2 := hd_k (U := U) (h := h) (v := th a)
  unfold inB
  simp only [ld, nm, th, told] at *
  have hc' : ¬ (h a.2.1 + a.2.2.1 * be - ab < h a.2.2.2) := by omega
  simp [g1, g2, k1, k2, sm, hc']
theorem in_put {C : Cl} (G0 : Good U A) {h : Int → Int} {ll : List (D × D)} {L : Int → Option Ar} (hl : LD U ll L) {ch : D} {x7 x9 x10 x11 x12 : Option (D × Bool)} {a : Ar} (ha : a ∈ A) (hc : told ab be h a < h (th a)) :
    evSs C w inB ⟨lrE U A ab be h ll ch x7 (some (dA a, false)) x9 x10 x11 x12, g⟩ = some (.nx ⟨lrE U A ab be (fun u => if u = th a then told ab be h a else h u) (dput ll (.int (th a)) (dA a)) (.int (th a)) (some (.int a.1, false)) (some (dA a, false)) (some (.int (ld a), false)) (some (.int (nm a), false)) (some (.int (th a), false)) (some (.int (told ab be h a), false)), g⟩) := by
  obtain ⟨u1, u2⟩ := G0.U a ha
  obtain ⟨b1, b2⟩ := G0.B a ha
  have sm : small (nm a) = true := by unfold small; simp; omega
  have g1 := hd_get (h := h) u1
  have g2 := hd_get (h := h) u2
  have k1 := hd_k (U := U) (h := h) (v := ld a)
  have k2 := hd_k (U := U) (h := h) (v := th a)
  have k3 := hl.k (th a)
  have p1 := hd_put (h := h) (x := told ab be h a) u2 G0.nd
  have ln : (hd U h).length = U.length := List.length_map _
  have lt1 : (hd U h).length < sizeLine := by rw [ln]; exact Nat.lt_of_le_of_lt G0.n (by decide)
  have lt2 : ll.length < sizeLine := Nat.lt_of_le_of_lt (Nat.le_trans hl.len G0.n) (by decide)
  unfold inB
  simp only [ld, nm, th, told] at *
  simp [g1, g2, k1, k2, k3, sm, hc, asgXs, asgX, lt1, lt2, p1]
end
end Hd
end
section
set_option maxHeartbeats 1000000
/-! the search for a lesser round: its loops -/
namespace Hd
open PySem WW MM
section
variable {w k : Nat} {g : G} {U : List Int} {A : List Ar} {ab be : Int}
def chOK (p : Nat) (s : BF) (ch : D) : Prop := (ch = .non ∧ ∀ v, s.P v < p) ∨ ∃ v, ch = .int v ∧ s.P v = p
def lrS (g : G) (U : List Int) (A : List Ar) (ab be : Int) (s : BF) (ll : List (D × D)) (ch : D) (st : WW.St) : Prop := ∃ x7 x8 x9 x10 x11 x12, st = ⟨lrE U A ab be s.h ll ch x7 x8 x9 x10 x11 x12, g⟩
theorem put_h {s : BF} {p : Nat} {a : Ar} : (s.put ab be p a).h = fun u => if u = th a then told ab be s.h a else s.h u := by
  funext u
  show (if u = th a then _ else _) = _
  have : s.h (ld a) + W ab be a = told ab be s.h a := by unfold W; show _ = s.h (ld a) + nm a * be - ab; omega
  rw [this]
theorem inner {C : Cl} (G0 : Good U A) {p : Nat} (hp : 1 ≤ p) : ∀ (todo done : List Ar) (s : BF) (ll : List (D × D)) (ch : D) (st : WW.St), (∀ a ∈ todo, a ∈ A) → Pass A ab be p done todo s → LD U ll s.L → chOK p s ch → lrS g U A ab be s ll ch st →
    Wp (forL (evSs C w inB) (.n 8) (todo.map dA) st) fun o => ∃ done' s' ll' ch' st', o = .nx st' ∧ lrS g U A ab be s' ll' ch' st' ∧ Pass A ab be p done' [] s' ∧ LD U ll' s'.L ∧ chOK p s' ch' ∧ (∀ a ∈ done, a ∈ done') ∧ ∀ a ∈ todo, a ∈ done'
  | [], done, s, ll, ch, st, _, q, hl, hc, hs => ⟨_, rfl, done, s, ll, ch, st, rfl, hs, q, hl, hc, fun _ h => h, fun _ h => by simp at h⟩
  | a :: todo, done, s, ll, ch, st, hA, q, hl, hc, hs => by
    obtain ⟨x7, x8, x9, x10, x11, x12, rfl⟩ := hs
    have ha := hA a (by simp)
    have fin : ∀ (s1 : BF) ll1 ch1 st1, Pass A ab be p (a :: done) todo s1 → LD U ll1 s1.L → chOK p s1 ch1 → lrS g U A ab be s1 ll1 ch1 st1 → Wp (forL (evSs C w inB) (.n 8) (todo.map dA) st1) fun o => ∃ done' s' ll' ch' st', o = .nx st' ∧ lrS g U A ab be s' ll' ch' st' ∧ Pass A ab be p done' [] s' ∧ LD U ll' s'.L ∧ chOK p s' ch' ∧ (∀ b ∈ done, b ∈ done') ∧ ∀ b ∈ a :: todo, b ∈ done' := fun s1 ll1 ch1 st1 q1 l1 c1 hs1 =>
      (inner G0 hp todo (a :: done) s1 ll1 ch1 st1 (fun b hb => hA b (by simp [hb])) q1 l1 c1 hs1).mono fun o ⟨d', s', ll', ch', st', e1, e2, e3, e4, e5, e6, e7⟩ =>
        ⟨d', s', ll', ch', st', e1, e2, e3, e4, e5, fun b hb => e6 b (by simp [hb]), fun b hb => by
          rcases List.mem_cons.mp hb with z | z
          · rw [z]; exact e6 a (by simp)
          · exact e7 b z⟩
    show Wp (forL _ _ (dA a :: todo.map dA) _) _
    unfold forL
    rw [show asgT (.n 8) (dA a) false (lrE U A ab be s.h ll ch x7 x8 x9 x10 x11 x12) = some (lrE U A ab be s.h ll ch x7 (some (dA a, false)) x9 x10 x11 x12) from rfl, Option.bind_some]
    dsimp only
    by_cases h : s.h (th a) ≤ told ab be s.h a
    · rw [in_skip G0 ha h, Option.bind_some]
      refine fin s ll ch _ (q.skip ?_) hl hc ⟨_, _, _, _, _, _, rfl⟩
      unfold BF.ok W
      show _ ≤ _
      have : told ab be s.h a = s.h (ld a) + nm a * be - ab := rfl
      omega
    · have h' : told ab be s.h a < s.h (th a) := by omega
      rw [in_put G0 hl ha h', Option.bind_some]
      refine fin (s.put ab be p a) _ (.int (th a)) _ (q.step hp ha ?_) (hl.put (G0.U a ha).2) (.inr ⟨th a, rfl, if_pos rfl⟩) ⟨_, _, _, _, _, _, by rw [put_h]⟩
      unfold BF.ok W
      have : told ab be s.h a = s.h (ld a) + nm a * be - ab := rfl
      omega
def outB : List S := [.asg (.n 6) (.c .non),
    .for_ 0 (.n 8) [(.v 1)] inB,
    .ite (.u .isN (.p 6)) [.ret (.tup [(.c .non), (.lc (.b .idx (.p 4) (.p 16)) 0 (.n 16) [(.v 0)] [] [15, 16])])] []]
theorem heights_lc {C : Cl} (G0 : Good U A) {h : Int → Int} {ll : List (D × D)} {ch : D} {x7 x8 x9 x10 x11 x12 : Option (D × Bool)} :
    ev C (.lc (.b .idx (.p 4) (.p 16)) 0 (.n 16) [(.v 0)] [] [15, 16]) ⟨lrE U A ab be h ll ch x7 x8 x9 x10 x11 x12, g⟩ = some (.inr (dI (U.map h)), true, ⟨lrE U A ab be h ll ch x7 x8 x9 x10 x11 x12, g⟩) := by
  have := lc_all (C := C) (e := (.b .idx (.p 4) (.p 16))) (k := 0) (t := .n 16) (a := [.v 0]) (own := [15, 16]) (st := ⟨lrE U A ab be h ll ch x7 x8 x9 x10 x11 x12, g⟩) (ds := [dI U]) U D.int (fun u => .int (h u)) (by simp) (by simp)
    (fun u hu => ⟨[some (dI U, false), some (dAs A, false), some (.int ab, false), some (.int be, false), some (.dct (hd U h), true), some (.dct ll, true), some (ch, false), x7, x8, x9, x10, x11, x12, none, none, none, some (.int u, false)], by simp [wip], by simp [wip], by simp [hd_get hu, hd_k]⟩) (fun r h => back_own h (by simp [keepS])) (Nat.le_trans G0.n (by decide))
  rw [this]
  simp [dI]
theorem outer_step {C : Cl} (G0 : Good U A) {p : Nat} (hp : 1 ≤ p) {s : BF} {ll : List (D × D)} {ch : D} {st : WW.St} (q : Pass A ab be p [] A s) (hl : LD U ll s.L) (hs : lrS g U A ab be s ll ch st) (x : D) {r1 : WW.Env} (hr : asgT (.n 7) x false st.r = some r1) (hP : ∀ v, s.P v < p) :
    Wp (evSs C w outB ⟨r1, st.g⟩) fun o => (∃ h, o = .ret (.tup [.non, dI (U.map h)]) false g ∧ Paper A ab be h) ∨ ∃ done s' ll' v st', o = .nx st' ∧ lrS g U A ab be s' ll' (.int v) st' ∧ Pass A ab be p done [] s' ∧ LD U ll' s'.L ∧ s'.P v = p ∧ ∀ a ∈ A, a ∈ done := by
  obtain ⟨x7, x8, x9, x10, x11, x12, rfl⟩ := hs
  have : r1 = lrE U A ab be s.h ll ch (some (x, false)) x8 x9 x10 x11 x12 := by cases hr; rfl
  subst this
  obtain ⟨o, e1, done, s', ll', ch', st', rfl, e2, e3, e4, e5, _, e7⟩ := inner (C := C) (w := w) (g := g) G0 hp A [] s ll .non ⟨lrE U A ab be s.h ll .non (some (x, false)) x8 x9 x10 x11 x12, g⟩ (fun _ h => h) q hl (.inl ⟨rfl, hP⟩) ⟨_, _, _, _, _, _, rfl⟩
  have run : evSs C w outB ⟨lrE U A ab be s.h ll ch (some (x, false)) x8 x9 x10 x11 x12, g⟩ = evSs C w [.ite (.u .isN (.p 6)) [.ret (.tup [(.c .non), (.lc (.b .idx (.p 4) (.p 16)) 0 (.n 16) [(.v 0)] [] [15, 16])])] []] st' := by
    unfold outB
    simp [e1]
  dsimp only
  rw [run]
  obtain ⟨y7, y8, y9, y10, y11, y12, rfl⟩ := e2
  rcases e5 with ⟨rfl, hc⟩ | ⟨v, rfl, hv⟩
  · refine ⟨.ret (.tup [.non, dI (U.map s'.h)]) false g, ?_, .inl ⟨s'.h, rfl, fun a ha => ?_⟩⟩
    · simp [heights_lc G0]
    · exact e3.d a (e7 a ha) (hc _)
  · refine ⟨.nx ⟨lrE U A ab be s'.h ll' (.int v) y7 y8 y9 y10 y11 y12, g⟩, ?_, .inr ⟨done, s', ll', v, _, rfl, ⟨_, _, _, _, _, _, rfl⟩, e3, e4, hv, e7⟩⟩
    simp
theorem outer {C : Cl} (G0 : Good U A) : ∀ (xs : List D) (x : D) (p : Nat) (s : BF) (ll : List (D × D)) (ch : D) (st : WW.St), 1 ≤ p → Pass A ab be p [] A s → (∀ v, s.P v < p) → LD U ll s.L → lrS g U A ab be s ll ch st →
    Wp (forL (evSs C w outB) (.n 7) (x :: xs) st) fun o => (∃ h, o = .ret (.tup [.non, dI (U.map h)]) false g ∧ Paper A ab be h) ∨ ∃ done s' ll' v st', o = .nx st' ∧ lrS g U A ab be s' ll' (.int v) st' ∧ Pass A ab be (p + xs.length) done [] s' ∧ LD U ll' s'.L ∧ s'.P v = p + xs.length
  | xs, x, p, s, ll, ch, st, hp, q, hP, hl, hs => by
    obtain ⟨r1, hr⟩ : ∃ r1, asgT (.n 7) x false st.r = some r1 := ⟨_, rfl⟩
    obtain ⟨o, e1, e2⟩ := outer_step (C := C) (w := w) G0 hp q hl hs x hr hP
    unfold forL
    rw [hr, Option.bind_some, e1, Option.bind_some]
    rcases e2 with ⟨h, rfl, hpp⟩ | ⟨done, s', ll', v, st', rfl, f1, f2, f3, f4, f5⟩
    · exact ⟨_, rfl, .inl ⟨h, rfl, hpp⟩⟩
    · dsimp only
      cases xs with
      | nil => exact ⟨_, rfl, .inr ⟨done, s', ll', v, st', rfl, f1, f2, f3, f4⟩⟩
      | cons y ys =>
        refine (outer G0 ys y (p + 1) s' ll' (.int v) st' (by omega) (f2.next f5) (fun u => Nat.lt_succ_of_le (f2.le u)) f3 f1).mono fun o h => ?_
        have e : p + 1 + ys.length = p + (y :: ys).length := by simp only [List.length_cons]; omega
        rw [e] at h
        exact h
  termination_by xs => xs.length
end
end Hd
end
section
set_option maxHeartbeats 1000000
/-! the search for a lesser round: what it ends with -/
namespace Hd
open PySem WW MM
section
variable {w k : Nat} {g : G} {U : List Int} {A : List Ar} {ab be : Int}
/-- what the search tells -/
def Lesser (U : List Int) (A : List Ar) (ab be : Int) (d : D) : Prop :=
  (∃ h, d = .tup [.non, dI (U.map h)] ∧ Paper A ab be h) ∨ ∃ row, d = .tup [dAs row, .non] ∧ Round A row ∧ row.length ≤ U.length ∧ (row.map (W ab be)).sum < 0
theorem pre_of {s : BF} {v : Int} {a : Ar} (h : s.L v = some a) : pre s v = ld a := by unfold pre; rw [h]
/-- the way back, |U| steps -/
theorem back_loop {C : Cl} {s : BF} {ll : List (D × D)} (hl : LD U ll s.L) {v : Int} (hL : ∀ t, ∃ a, s.L (it s t v) = some a) : ∀ (xs : List Int) (t : Nat) (st : WW.St), lrS g U A ab be s ll (.int (it s t v)) st →
    Wp (forL (evSs C w [.asg (.n 6) (.b .idx (.b .idx (.p 5) (.p 6)) (.c (.int 1)))]) (.n 7) (xs.map .int) st) fun o => ∃ st', o = .nx st' ∧ lrS g U A ab be s ll (.int (it s (t + xs.length) v)) st'
  | [], t, st, h => ⟨_, rfl, st, rfl, h⟩
  | x :: xs, t, st, h => by
    obtain ⟨x7, x8, x9, x10, x11, x12, rfl⟩ := h
    obtain ⟨a, ha⟩ := hL t
    show Wp (forL _ _ (D.int x :: xs.map .int) _) _
    unfold forL
    rw [show asgT (.n 7) (D.int x) false (lrE U A ab be s.h ll (.int (it s t v)) x7 x8 x9 x10 x11 x12) = some (lrE U A ab be s.h ll (.int (it s t v)) (some (.int x, false)) x8 x9 x10 x11 x12) from rfl, Option.bind_some]
    have e : evSs C w [.asg (.n 6) (.b .idx (.b .idx (.p 5) (.p 6)) (.c (.int 1)))] ⟨lrE U A ab be s.h ll (.int (it s t v)) (some (.int x, false)) x8 x9 x10 x11 x12, g⟩ = some (.nx ⟨lrE U A ab be s.h ll (.int (it s (t + 1) v)) (some (.int x, false)) x8 x9 x10 x11 x12, g⟩) := by
      have e2 : it s (t + 1) v = ld a := pre_of ha
      rw [e2]
      simp [hl.get, hl.k, ha, ld]
    dsimp only
    rw [e, Option.bind_some]
    refine (back_loop hl hL xs (t + 1) _ ⟨_, _, _, _, _, _, rfl⟩).mono fun o ⟨st', h1, h2⟩ => ⟨st', h1, ?_⟩
    have e : t + 1 + xs.length = t + (x :: xs).length := by simp only [List.length_cons]; omega
    rw [e] at h2
    exact h2
abbrev lrF (U : List Int) (A : List Ar) (ab be : Int) (h : Int → Int) (ll : List (D × D)) (ch : D) (x7 x8 x9 x10 x11 x12 : Option (D × Bool)) (row : List Ar) (at_ : Int) : WW.Env :=
  [some (dI U, false), some (dAs A, false), some (.int ab, false), some (.int be, false), some (.dct (hd U h), true), some (.dct ll, true), some (ch, false), x7, x8, x9, x10, x11, x12, some (dAs row, true), some (.int at_, false), none, none]
/-- round it goes -/
theorem ring_loop {C : Cl} {s : BF} {ll : List (D × D)} {x7 x8 x9 x10 x11 x12 : Option (D × Bool)} (hl : LD U ll s.L) {x : Int} (hL : ∀ t, ∃ a, s.L (it s t x) = some a) {d : Nat} (hd1 : it s d x = x) (hd2 : d < w) (hd3 : d < sizeLine) {a0 : Ar} (ha0 : s.L x = some a0) (hd0 : 1 ≤ d) :
    Wp (whlN (evE C (.b .ne (.p 14) (.p 6))) (evSs C w [.app 13 (.b .idx (.p 5) (.p 14)), .asg (.n 14) (.b .idx (.b .idx (.p 5) (.p 14)) (.c (.int 1)))]) w ⟨lrF U A ab be s.h ll (.int x) x7 x8 x9 x10 x11 x12 [a0] (ld a0), g⟩) fun o =>
      ∃ row, o = .nx ⟨lrF U A ab be s.h ll (.int x) x7 x8 x9 x10 x11 x12 row x, g⟩ ∧ Back s x row x ∧ row.length ≤ d := by
  refine wp_whl (fun st => ∃ (m : Nat) (row : List Ar), st = ⟨lrF U A ab be s.h ll (.int x) x7 x8 x9 x10 x11 x12 row (it s m x), g⟩ ∧ 1 ≤ m ∧ m ≤ d ∧ row.length = m ∧ Back s x row (it s m x))
    (fun st => match (st.r[13]? : Option (Option (D × Bool))) with
      | some (some (D.lst l, _)) => d - l.length
      | _ => 0) ?_ w _ ⟨1, [a0], ?_, by omega, hd0, rfl, ?_⟩ ?_
  · rintro st ⟨m, row, rfl, h1, h2, h3, h4⟩
    by_cases hx : it s m x = x
    · refine ⟨(.bl false, false, ⟨lrF U A ab be s.h ll (.int x) x7 x8 x9 x10 x11 x12 row (it s m x), g⟩), by simp [hx], row, ?_, ?_, by omega⟩
      · show Out.nx _ = _
        rw [hx]
      · rw [hx] at h4; exact h4
    · obtain ⟨a, ha⟩ := hL m
      have e2 : it s (m + 1) x = ld a := pre_of ha
      have hm : m < d := by
        rcases Nat.lt_or_ge m d with z | z
        · exact z
        · have : m = d := by omega
          rw [this] at hx; exact absurd hd1 hx
      refine ⟨(.bl true, false, ⟨lrF U A ab be s.h ll (.int x) x7 x8 x9 x10 x11 x12 row (it s m x), g⟩), by simp [hx], ?_⟩
      refine ⟨.nx ⟨lrF U A ab be s.h ll (.int x) x7 x8 x9 x10 x11 x12 (row ++ [a]) (ld a), g⟩, ?_, ⟨m + 1, row ++ [a], by rw [e2], by omega, hm, by simp [h3], ?_⟩, ?_⟩
      · have : row.length < sizeLine := by omega
        simp [hl.get, hl.k, ha, this, ld]
      · rw [e2]; exact h4.snoc ha
      · simp
        omega
  · show _ = WW.St.mk (lrF U A ab be s.h ll (.int x) x7 x8 x9 x10 x11 x12 [a0] (pre s x)) g
    rw [pre_of ha0]
  · show Back s x [a0] (pre s x)
    rw [pre_of ha0]
    exact .one ha0
  · show d - _ < w
    omega
def tailB : List S := [.for_ 0 (.n 7) [(.v 0)] [.asg (.n 6) (.b .idx (.b .idx (.p 5) (.p 6)) (.c (.int 1)))],
    .par [13, 14] [(.lst [(.b .idx (.p 5) (.p 6))]), (.b .idx (.b .idx (.p 5) (.p 6)) (.c (.int 1)))],
    .whl (.b .ne (.p 14) (.p 6)) [.app 13 (.b .idx (.p 5) (.p 14)),
    .asg (.n 14) (.b .idx (.b .idx (.p 5) (.p 14)) (.c (.int 1)))],
    .ret (.tup [(.u .rev (.p 13)), (.c .non)])]
theorem lesser_ok (G0 : Good U A) (hw : 100 < w) : ∃ d, (callN T1 w (k + 1)).f "lesser_round" [dI U, dAs A, .int ab, .int be] g = some (d, false, g) ∧ Lesser U A ab be d := by
  have hU : U.length ≤ sizeLine := Nat.le_trans G0.n (by decide)
  have hdc := dc_enc (C := callN T1 w k) (x := .v 16) (y := .c (.int 0)) (k := 0) (t := .n 16) (a := [.v 0]) (own := [15, 16]) (st := ⟨[some (dI U, false), some (dAs A, false), some (.int ab, false), some (.int be, false), none, none, none, none, none, none, none, none, none, none, none, none, none], g⟩) (ds := [dI U]) U D.int (fun u => .int u) (fun _ => .int 0) (by simp) (by simp)
    (fun u hu => ⟨[some (dI U, false), some (dAs A, false), some (.int ab, false), some (.int be, false), none, none, none, none, none, none, none, none, none, none, none, none, some (.int u, false)], by simp [wip], by simp [wip], ⟨false, by simp⟩, ⟨false, by simp⟩⟩)
    (fun l hl z _ => kOk_int fun p hp => by obtain ⟨z, _, e⟩ := hl p hp; exact ⟨z, e⟩) (fun r h => back_own h (by simp [keepS])) hU
  have hfold : U.foldl (fun l u => dput l (D.int u) (D.int 0)) [] = hd U fun _ => 0 := by
    have gen : ∀ (V W : List Int), (W ++ V).Nodup → V.foldl (fun l u => dput l (D.int u) (D.int 0)) (hd W fun _ => 0) = hd (W ++ V) fun _ => 0 := by
      intro V
      induction V with
      | nil => intro W _; rw [List.append_nil]; rfl
      | cons v V ih =>
        intro W nd
        have hv : v ∉ W := fun z => by
          rw [List.nodup_append] at nd
          exact nd.2.2 v z v (by simp) rfl
        have : dput (hd W fun _ => 0) (.int v) (.int 0) = hd (W ++ [v]) fun _ => 0 := by
          have gen2 : ∀ W : List Int, v ∉ W → dput (hd W fun _ => 0) (.int v) (.int 0) = hd (W ++ [v]) fun _ => 0 := by
            intro W
            induction W with
            | nil => intro _; rfl
            | cons x W ih2 =>
              intro h
              simp only [List.mem_cons, not_or] at h
              show (if (D.int x).same (D.int v) = true then _ else _ :: dput (hd W _) _ _) = _ :: hd (W ++ [v]) _
              rw [same_int, if_neg (by simpa using Ne.symm h.1), ih2 h.2]
          exact gen2 W hv
        rw [List.foldl_cons, this, ih (W ++ [v]) (by simpa using nd), List.append_assoc]
        rfl
    exact gen U [] (by simpa using G0.nd)
  rw [hfold] at hdc
  have hbig : -(2 ^ 62 : Int) ≤ (U.length : Int) + 1 ∧ (U.length : Int) + 1 < 2 ^ 62 := by
    have := G0.n
    omega
  have hrng : walk 1 [.int ((U.length : Int) + 1)] = some ((List.range (U.length + 1)).map fun (n : Nat) => D.int (n : Int)) := by
    simp only [walk]
    rw [if_pos hbig, show ((U.length : Int) + 1).toNat = U.length + 1 by omega]
  obtain ⟨o, e1, e2⟩ := outer (C := callN T1 w k) (w := w) (g := g) (ab := ab) (be := be) G0 ((List.range' 1 U.length).map fun (n : Nat) => D.int (n : Int)) (.int 0) 1 ⟨fun _ => 0, fun _ => none, fun _ => 0, fun _ => 0, 0⟩ [] .non
    ⟨lrE U A ab be (fun _ => 0) [] .non none none none none none none, g⟩ (Nat.le_refl _) .start (fun v => by show 0 < 1; omega) .nil ⟨_, _, _, _, _, _, rfl⟩
  have hr2 : (List.range (U.length + 1)).map (fun (n : Nat) => D.int (n : Int)) = .int 0 :: (List.range' 1 U.length).map fun (n : Nat) => D.int (n : Int) := by
    rw [List.range_eq_range', List.range'_succ]
    rfl
  have s1 : evSs (callN T1 w k) w F_lesser_round.body ⟨[some (dI U, false), some (dAs A, false), some (.int ab, false), some (.int be, false), none, none, none, none, none, none, none, none, none, none, none, none, none], g⟩ =
      (evS (callN T1 w k) w (.for_ 1 (.n 7) [(.b .add (.u .len (.p 0)) (.c (.int 1)))] outB) ⟨lrE U A ab be (fun _ => 0) [] .non none none none none none none, g⟩).bind fun o => match o with
        | .nx s1 => evSs (callN T1 w k) w tailB s1
        | o => some o := by
    show evSs _ _ (_ :: _ :: (.for_ 1 (.n 7) [(.b .add (.u .len (.p 0)) (.c (.int 1)))] outB) :: tailB) _ = _
    have h1 : evS (callN T1 w k) w (.par [4, 5] [(.dc (.v 16) (.c (.int 0)) 0 (.n 16) [(.v 0)] [] [15, 16]), .dnew]) ⟨[some (dI U, false), some (dAs A, false), some (.int ab, false), some (.int be, false), none, none, none, none, none, none, none, none, none, none, none, none, none], g⟩ =
        some (.nx ⟨[some (dI U, false), some (dAs A, false), some (.int ab, false), some (.int be, false), some (.dct (hd U fun _ => 0), true), some (.dct [], true), none, none, none, none, none, none, none, none, none, none, none], g⟩) := by
      simp [hdc]
    rw [z_ss1, h1, Option.bind_some]
    dsimp only
    rw [z_ss1, show evS (callN T1 w k) w (.asg (.n 6) (.c .non)) ⟨[some (dI U, false), some (dAs A, false), some (.int ab, false), some (.int be, false), some (.dct (hd U fun _ => 0), true), some (.dct [], true), none, none, none, none, none, none, none, none, none, none, none], g⟩ = some (.nx ⟨lrE U A ab be (fun _ => 0) [] .non none none none none none none, g⟩) from rfl, Option.bind_some]
    rfl
  have s2 : evS (callN T1 w k) w (.for_ 1 (.n 7) [(.b .add (.u .len (.p 0)) (.c (.int 1)))] outB) ⟨lrE U A ab be (fun _ => 0) [] .non none none none none none none, g⟩ = some o := by
    rw [z_for]
    have : evs (callN T1 w k) [(.b .add (.u .len (.p 0)) (.c (.int 1)))] ⟨lrE U A ab be (fun _ => 0) [] .non none none none none none none, g⟩ = some ([.int ((U.length : Int) + 1)], ⟨lrE U A ab be (fun _ => 0) [] .non none none none none none none, g⟩) := by simp
    rw [this, Option.bind_some]
    dsimp only
    rw [hrng, Option.bind_some, hr2]
    exact e1
  rw [s2, Option.bind_some] at s1
  rw [c_lesser_round]
  rcases e2 with ⟨h, rfl, hp⟩ | ⟨done, s, ll, v, st, rfl, f1, f2, f3, f4⟩
  · exact ⟨_, runF_of ⟨rfl, by decide⟩ s1, .inl ⟨h, rfl, hp⟩⟩
  · have hlen : 1 + ((List.range' 1 U.length).map fun (n : Nat) => D.int (n : Int)).length = U.length + 1 := by simp; omega
    rw [hlen] at f2 f4
    obtain ⟨g1, d, g2, g3, g4⟩ := round_at f2 G0.U rfl f4
    obtain ⟨z7, z8, z9, z10, z11, z12, rfl⟩ := f1
    obtain ⟨o2, b1, st2, rfl, b2⟩ := back_loop (C := callN T1 w k) (w := w) (g := g) (A := A) (ab := ab) (be := be) f3 g1 U 0 _ ⟨z7, z8, z9, z10, z11, z12, rfl⟩
    rw [Nat.zero_add] at b2
    have b1 : forL _ _ _ ⟨lrE U A ab be s.h ll (.int v) z7 z8 z9 z10 z11 z12, g⟩ = _ := b1
    obtain ⟨y7, y8, y9, y10, y11, y12, rfl⟩ := b2
    obtain ⟨a0, ha0⟩ := g1 U.length
    obtain ⟨o3, r1, row, rfl, r2, r3⟩ := ring_loop (C := callN T1 w k) (w := w) (g := g) (U := U) (A := A) (ab := ab) (be := be) (x7 := y7) (x8 := y8) (x9 := y9) (x10 := y10) (x11 := y11) (x12 := y12) f3 (x := it s U.length v) (fun t => by
      obtain ⟨a, ha⟩ := g1 (t + U.length)
      rw [it_add] at ha
      exact ⟨a, ha⟩) g4 (by have := G0.n; omega) (Nat.lt_of_le_of_lt g3 (Nat.lt_of_le_of_lt G0.n (by decide))) ha0 g2
    obtain ⟨rd, ng⟩ := r2.round f2.inv
    refine ⟨_, runF_of ⟨rfl, by decide⟩ (s1.trans ?_), .inr ⟨row.reverse, rfl, rd, by rw [List.length_reverse]; omega, ng⟩⟩
    dsimp only
    have t1 : evS (callN T1 w k) w (.for_ 0 (.n 7) [(.v 0)] [.asg (.n 6) (.b .idx (.b .idx (.p 5) (.p 6)) (.c (.int 1)))]) ⟨lrE U A ab be s.h ll (.int v) z7 z8 z9 z10 z11 z12, g⟩ = some (.nx ⟨lrE U A ab be s.h ll (.int (it s U.length v)) y7 y8 y9 y10 y11 y12, g⟩) := by
      rw [z_for]
      exact b1
    have t2 : evS (callN T1 w k) w (.par [13, 14] [(.lst [(.b .idx (.p 5) (.p 6))]), (.b .idx (.b .idx (.p 5) (.p 6)) (.c (.int 1)))]) ⟨lrE U A ab be s.h ll (.int (it s U.length v)) y7 y8 y9 y10 y11 y12, g⟩ = some (.nx ⟨lrF U A ab be s.h ll (.int (it s U.length v)) y7 y8 y9 y10 y11 y12 [a0] (ld a0), g⟩) := by
      simp [f3.get, f3.k, ha0, ld]
    have t4 : evS (callN T1 w k) w (.ret (.tup [(.u .rev (.p 13)), (.c .non)])) ⟨lrF U A ab be s.h ll (.int (it s U.length v)) y7 y8 y9 y10 y11 y12 row (it s U.length v), g⟩ = some (.ret (.tup [dAs row.reverse, .non]) false g) := by
      simp [dAs]
    unfold tailB
    rw [z_ss1, t1, Option.bind_some]
    dsimp only
    rw [z_ss1, t2, Option.bind_some]
    dsimp only
    rw [z_ss1, z_whl, r1, Option.bind_some]
    dsimp only
    rw [z_ss1, t4]
    rfl
end
end Hd
end
section
set_option maxHeartbeats 1000000
/-! the least round -/
namespace Hd
open PySem WW MM
theorem ilt (a b : Int) : a < b ∨ b ≤ a := by omega
abbrev up (t : List Ar) : Int := sm t / lwg (sm t) t.length
abbrev dn (t : List Ar) : Int := t.length / lwg (sm t) t.length
theorem lwg_dvd (a b : Int) : a / lwg a b * lwg a b = a ∧ b / lwg a b * lwg a b = b := by
  unfold lwg
  exact ⟨Int.ediv_mul_cancel (Int.gcd_dvd_left ..), Int.ediv_mul_cancel (Int.gcd_dvd_right ..)⟩
theorem dn_pos {t : List Ar} (h : t ≠ []) : 0 < dn t ∧ 0 < lwg (sm t) t.length := by
  have hl : 0 < t.length := List.length_pos_iff.mpr h
  obtain ⟨h1, _⟩ := lwg_pos (a := sm t) (b := t.length) (by omega)
  obtain ⟨_, h2⟩ := lwg_dvd (sm t) t.length
  refine ⟨?_, h1⟩
  rcases Int.lt_trichotomy 0 (dn t) with z | z | z
  · exact z
  · have : dn t * lwg (sm t) t.length = 0 := by rw [← z, Int.zero_mul]
    have e : dn t * lwg (sm t) t.length = t.length := h2
    omega
  · have : dn t * lwg (sm t) t.length < 0 := Int.mul_neg_of_neg_of_pos z h1
    have e : dn t * lwg (sm t) t.length = t.length := h2
    omega
theorem mean_lw {t : List Ar} : meanP t = .tup [.int (up t), .int (dn t)] := rfl
/-- a round that lies below another one's mean -/
theorem up_lt {t u : List Ar} (ht : t ≠ []) (hu : u ≠ []) (h : (u.map (W (up t) (dn t))).sum < 0) : up u * dn t < up t * dn u := by
  rw [W_sum] at h
  obtain ⟨_, g1⟩ := dn_pos hu
  obtain ⟨e1, e2⟩ := lwg_dvd (sm u) u.length
  have e1 : up u * lwg (sm u) u.length = sm u := e1
  have e2 : dn u * lwg (sm u) u.length = u.length := e2
  generalize lwg (sm u) u.length = c at g1 e1 e2
  rw [← e1, ← e2] at h
  rcases ilt (up u * dn t) (up t * dn u) with z | z
  · exact z
  · exfalso
    have h2 : up t * dn u * c ≤ up u * dn t * c := Int.mul_le_mul_of_nonneg_right z (by omega)
    have h3 : up u * c * dn t = up u * dn t * c := by rw [Int.mul_assoc, Int.mul_comm c, ← Int.mul_assoc]
    have h4 : dn u * c * up t = up t * dn u * c := by rw [Int.mul_comm (dn u * c), ← Int.mul_assoc]
    rw [h3, h4] at h
    omega
theorem dn_dvd {t : List Ar} (h : t ≠ []) (hl : t.length ≤ 10) : 2520 / dn t * dn t = 2520 := by
  obtain ⟨_, e2⟩ := lwg_dvd (sm t) t.length
  have e2 : dn t * lwg (sm t) t.length = t.length := e2
  have hd : dn t ∣ (t.length : Int) := ⟨_, e2.symm⟩
  have hp : 0 < t.length := List.length_pos_iff.mpr h
  have h3 : (t.length : Int) ∣ 2520 := by
    have : t.length = 1 ∨ t.length = 2 ∨ t.length = 3 ∨ t.length = 4 ∨ t.length = 5 ∨ t.length = 6 ∨ t.length = 7 ∨ t.length = 8 ∨ t.length = 9 ∨ t.length = 10 := by omega
    rcases this with e | e | e | e | e | e | e | e | e | e <;> rw [e] <;> decide
  exact Int.ediv_mul_cancel (Int.dvd_trans hd h3)
theorem sm_bound {A : List Ar} (hB : ∀ a ∈ A, -1000 ≤ nm a ∧ nm a ≤ 1000) : ∀ {t : List Ar}, (∀ a ∈ t, a ∈ A) → -(1000 * (t.length : Int)) ≤ sm t ∧ sm t ≤ 1000 * t.length
  | [], _ => by simp [sm]
  | a :: t, h => by
    have ih := sm_bound hB (t := t) fun b hb => h b (by simp [hb])
    have := hB a (h a (by simp))
    have e : sm (a :: t) = nm a + sm t := by unfold sm; rw [List.map_cons, List.sum_cons]
    rw [e, List.length_cons]
    omega
def mz (a b : Int) : Nat := (a * (2520 / b) + 3000000).toNat
theorem mz_bound {A : List Ar} (hB : ∀ a ∈ A, -1000 ≤ nm a ∧ nm a ≤ 1000) {t : List Ar} (r : Round A t) (hl : t.length ≤ 10) : -2520000 ≤ up t * (2520 / dn t) ∧ up t * (2520 / dn t) ≤ 2520000 := by
  obtain ⟨p1, p2⟩ := dn_pos r.ne
  obtain ⟨e1, e2⟩ := lwg_dvd (sm t) t.length
  have e1 : up t * lwg (sm t) t.length = sm t := e1
  have e2 : dn t * lwg (sm t) t.length = t.length := e2
  obtain ⟨b1, b2⟩ := sm_bound hB r.mem
  have d := dn_dvd r.ne hl
  have c0 : 0 < 2520 / dn t := by
    rcases ilt 0 (2520 / dn t) with z | z
    · exact z
    · have := Int.mul_le_mul_of_nonneg_right z (Int.le_of_lt p1)
      omega
  generalize lwg (sm t) t.length = c at p2 e1 e2
  rw [← e1, ← e2] at b1 b2
  have k1 : up t ≤ 1000 * dn t := by
    rcases ilt (1000 * dn t) (up t) with z | z
    · have := Int.mul_lt_mul_of_pos_right z p2
      rw [Int.mul_assoc] at this
      omega
    · exact z
  have k2 : -(1000 * dn t) ≤ up t := by
    rcases ilt (up t) (-(1000 * dn t)) with z | z
    · have := Int.mul_lt_mul_of_pos_right z p2
      rw [Int.neg_mul, Int.mul_assoc] at this
      omega
    · exact z
  have m1 := Int.mul_le_mul_of_nonneg_right k1 (Int.le_of_lt c0)
  have m2 := Int.mul_le_mul_of_nonneg_right k2 (Int.le_of_lt c0)
  rw [Int.neg_mul] at m2
  have e : 1000 * dn t * (2520 / dn t) = 2520000 := by
    rw [Int.mul_assoc, Int.mul_comm (dn t), d]
    rfl
  omega
theorem mz_lt {A : List Ar} (hB : ∀ a ∈ A, -1000 ≤ nm a ∧ nm a ≤ 1000) {t u : List Ar} (rt : Round A t) (ru : Round A u) (ht : t.length ≤ 10) (hu : u.length ≤ 10) (h : up u * dn t < up t * dn u) : mz (up u) (dn u) < mz (up t) (dn t) := by
  obtain ⟨p1, _⟩ := dn_pos rt.ne
  obtain ⟨p2, _⟩ := dn_pos ru.ne
  have d1 := dn_dvd rt.ne ht
  have d2 := dn_dvd ru.ne hu
  obtain ⟨b1, b2⟩ := mz_bound hB rt ht
  obtain ⟨b3, b4⟩ := mz_bound hB ru hu
  have key : up u * (2520 / dn u) < up t * (2520 / dn t) := by
    generalize 2520 / dn u = c' at *
    generalize 2520 / dn t = c at *
    generalize up u = a' at *
    generalize up t = a at *
    generalize dn u = b' at *
    generalize dn t = b at *
    rcases ilt (a' * c') (a * c) with z | z
    · exact z
    · exfalso
      have h1 := Int.mul_le_mul_of_nonneg_right (Int.mul_le_mul_of_nonneg_right z (Int.le_of_lt p1)) (Int.le_of_lt p2)
      have e1 : a * c * b * b' = 2520 * (a * b') := by
        rw [Int.mul_assoc a c b, d1, Int.mul_comm a, Int.mul_assoc]
      have e2 : a' * c' * b * b' = 2520 * (a' * b) := by
        rw [Int.mul_assoc (a' * c') b b', Int.mul_comm b b', ← Int.mul_assoc, Int.mul_assoc a' c' b', d2, Int.mul_assoc, Int.mul_comm a', Int.mul_assoc, Int.mul_comm b]
      rw [e1, e2] at h1
      omega
  unfold mz
  omega
section
variable {w k : Nat} {g : G} {U : List Int} {A : List Ar}
/-- the least round: a round, with heights that show it -/
structure Least (A : List Ar) (t : List Ar) (h : Int → Int) : Prop where
  r : Round A t
  l : t.length ≤ 10
  p : Paper A (up t) (dn t) h
abbrev wlB : List S := [.asg (.n 2) (.v 5),
    .asg (.t [(.n 3), (.n 4)]) (.call ("mean_of" : Str) [(.v 2)]),
    .asg (.t [(.n 5), (.n 6)]) (.call ("lesser_round" : Str) [(.v 0), (.v 1), (.v 3), (.v 4)])]
abbrev wlE (U : List Int) (A t : List Ar) (x y : D) : WW.Env := [some (dI U, false), some (dAs A, false), some (dAs t, false), some (.int (up t), false), some (.int (dn t), false), some (x, false), some (y, false)]
theorem mean_up {t : List Ar} (h0 : t ≠ []) (hl : t.length ≤ 10) (hw : 10000000 ≤ w) : (callN T1 w (k + 2)).f "mean_of" [dAs t] g = some (.tup [.int (up t), .int (dn t)], false, g) := mean_of_ok h0 (by omega) (by omega)
theorem least_ok (G0 : Good U A) (hw : 10000000 ≤ w) {t0 : List Ar} {fl : Bool} (r0 : Round A t0) (l0 : t0.length ≤ 10) (hf : (callN T1 w (k + 2)).f "first_round" [dI U, dAs A] g = some (dAs t0, fl, g)) :
    ∃ t h, (callN T1 w (k + 3)).f "least_round" [dI U, dAs A] g = some (.tup [dAs t, dI (U.map h)], false, g) ∧ Least A t h := by
  obtain ⟨d0, hd0, ld0⟩ := lesser_ok (k := k + 1) (g := g) (ab := up t0) (be := dn t0) G0 (show 100 < w by omega)
  have two : ∀ {ab be : Int} {d : D}, Lesser U A ab be d → ∃ x y, d = .tup [x, y] := fun h => by
    rcases h with ⟨h, rfl, _⟩ | ⟨row, rfl, _⟩
    · exact ⟨_, _, rfl⟩
    · exact ⟨_, _, rfl⟩
  obtain ⟨x0, y0, rfl⟩ := two ld0
  have wl : Wp (whlN (evE (callN T1 w (k + 2)) (.u .notN (.p 5))) (evSs (callN T1 w (k + 2)) w wlB) w ⟨wlE U A t0 x0 y0, g⟩) fun o => ∃ t h, o = .nx ⟨wlE U A t .non (dI (U.map h)), g⟩ ∧ Least A t h := by
    refine wp_whl (fun st => ∃ t x y, st = ⟨wlE U A t x y, g⟩ ∧ Round A t ∧ t.length ≤ 10 ∧ Lesser U A (up t) (dn t) (.tup [x, y]))
      (fun st => match st.r with
        | [_, _, _, some (.int a, _), some (.int b, _), _, _] => mz a b
        | _ => 0) ?_ w _ ⟨t0, x0, y0, rfl, r0, l0, ld0⟩ ?_
    · rintro st ⟨t, x, y, rfl, r, l, ls⟩
      rcases ls with ⟨h, e, p⟩ | ⟨row, e, r', l', ng⟩
      · cases e
        exact ⟨(.bl false, false, ⟨wlE U A t .non (dI (U.map h)), g⟩), by simp, t, h, rfl, r, l, p⟩
      · cases e
        have l2 : row.length ≤ 10 := Nat.le_trans l' G0.n
        obtain ⟨d1, hd1, ld1⟩ := lesser_ok (k := k + 1) (g := g) (ab := up row) (be := dn row) G0 (show 100 < w by omega)
        obtain ⟨x1, y1, rfl⟩ := two ld1
        refine ⟨(.bl true, false, ⟨wlE U A t (dAs row) .non, g⟩), by simp, .nx ⟨wlE U A row x1 y1, g⟩, ?_, ⟨row, x1, y1, rfl, r', l2, ld1⟩, ?_⟩
        · have m := mean_up (w := w) (k := k) (g := g) r'.ne l2 hw
          simp [m, hd1]
        · exact mz_lt G0.B r r' l l2 (up_lt r.ne r'.ne ng)
    · obtain ⟨b1, b2⟩ := mz_bound G0.B r0 l0
      show mz _ _ < w
      unfold mz
      omega
  obtain ⟨o, e1, t, h, rfl, le⟩ := wl
  refine ⟨t, h, ?_, le⟩
  rw [c_least_round]
  refine runF_of ⟨rfl, by decide⟩ ?_
  show evSs _ _ _ ⟨[some (dI U, false), some (dAs A, false), none, none, none, none, none], g⟩ = _
  have m := mean_up (w := w) (k := k) (g := g) r0.ne l0 hw
  cases fl <;> simp [F_least_round, hf, m, hd0, e1]
end
end Hd
end
section
set_option maxHeartbeats 1000000
/-! the best round, both means -/
namespace Hd
open PySem WW MM
theorem lw_scale {a b c : Int} (hc : 0 < c) : a * c / lwg (a * c) (b * c) = a / lwg a b ∧ b * c / lwg (a * c) (b * c) = b / lwg a b := by
  have e : lwg (a * c) (b * c) = lwg a b * c := by
    unfold lwg
    rw [Int.gcd_mul_right]
    push_cast
    rw [Int.natAbs_of_nonneg (Int.le_of_lt hc)]
  rw [e]
  exact ⟨Int.mul_ediv_mul_of_pos_left _ _ hc, Int.mul_ediv_mul_of_pos_left _ _ hc⟩
theorem lw_same {a b c d : Int} (hb : 0 < b) (hd : 0 < d) (h : a * d = c * b) : a / lwg a b = c / lwg c d ∧ b / lwg a b = d / lwg c d := by
  obtain ⟨e1, e2⟩ := lw_scale (a := a) (b := b) hd
  obtain ⟨e3, e4⟩ := lw_scale (a := c) (b := d) hb
  rw [← e1, ← e2, ← e3, ← e4, h, Int.mul_comm b d]
  exact ⟨rfl, rfl⟩
theorem round_le {A : List Ar} {t u : List Ar} {h : Int → Int} (ht : t ≠ []) (p : Paper A (up t) (dn t) h) (r : Round A u) : sm t * u.length ≤ sm u * t.length := by
  have := r.pos p
  rw [W_sum] at this
  obtain ⟨p1, p2⟩ := dn_pos ht
  obtain ⟨e1, e2⟩ := lwg_dvd (sm t) t.length
  have e1 : up t * lwg (sm t) t.length = sm t := e1
  have e2 : dn t * lwg (sm t) t.length = t.length := e2
  generalize lwg (sm t) t.length = c at p2 e1 e2
  rw [← e1, ← e2]
  have h1 : (u.length : Int) * up t ≤ sm u * dn t := by omega
  have h2 := Int.mul_le_mul_of_nonneg_right h1 (Int.le_of_lt p2)
  rw [Int.mul_comm (u.length : Int), Int.mul_assoc, Int.mul_comm (u.length : Int), ← Int.mul_assoc, Int.mul_assoc (sm u)] at h2
  exact h2
/-- the least mean is one -/
theorem least_one {A : List Ar} {t u : List Ar} {h h' : Int → Int} (p : Paper A (up t) (dn t) h) (r : Round A t) (p' : Paper A (up u) (dn u) h') (r' : Round A u) : up t = up u ∧ dn t = dn u := by
  have h1 := round_le r.ne p r'
  have h2 := round_le r'.ne p' r
  have l1 : 0 < t.length := List.length_pos_iff.mpr r.ne
  have l2 : 0 < u.length := List.length_pos_iff.mpr r'.ne
  exact lw_same (by omega) (by omega) (by omega)
section
variable {w k : Nat} {g : G} {U : List Int} {A : List Ar}
theorem Good.turn (G0 : Good U A) : Good U (A.map turnA) := ⟨G0.nd, G0.n, by rw [List.length_map]; exact G0.m, fun a ha => by
  obtain ⟨b, hb, rfl⟩ := List.mem_map.mp ha
  exact G0.U b hb, fun a ha => by
  obtain ⟨b, hb, rfl⟩ := List.mem_map.mp ha
  have := G0.B b hb
  show -1000 ≤ -(nm b) ∧ -(nm b) ≤ 1000
  omega⟩
abbrev tn (b : Bool) (A : List Ar) : List Ar := if b then A else A.map turnA
abbrev sgn (b : Bool) : Int := if b then 1 else -1
def bestD (b : Bool) (U : List Int) (t : List Ar) (h : Int → Int) : D := .tup [dI (t.map (·.1)), .tup [.int (sgn b * up t), .int (dn t)], dI (U.map fun u => sgn b * h u)]
theorem best_ok (b : Bool) (G0 : Good U A) (hw : 10000000 ≤ w) {t0 : List Ar} {fl : Bool} (r0 : Round (tn b A) t0) (l0 : t0.length ≤ 10) (hf : (callN T1 w (k + 2)).f "first_round" [dI U, dAs (tn b A)] g = some (dAs t0, fl, g)) :
    ∃ t h, (callN T1 w (k + 4)).f "best_round" [dI U, dAs A, .bl b] g = some (bestD b U t h, false, g) ∧ Least (tn b A) t h := by
  have G1 : Good U (tn b A) := by cases b; exact G0.turn; exact G0
  obtain ⟨t, h, e, le⟩ := least_ok (k := k) G1 hw r0 l0 hf
  refine ⟨t, h, ?_, le⟩
  rw [c_best_round]
  refine runF_of ⟨rfl, by decide⟩ ?_
  show evSs _ _ _ ⟨[some (dI U, false), some (dAs A, false), some (.bl b, false), none, none, none, none, none, none, none, none, none], g⟩ = _
  have m := mean_up (w := w) (k := k + 1) (g := g) le.r.ne le.l hw
  have tu := turned_ok (w := w) (k := k + 2) (g := g) (t := A) (by have := G0.m; omega)
  have st8 : ∀ (d3 : D) (sg : Int), ev (callN T1 w (k + 3)) (.lc (.b .idx (.p 10) (.c (.int 0))) 0 (.n 10) [(.v 4)] [] [9, 10]) ⟨[some (dI U, false), some (dAs A, false), some (.bl b, false), some (d3, false), some (dAs t, false), some (dI (U.map h), false), some (.int (up t), false), some (.int (dn t), false), some (.int sg, false), none, none, none], g⟩ = some (.inr (dI (t.map (·.1))), true, ⟨[some (dI U, false), some (dAs A, false), some (.bl b, false), some (d3, false), some (dAs t, false), some (dI (U.map h), false), some (.int (up t), false), some (.int (dn t), false), some (.int sg, false), none, none, none], g⟩) := fun d3 sg => by
    have := lc_all (C := callN T1 w (k + 3)) (e := (.b .idx (.p 10) (.c (.int 0)))) (k := 0) (t := .n 10) (a := [.v 4]) (own := [9, 10]) (st := ⟨[some (dI U, false), some (dAs A, false), some (.bl b, false), some (d3, false), some (dAs t, false), some (dI (U.map h), false), some (.int (up t), false), some (.int (dn t), false), some (.int sg, false), none, none, none], g⟩) (ds := [dAs t]) t dA (fun a => .int a.1) (by simp) (by simp)
      (fun a _ => ⟨[some (dI U, false), some (dAs A, false), some (.bl b, false), some (d3, false), some (dAs t, false), some (dI (U.map h), false), some (.int (up t), false), some (.int (dn t), false), some (.int sg, false), none, some (dA a, false), none], by simp [wip], by simp [wip], by simp⟩) (fun r h => back_own h (by simp [keepS])) (Nat.le_trans le.l (by decide))
    rw [this]
    simp [dI]
  have st9 : ∀ (d3 : D) (sg : Int), small sg = true → ev (callN T1 w (k + 3)) (.lc (.b .mul (.p 8) (.p 11)) 0 (.n 11) [(.v 5)] [] [9, 11]) ⟨[some (dI U, false), some (dAs A, false), some (.bl b, false), some (d3, false), some (dAs t, false), some (dI (U.map h), false), some (.int (up t), false), some (.int (dn t), false), some (.int sg, false), none, none, none], g⟩ = some (.inr (dI (U.map fun u => sg * h u)), true, ⟨[some (dI U, false), some (dAs A, false), some (.bl b, false), some (d3, false), some (dAs t, false), some (dI (U.map h), false), some (.int (up t), false), some (.int (dn t), false), some (.int sg, false), none, none, none], g⟩) := fun d3 sg hs => by
    have := lc_all (C := callN T1 w (k + 3)) (e := (.b .mul (.p 8) (.p 11))) (k := 0) (t := .n 11) (a := [.v 5]) (own := [9, 11]) (st := ⟨[some (dI U, false), some (dAs A, false), some (.bl b, false), some (d3, false), some (dAs t, false), some (dI (U.map h), false), some (.int (up t), false), some (.int (dn t), false), some (.int sg, false), none, none, none], g⟩) (ds := [dI (U.map h)]) (U.map h) D.int (fun a => .int (sg * a)) (by simp) (by simp)
      (fun a _ => ⟨[some (dI U, false), some (dAs A, false), some (.bl b, false), some (d3, false), some (dAs t, false), some (dI (U.map h), false), some (.int (up t), false), some (.int (dn t), false), some (.int sg, false), none, none, some (.int a, false)], by simp [wip], by simp [wip], by simp [hs]⟩) (fun r h => back_own h (by simp [keepS])) (by rw [List.length_map]; exact Nat.le_trans G0.n (by decide))
    rw [this]
    simp [dI]
  have s1 : small 1 = true := by decide
  have s2 : small (-1) = true := by decide
  cases b
  · simp only [tn, Bool.false_eq_true, if_false] at e
    simp [F_best_round, e, tu, m, st8, st9, s1, s2, bestD, sgn, Int.neg_mul]
  · simp only [tn, if_true] at e
    simp [F_best_round, e, tu, m, st8, st9, s1, s2, bestD, sgn, Int.neg_mul]
theorem both_ok (G0 : Good U A) (hw : 10000000 ≤ w) {t0 t1 : List Ar} {f0 f1 : Bool} (r0 : Round A t0) (l0 : t0.length ≤ 10) (h0 : (callN T1 w (k + 2)).f "first_round" [dI U, dAs A] g = some (dAs t0, f0, g))
    (r1 : Round (A.map turnA) t1) (l1 : t1.length ≤ 10) (h1 : (callN T1 w (k + 2)).f "first_round" [dI U, dAs (A.map turnA)] g = some (dAs t1, f1, g)) :
    ∃ t h u h', (callN T1 w (k + 5)).f "both_means" [dI U, dAs A] g = some (.lst [.tup [.int (up t), .int (dn t)], .tup [.int (-up u), .int (dn u)]], true, g) ∧ Least A t h ∧ Least (A.map turnA) u h' := by
  obtain ⟨t, h, e, le⟩ := best_ok (k := k) true G0 hw r0 l0 h0
  obtain ⟨u, h', e', le'⟩ := best_ok (k := k) false G0 hw r1 l1 h1
  refine ⟨t, h, u, h', ?_, le, le'⟩
  rw [c_both_means]
  refine runF_of ⟨rfl, by decide⟩ ?_
  show evSs _ _ _ ⟨[some (dI U, false), some (dAs A, false), none, none], g⟩ = _
  have := lc_all (C := callN T1 w (k + 4)) (e := (.b .idx (.call ("best_round" : Str) [(.v 0), (.v 1), (.v 3)]) (.c (.int 1)))) (k := 0) (t := .n 3) (a := [(.tup [(.c (.bl true)), (.c (.bl false))])]) (own := [2, 3]) (st := ⟨[some (dI U, false), some (dAs A, false), none, none], g⟩) (ds := [.tup [.bl true, .bl false]]) [true, false] D.bl (fun b => if b then .tup [.int (up t), .int (dn t)] else .tup [.int (-up u), .int (dn u)]) (by simp) (by simp)
    (fun b hb => ⟨[some (dI U, false), some (dAs A, false), none, some (.bl b, false)], by simp [wip], by simp [wip], false, by cases b <;> simp [e, e', bestD, sgn, Int.neg_mul]⟩) (fun r h => back_own h (by simp [keepS])) (by simp)
  simp [F_both_means, this, e, bestD]
end
end Hd
end
section
set_option maxHeartbeats 1000000
/-! the counters that the law draws: rings at one stand -/
namespace Hd
open PySem WW MM
inductive Shp : List (List Int) → Prop where
  | s0 (a : Int) : Shp [[a]]
  | s1 (a b : Int) : Shp [[a, b]]
  | s2 (a b c : Int) : Shp [[a, b, c]]
  | s3 (a b : Int) : Shp [[a], [b]]
  | s4 (a b c : Int) : Shp [[a], [b, c]]
  | s5 (a b c d : Int) : Shp [[a], [b, c, d]]
  | s6 (a b c : Int) : Shp [[a, b], [c]]
  | s7 (a b c d : Int) : Shp [[a, b], [c, d]]
  | s8 (a b c d e : Int) : Shp [[a, b], [c, d, e]]
  | s9 (a b c d : Int) : Shp [[a, b, c], [d]]
  | s10 (a b c d e : Int) : Shp [[a, b, c], [d, e]]
  | s11 (a b c d e f : Int) : Shp [[a, b, c], [d, e, f]]
  | s12 (a b c : Int) : Shp [[a], [b], [c]]
  | s13 (a b c d : Int) : Shp [[a], [b], [c, d]]
  | s14 (a b c d e : Int) : Shp [[a], [b], [c, d, e]]
  | s15 (a b c d : Int) : Shp [[a], [b, c], [d]]
  | s16 (a b c d e : Int) : Shp [[a], [b, c], [d, e]]
  | s17 (a b c d e f : Int) : Shp [[a], [b, c], [d, e, f]]
  | s18 (a b c d e : Int) : Shp [[a], [b, c, d], [e]]
  | s19 (a b c d e f : Int) : Shp [[a], [b, c, d], [e, f]]
  | s20 (a b c d : Int) : Shp [[a, b], [c], [d]]
  | s21 (a b c d e : Int) : Shp [[a, b], [c], [d, e]]
  | s22 (a b c d e f : Int) : Shp [[a, b], [c], [d, e, f]]
  | s23 (a b c d e : Int) : Shp [[a, b], [c, d], [e]]
  | s24 (a b c d e f : Int) : Shp [[a, b], [c, d], [e, f]]
  | s25 (a b c d e f : Int) : Shp [[a, b], [c, d, e], [f]]
  | s26 (a b c d e : Int) : Shp [[a, b, c], [d], [e]]
  | s27 (a b c d e f : Int) : Shp [[a, b, c], [d], [e, f]]
  | s28 (a b c d e f : Int) : Shp [[a, b, c], [d, e], [f]]
def rmv (letter many : Int) : List Int → List Ar
  | [a] => [(0, letter, a, 0)]
  | [a, b] => [(0, letter, a, many), (many, 0, b, 0)]
  | [a, b, c] => [(0, letter, a, many), (many, 0, b, many + 1), (many + 1, 0, c, 0)]
  | _ => []
def mvR : List (List Int) → Int → Int → List Ar
  | [], _, _ => []
  | r :: R, letter, many => rmv letter many r ++ mvR R (letter + 1) (many + r.length - 1)
def lostR : List (List Int) → Int → Int
  | [], many => many
  | r :: R, many => lostR R (many + r.length - 1)
abbrev lost (R : List (List Int)) : Int := lostR R 1
def mvs (R : List (List Int)) (x : Int) : List Ar := mvR R 0 1 ++ [(0, 2, 20, lost R), (lost R, 0, x, lost R)]
def leM (a b : Ar) : Bool := if a.1 < b.1 then true else if b.1 < a.1 then false else if a.2.1 < b.2.1 then true else if b.2.1 < a.2.1 then false else decide (a.2.2.2 ≤ b.2.2.2)
def insM (x : Ar) : List Ar → List Ar
  | [] => [x]
  | y :: r => if leM x y then x :: y :: r else y :: insM x r
def srtM : List Ar → List Ar
  | [] => []
  | x :: r => insM x (srtM r)
def srt (R : List (List Int)) (x : Int) : List Ar := srtM (mvs R x)
def us (R : List (List Int)) : List Int := (List.range (lost R).toNat).map fun (n : Nat) => (n : Int)
/-- the arrows of some moves -/
def arU (U : List Int) (l : List Ar) (i : Int) : List Ar := match l with
  | [] => []
  | p :: l => if p.1 ∈ U ∧ p.2.2.2 ∈ U then (i, p.1, p.2.2.1, p.2.2.2) :: arU U l (i + 1) else arU U l (i + 1)
def ars (R : List (List Int)) (x : Int) : List Ar := arU (us R) (srt R x) 0
/-- the counter -/
def cD (R : List (List Int)) (s : Int) (ms : List Ar) : D := .tup [.int (lost R + 1), .int 3, .lst [.tup [.int 0, .int s]], dAs ms, .lst [.tup [.int 0, .int 0]]]
def alo (l : List Ar) : List Ar := l.filter fun p => decide (p.1 = 0) && decide (0 < p.2.2.2)
/-- the arrows of a ring -/
def rar (N j m : Int) : List Int → List Ar
  | [a] => [(j, 0, a, 0)]
  | [a, b] => [(j, 0, a, m), (N + m, m, b, 0)]
  | [a, b, c] => [(j, 0, a, m), (N + m, m, b, m + 1), (N + m + 1, m + 1, c, 0)]
  | _ => []
def rars (N : Int) : List (List Int) → Int → Int → List (List Ar)
  | [], _, _ => []
  | r :: R, j, m => rar N j m r :: rars N R (j + 1) (m + r.length - 1)
def rings (R : List (List Int)) : List (List Ar) := rars R.length R 0 1
/-- heights -/
def hv (be ab : Int) : List (List Int) → Int → Int → Int
  | [], _, _ => 0
  | [a, b] :: R, m, v => if v = m then a * be - ab else hv be ab R (m + 1) v
  | [a, b, c] :: R, m, v => if v = m then a * be - ab else if v = m + 1 then a * be - ab + (b * be - ab) else hv be ab R (m + 2) v
  | _ :: R, m, v => hv be ab R m v
def frst (R : List (List Int)) : List Ar := (rings R).headD []
abbrev W0 : Nat := 10000000
variable {k : Nat} {g : G} {R : List (List Int)} {s x : Int}
theorem f_weighed (h : Shp R) : (callN T1 W0 (k + 3)).f "weighed" [cD R s (srt R x)] g = some (.tup [dI (us R), dAs (ars R x)], false, g) := by
  cases h <;> kernel_rfl
theorem f_first (h : Shp R) : (callN T1 W0 (k + 1)).f "first_round" [dI (us R), dAs (ars R x)] g = some (dAs (frst R), true, g) := by
  cases h <;> kernel_rfl
theorem f_first' (h : Shp R) : (callN T1 W0 (k + 1)).f "first_round" [dI (us R), dAs ((ars R x).map turnA)] g = some (dAs ((frst R).map turnA), true, g) := by
  cases h <;> kernel_rfl
theorem f_counted (h : Shp R) : (callN T1 W0 (k + 3)).f "_law_counted" [cD R s (srt R x)] g = some (dI (us R), true, g) := by
  cases h <;> kernel_rfl
end Hd
end
section
set_option maxHeartbeats 1000000
/-! draws, comprehensions that draw, loosening -/
namespace Hd
open PySem WW
def GOk (n : Nat) (g : G) : Prop := ∃ s, g = ⟨some s⟩ ∧ 0 ≤ s.cnt ∧ s.cnt ≤ n ∧ 0 ≤ s.mix ∧ s.mix < 2147483647 ∧ 0 ≤ s.cur
theorem GOk.mono {n m : Nat} {g : G} (q : GOk n g) (h : n ≤ m) : GOk m g := by
  obtain ⟨s, e, h1, h2, h3⟩ := q
  exact ⟨s, e, h1, by omega, h3⟩
section
variable {w k n : Nat} {g : G}
theorem draw_ok {m : Int} (q : GOk n g) (hn : n < 1000000000) (h0 : 0 < m) (h1 : m < 1073741824) : ∃ r g', (callN T1 w (k + 1)).f "_law_draw" [.strm, .int m] g = some (.int r, false, g') ∧ 0 ≤ r ∧ r < m ∧ GOk (n + 1) g' := by
  obtain ⟨s, rfl, q1, q2, q3, q4, q5⟩ := q
  have e : (callN T1 w (k + 1)).f "_law_draw" [.strm, .int m] ⟨some s⟩ = (drawF s m).map fun (r, s') => (.int r, false, ⟨some s'⟩) := rfl
  obtain ⟨f1, f2, f3⟩ := fill_mix s.cells s.cur s.mix q5 q3 q4
  unfold drawF at e
  dsimp only at e
  rw [if_pos ⟨h0, h1, q1, by omega, q3, q4, q5⟩] at e
  split at e
  · refine ⟨_, _, e, Int.emod_nonneg _ (by omega), Int.emod_lt_of_pos _ h0, _, rfl, by show 0 ≤ s.cnt + 1; omega, by show s.cnt + 1 ≤ ((n + 1 : Nat) : Int); omega, f2, f3, ?_⟩
    show 0 ≤ (fill s.cells s.cur s.mix).2.1 / m
    exact Int.ediv_nonneg f1 (by omega)
  · exact ⟨_, _, e, Int.emod_nonneg _ (by omega), Int.emod_lt_of_pos _ h0, _, rfl, by show 0 ≤ s.cnt + 1; omega, by show s.cnt + 1 ≤ ((n + 1 : Nat) : Int); omega, f2, f3, f1⟩
/-- a comprehension whose elements change the draws -/
theorem lc_st {C : Cl} {e : E} {kd : Nat} {t : T} {a : List E} {own : List Nat} {st : St} {ds : List D} {g1 : G} (xs : List D) (I : List D → List D → G → Prop) (h1 : evs C a st = some (ds, ⟨st.r, g1⟩)) (h2 : walk kd ds = some xs) (h0 : I xs [] g1)
    (hs : ∀ x rest acc g, I (x :: rest) acc g → ∃ r1 d fl r2 g', asgT t x false (wip st.r own) = some r1 ∧ toE (ev C e ⟨r1, g⟩) = some (d, fl, ⟨r2, g'⟩) ∧ wip r2 own = wip st.r own ∧ I rest (acc ++ [d]) g')
    (hb : ∀ r, wip r own = wip st.r own → back r st.r own = st.r) (hl : xs.length ≤ sizeLine) : ∃ acc g', ev C (.lc e kd t a [] own) st = some (.inr (.lst acc), true, ⟨st.r, g'⟩) ∧ I [] acc g' := by
  simp only [ev]
  rw [h1, Option.bind_some]
  dsimp only
  rw [h2, Option.bind_some]
  have key : ∀ (ys acc : List D) (r : WW.Env) (g : G), wip r own = wip st.r own → acc.length + ys.length ≤ sizeLine → I ys acc g → ∃ acc' r' g', wip r' own = wip st.r own ∧ I [] acc' g' ∧ ys.foldlM (fun (acc : List D × St) x =>
        (asgT t x false (wip acc.2.r own)).bind fun r1 => (evTs C [] { acc.2 with r := r1 }).bind fun (b, s2) =>
          if b = true then (toE (ev C e s2)).bind fun (d, _, s3) => if acc.1.length < sizeLine then some (acc.1 ++ [d], s3) else none else some (acc.1, s2)) (acc, ⟨r, g⟩) = some (acc', ⟨r', g'⟩) := by
    intro ys
    induction ys with
    | nil => intro acc r g hr _ i; exact ⟨acc, r, g, hr, i, rfl⟩
    | cons x ys ih =>
      intro acc r g hr hlen i
      obtain ⟨r1, d, fl, r2, g', a1, a2, a3, a4⟩ := hs x ys acc g i
      rw [List.foldlM_cons, hr, a1, Option.bind_some]
      dsimp only
      simp only [evTs, Option.bind_some, if_true]
      rw [a2]
      simp only [Option.bind_some]
      rw [if_pos (by simp at hlen; omega)]
      exact ih (acc ++ [d]) r2 g' a3 (by simp at hlen ⊢; omega) a4
  obtain ⟨acc', r', g', k1, k2, k3⟩ := key xs [] st.r g1 rfl (by simpa using hl) h0
  refine ⟨acc', g', ?_, k2⟩
  rw [k3]
  simp only [Option.map_some, ok]
  rw [hb r' k1]
/-- one by one -/
inductive A2 {α β : Type} (P : α → β → Prop) : List α → List β → Prop
  | nil : A2 P [] []
  | cons {a b as bs} : P a b → A2 P as bs → A2 P (a :: as) (b :: bs)
theorem A2.snoc {α β : Type} {P : α → β → Prop} {as : List α} {bs : List β} (h : A2 P as bs) {a : α} {b : β} (hp : P a b) : A2 P (as ++ [a]) (bs ++ [b]) := by
  induction h with
  | nil => exact .cons hp .nil
  | cons h1 _ ih => exact .cons h1 ih
theorem A2.len {α β : Type} {P : α → β → Prop} {as : List α} {bs : List β} (h : A2 P as bs) : as.length = bs.length := by
  induction h with
  | nil => rfl
  | cons _ _ ih => simp [ih]
theorem A2.mono {α β : Type} {P Q : α → β → Prop} {as : List α} {bs : List β} (h : A2 P as bs) (i : ∀ a b, P a b → Q a b) : A2 Q as bs := by
  induction h with
  | nil => exact .nil
  | cons h1 _ ih => exact .cons (i _ _ h1) ih
def isSq (d : D) (l : List D) : Prop := d = .tup l ∨ d = .lst l
theorem loose_int {i : Int} : (callN T1 w (k + 1)).f "_law_loose" [.strm, .int i] g = some (.int i, false, g) := rfl
section
variable {l : List D} {i : Int}
@[simp] theorem isi_t : uF (.isi [.list, .tuple]) (.tup l) = some (.bl true, false) := rfl
@[simp] theorem isi_l : uF (.isi [.list, .tuple]) (.lst l) = some (.bl true, false) := rfl
@[simp] theorem isi_i : uF (.isi [.list, .tuple]) (.int i) = some (.bl false, false) := rfl
@[simp] theorem isi_b {b : Bool} : uF (.isi [.list, .tuple]) (.bl b) = some (.bl false, false) := rfl
end
def okD (x : D) : Prop := norm x = x ∧ isPend x = false
theorem ev_v {C : Cl} {r : WW.Env} {i : Nat} {x : D} (h : r[i]? = some (some (x, false))) (o : okD x) : ev C (.v i) ⟨r, g⟩ = some (.inr x, false, ⟨r, g⟩) := by
  simp only [ev, look, frz, h, o.2, ok, Bool.false_eq_true, if_false, Option.map_some, o.1]
theorem loose_seq {xs : List D} {d : D} {P : D → D → Prop} {c : Nat} (hd : isSq d xs) (hok : ∀ x ∈ xs, okD x) (sub : ∀ x ∈ xs, ∀ n g, GOk n g → n + c < 1000000000 → ∃ y f g', (callN T1 w (k + 1)).f "_law_loose" [.strm, x] g = some (y, f, g') ∧ P x y ∧ GOk (n + c) g') (q : GOk n g) (hn : n + c * xs.length + 1 < 1000000000) (hl : xs.length ≤ 1000) :
    ∃ ys e g', (callN T1 w (k + 2)).f "_law_loose" [.strm, d] g = some (e, false, g') ∧ isSq e ys ∧ A2 P xs ys ∧ GOk (n + c * xs.length + 1) g' := by
  rw [c__law_loose]
  obtain ⟨acc, g1, e1, ys, hx, i1, i2⟩ := lc_st (C := callN T1 w (k + 1)) (e := .call ("_law_loose" : Str) [(.v 0), (.v 4)]) (kd := 0) (t := .n 4) (a := [.v 1]) (own := [3, 4]) (st := ⟨[some (.strm, false), some (d, false), none, none, none], g⟩) (ds := [d]) (g1 := g) xs
    (fun rest acc g => ∃ done, done ++ rest = xs ∧ A2 P done acc ∧ GOk (n + c * done.length) g) (by rcases hd with rfl | rfl <;> rfl) (by rcases hd with rfl | rfl <;> rfl) ⟨[], rfl, .nil, q⟩
    (fun x rest acc g ⟨done, h1, h2, h3⟩ => by
      have hlen : done.length + 1 ≤ xs.length := by rw [← h1]; simp
      have hc : c * (done.length + 1) ≤ c * xs.length := Nat.mul_le_mul_left c hlen
      rw [Nat.mul_succ] at hc
      have hm : x ∈ xs := by rw [← h1]; simp
      obtain ⟨y, f, g', c1, c2, c3⟩ := sub x hm _ _ h3 (by omega)
      refine ⟨_, y, f, [some (.strm, false), some (d, false), none, none, some (x, false)], g', rfl, ?_, rfl, done ++ [x], by rw [← h1]; simp, h2.snoc c2, ?_⟩
      · have e4 := ev_v (C := callN T1 w (k + 1)) (g := g) (i := 4) (x := x) (r := [some (.strm, false), some (d, false), none, none, some (x, false)]) rfl (hok x hm)
        show toE (ev _ _ ⟨[some (.strm, false), some (d, false), none, none, some (x, false)], g⟩) = _
        have e5 : evs (callN T1 w (k + 1)) [(.v 0), (.v 4)] ⟨[some (.strm, false), some (d, false), none, none, some (x, false)], g⟩ = some ([.strm, x], ⟨[some (.strm, false), some (d, false), none, none, some (x, false)], g⟩) := by
          show (toE (ev _ (.v 0) _)).bind (fun (d, _, s1) => (evs _ [.v 4] s1).map fun (ds, s2) => (d :: ds, s2)) = _
          rw [ev_v (x := .strm) rfl ⟨rfl, rfl⟩]
          show Option.map _ ((toE (ev _ (.v 4) _)).bind (fun (d, _, s1) => (evs _ [] s1).map fun (ds, s2) => (d :: ds, s2))) = _
          rw [e4]
          rfl
        show toE ((evs _ _ _).bind _) = _
        rw [e5]
        show toE (Option.map _ ((callN T1 w (k + 1)).f ("_law_loose" : Str) [.strm, x] g)) = _
        rw [c1]
        rfl
      · rw [List.length_append, List.length_singleton, Nat.mul_add, Nat.mul_one, ← Nat.add_assoc]
        exact c3) (fun r h => back_own h (by rcases hd with rfl | rfl <;> simp [keepS])) (Nat.le_trans hl (by decide))
  rw [List.append_nil] at hx
  subst hx
  obtain ⟨r, g2, d1, d2, d3, d4⟩ := draw_ok (w := w) (k := k) (m := 2) i2 (by omega) (by decide) (by decide)
  have sz : acc.length ≤ sizeLine := by rw [← i1.len]; exact Nat.le_trans hl (by decide)
  by_cases hr : r = 0
  · refine ⟨acc, .tup acc, g2, runF_of ⟨rfl, by decide⟩ ?_, .inl rfl, i1, d4⟩
    show evSs _ _ _ ⟨[some (.strm, false), some (d, false), none, none, none], g⟩ = _
    subst hr
    rcases hd with rfl | rfl <;> simp [F__law_loose, e1, d1, sz]
  · refine ⟨acc, .lst acc, g2, runF_of ⟨rfl, by decide⟩ ?_, .inr rfl, i1, d4⟩
    show evSs _ _ _ ⟨[some (.strm, false), some (d, false), none, none, none], g⟩ = _
    rcases hd with rfl | rfl <;> simp [F__law_loose, e1, d1, sz, hr]
/-- a loosened row of whole numbers; of rows -/
abbrev tI (l : List Int) : D := .tup (l.map .int)
def LoI (x : List Int) (d : D) : Prop := isSq d (x.map .int)
def LoR (rows : List (List Int)) (d : D) : Prop := ∃ ds, isSq d ds ∧ A2 LoI rows ds
theorem A2.of_map {α β γ : Type} {P : β → γ → Prop} {f : α → β} : ∀ {as : List α} {cs : List γ}, A2 P (as.map f) cs → A2 (fun a c => P (f a) c) as cs
  | [], _, h => by cases h; exact .nil
  | a :: as, _, h => by cases h with | cons h1 h2 => exact .cons h1 (A2.of_map h2)
theorem A2.eq {α : Type} {as bs : List α} (h : A2 (fun a b => b = a) as bs) : bs = as := by
  induction h with
  | nil => rfl
  | cons h1 _ ih => rw [h1, ih]
theorem loose_row {x : List Int} (q : GOk n g) (hn : n + 1 < 1000000000) (hl : x.length ≤ 1000) : ∃ e f g', (callN T1 w (k + 2)).f "_law_loose" [.strm, tI x] g = some (e, f, g') ∧ LoI x e ∧ GOk (n + 1) g' := by
  obtain ⟨ys, e, g', h1, h2, h3, h4⟩ := loose_seq (w := w) (k := k) (c := 0) (xs := x.map .int) (d := tI x) (P := fun a b => b = a) (.inl rfl) (fun x hx => by
    obtain ⟨i, _, rfl⟩ := List.mem_map.mp hx
    exact ⟨rfl, rfl⟩) (fun x hx n g q _ => by
    obtain ⟨i, _, rfl⟩ := List.mem_map.mp hx
    exact ⟨_, _, _, loose_int, rfl, q⟩) q (by omega) (by rw [List.length_map]; exact hl)
  rw [h3.eq] at h2
  exact ⟨e, false, g', h1, h2, h4.mono (by omega)⟩
theorem loose_rows {rows : List (List Int)} (q : GOk n g) (hn : n + rows.length + 1 < 1000000000) (hl : rows.length ≤ 1000) (hr : ∀ r ∈ rows, r.length ≤ 1000) : ∃ e f g', (callN T1 w (k + 3)).f "_law_loose" [.strm, .lst (rows.map tI)] g = some (e, f, g') ∧ LoR rows e ∧ GOk (n + rows.length + 1) g' := by
  obtain ⟨ys, e, g', h1, h2, h3, h4⟩ := loose_seq (w := w) (k := k + 1) (c := 1) (xs := rows.map tI) (d := .lst (rows.map tI)) (P := fun a b => ∀ r ∈ rows, a = tI r → LoI r b) (.inr rfl) (fun x hx => by
    obtain ⟨i, _, rfl⟩ := List.mem_map.mp hx
    exact ⟨rfl, rfl⟩) (fun x hx n g q hn => by
    obtain ⟨r, hr', rfl⟩ := List.mem_map.mp hx
    obtain ⟨e, f, g', h1, h2, h3⟩ := loose_row (w := w) (k := k) q (by omega) (hr r hr')
    exact ⟨e, f, g', h1, fun r' _ he => by
      have inj : ∀ {a b : List Int}, a.map D.int = b.map D.int → a = b := fun {a} => by
        induction a with
        | nil => intro b h; cases b with | nil => rfl | cons => cases h
        | cons x a ih =>
          intro b h
          cases b with
          | nil => cases h
          | cons y b => simp at h; rw [h.1, ih h.2]
      rw [← inj (D.tup.inj he)]; exact h2, h3⟩) q (by rw [List.length_map]; omega) (by rw [List.length_map]; exact hl)
  refine ⟨e, false, g', h1, ⟨ys, h2, ?_⟩, h4.mono (by rw [List.length_map]; omega)⟩
  have h5 := h3.of_map
  have : ∀ {as : List (List Int)} {bs : List D}, (∀ a ∈ as, a ∈ rows) → A2 (fun a c => ∀ r ∈ rows, tI a = tI r → LoI r c) as bs → A2 LoI as bs := fun {as bs} ha h => by
    induction h with
    | nil => exact .nil
    | cons h1 _ ih => exact .cons (h1 _ (ha _ (by simp)) rfl) (ih fun a h => ha a (by simp [h]))
  exact this (fun _ h => h) h5
end
end Hd
end
section
set_option maxHeartbeats 1000000
/-! rows and counters, loosened, are kept -/
namespace Hd
open PySem WW
section
variable {w k n : Nat} {g : G}
theorem is_list_sq {d : D} {l : List D} (h : isSq d l) : (callN T1 w (k + 1)).f "is_list" [d] g = some (.bl true, false, g) := by rcases h with rfl | rfl <;> rfl
theorem is_whole_int {i : Int} : (callN T1 w (k + 1)).f "is_whole" [.int i] g = some (.bl true, false, g) := rfl
theorem is_row_sq {d : D} {l : List D} {i : Int} (h : isSq d l) (hi : (l.length : Int) = i) : (callN T1 w (k + 2)).f "is_row" [d, .int i] g = some (.bl true, false, g) := by
  have e := is_list_sq (w := w) (k := k) (g := g) h
  rw [c_is_row]
  refine runF_of ⟨rfl, by decide⟩ ?_
  show evSs _ _ _ ⟨[some (d, false), some (.int i, false)], g⟩ = _
  rcases h with rfl | rfl <;> simp [F_is_row, e, hi, lenD]
theorem is_below_ok {i j : Int} (h1 : 0 ≤ i) (h2 : i < j) : (callN T1 w (k + 3)).f "is_below" [.int i, .int j] g = some (.bl true, false, g) := by
  have e1 : (callN T1 w (k + 2)).f "is_number" [.int i] g = some (.bl true, false, g) := by
    have e0 := is_whole_int (w := w) (k := k) (g := g) (i := i)
    rw [c_is_number]
    refine runF_of ⟨rfl, by decide⟩ ?_
    show evSs _ _ _ ⟨[some (.int i, false)], g⟩ = _
    simp [F_is_number, e0, h1]
  rw [c_is_below]
  refine runF_of ⟨rfl, by decide⟩ ?_
  show evSs _ _ _ ⟨[some (.int i, false), some (.int j, false)], g⟩ = _
  simp [F_is_below, e1, h2]
def bE : Option Int → D
  | none => .non
  | some b => .int b
def pOk (p : Int × Option Int) : Prop := ∀ b, p.2 = some b → 0 ≤ p.1 ∧ p.1 < b
def rowOk (bs : List (Option Int)) (r : List Int) : Prop := r.length = bs.length ∧ ∀ p ∈ r.zip bs, pOk p
abbrev krE (d : D) (bs : List (Option Int)) (fnd : List (List Int)) (y3 y4 y5 : Option (D × Bool)) : WW.Env := [some (d, false), some (.tup (bs.map bE), false), some (.lst (fnd.map tI), true), y3, y4, y5, none, none, none]
abbrev krI : List S := [.ite (.or (.not (.u .tru (.call ("is_whole" : Str) [(.v 4)]))) (.and (.u .notN (.p 5)) (.not (.u .tru (.call ("is_below" : Str) [(.v 4), (.v 5)]))))) [.ret (.c .non)] []]
abbrev eP (p : Int × Option Int) : D := .tup [.int p.1, bE p.2]
theorem kr_inner {d : D} {bs : List (Option Int)} {fnd : List (List Int)} {y3 : Option (D × Bool)} : ∀ (ps : List (Int × Option Int)) (y4 y5 : Option (D × Bool)), (∀ p ∈ ps, pOk p) → ∃ z4 z5, forL (evSs (callN T1 w (k + 3)) w krI) (.t [(.n 4), (.n 5)]) (ps.map eP) ⟨krE d bs fnd y3 y4 y5, g⟩ = some (.nx ⟨krE d bs fnd y3 z4 z5, g⟩)
  | [], y4, y5, _ => ⟨y4, y5, rfl⟩
  | p :: ps, y4, y5, h => by
    obtain ⟨z4, z5, ih⟩ := kr_inner (d := d) (bs := bs) (fnd := fnd) (y3 := y3) ps (some (.int p.1, false)) (some (bE p.2, false)) fun q hq => h q (by simp [hq])
    refine ⟨z4, z5, ?_⟩
    rw [List.map_cons]
    unfold forL
    show (evSs (callN T1 w (k + 3)) w krI ⟨krE d bs fnd y3 (some (.int p.1, false)) (some (bE p.2, false)), g⟩).bind _ = _
    have e0 := is_whole_int (w := w) (k := k + 2) (g := g) (i := p.1)
    have e : evSs (callN T1 w (k + 3)) w krI ⟨krE d bs fnd y3 (some (.int p.1, false)) (some (bE p.2, false)), g⟩ = some (.nx ⟨krE d bs fnd y3 (some (.int p.1, false)) (some (bE p.2, false)), g⟩) := by
      have hp := h p (by simp)
      obtain ⟨i, o⟩ := p
      cases o with
      | none => simp [krI, e0, bE]
      | some b =>
        obtain ⟨h1, h2⟩ := hp b rfl
        have e1 := is_below_ok (w := w) (k := k) (g := g) h1 h2
        simp [krI, e0, e1, bE]
    rw [e]
    exact ih
theorem zip2_map {α β : Type} {f : α → D} {h : β → D} : ∀ (as : List α) (bs : List β), zip2 (as.map f) (bs.map h) = (as.zip bs).map fun p => .tup [f p.1, h p.2]
  | [], _ => rfl
  | _ :: _, [] => rfl
  | a :: as, b :: bs => by
    show .tup [f a, h b] :: zip2 (as.map f) (bs.map h) = _
    rw [zip2_map as bs]
    rfl
theorem bF_lt (a b : D) : bF .lt a b = (ltF a b).map fun c => (.bl c, false) := rfl
theorem lc_shift {C : Cl} {e : E} {kd : Nat} {t : T} {a ifs : List E} {own : List Nat} {st st1 : St} {ds : List D} (h : evs C a st = some (ds, st1)) (h1 : evs C a st1 = some (ds, st1)) : ev C (.lc e kd t a ifs own) st = ev C (.lc e kd t a ifs own) st1 := by
  simp only [ev, h, h1]
theorem cut1 (l : List D) : cutD l (some 1) none = l.tail := by
  unfold cutD
  rw [show HT.sIx l.length 0 (some 1) = min 1 l.length from HT.sIx_nat l.length 0 1]
  cases l with
  | nil => rfl
  | cons x l => simp [HT.sIx_none]
def asc (rows : List (List Int)) : Prop := ∀ p ∈ rows.zip rows.tail, ltF (tI p.1) (tI p.2) = some true
abbrev krO : List S := [.ite (.not (.u .tru (.call ("is_row" : Str) [(.v 3), (.u .len (.p 1))]))) [.ret (.c .non)] [],
    .for_ 3 (.t [(.n 4), (.n 5)]) [(.v 3), (.v 1)] krI,
    .app 2 (.u .tuple (.p 3))]
theorem walk3 {a b : D} {l m : List D} (h1 : isSq a l) (h2 : isSq b m) : walk 3 [a, b] = some (zip2 l m) := by rcases h1 with rfl | rfl <;> rcases h2 with rfl | rfl <;> rfl
theorem kr_outer {d : D} {l : List D} (hd : isSq d l) {bs : List (Option Int)} (hb : bs.length ≤ 100) : ∀ (rows : List (List Int)) (xs : List D) (fnd : List (List Int)) (y3 y4 y5 : Option (D × Bool)), A2 LoI rows xs → (∀ r ∈ rows, rowOk bs r) → fnd.length + rows.length ≤ 1000 →
    ∃ z3 z4 z5, forL (evSs (callN T1 w (k + 3)) w krO) (.n 3) xs ⟨krE d bs fnd y3 y4 y5, g⟩ = some (.nx ⟨krE d bs (fnd ++ rows) z3 z4 z5, g⟩)
  | _, _, fnd, y3, y4, y5, .nil, _, _ => ⟨y3, y4, y5, by rw [List.append_nil]; rfl⟩
  | _, _, fnd, y3, y4, y5, .cons (a := r) (b := x) (as := rows) (bs := xs) hx hxs, hr, hn => by
    have hn' : fnd.length + 1 + rows.length ≤ 1000 := by simp at hn; omega
    obtain ⟨r1, r2⟩ := hr r (by simp)
    obtain ⟨u4, u5, ei⟩ := kr_inner (w := w) (k := k) (g := g) (d := d) (bs := bs) (fnd := fnd) (y3 := some (x, false)) (r.zip bs) y4 y5 r2
    obtain ⟨z3, z4, z5, ih⟩ := kr_outer hd hb rows xs (fnd ++ [r]) (some (x, false)) u4 u5 hxs (fun q hq => hr q (by simp [hq])) (by simp; omega)
    refine ⟨z3, z4, z5, ?_⟩
    have sq : isSq x (r.map .int) := hx
    have e0 := is_row_sq (w := w) (k := k + 1) (g := g) (i := (bs.length : Int)) sq (by rw [List.length_map, r1])
    have ew : walk 3 [x, .tup (bs.map bE)] = some ((r.zip bs).map eP) := by rw [walk3 sq (.inl rfl), zip2_map]
    have sz : r.length ≤ sizeLine := by rw [r1]; exact Nat.le_trans hb (by decide)
    have sz2 : fnd.length < sizeLine := Nat.lt_of_lt_of_le (show fnd.length < 1000 by omega) (by decide)
    have e : evSs (callN T1 w (k + 3)) w krO ⟨krE d bs fnd (some (x, false)) y4 y5, g⟩ = some (.nx ⟨krE d bs (fnd ++ [r]) (some (x, false)) u4 u5, g⟩) := by
      rcases hx with rfl | rfl <;> simp [krO, e0, ew, ei, sz, sz2]
    unfold forL
    show (evSs (callN T1 w (k + 3)) w krO ⟨krE d bs fnd (some (x, false)) y4 y5, g⟩).bind _ = _
    rw [e]
    have : fnd ++ r :: rows = fnd ++ [r] ++ rows := by simp
    rw [this]
    exact ih
theorem kept_rows_ok {rows : List (List Int)} {d : D} {bs : List (Option Int)} (hd : LoR rows d) (hb : bs.length ≤ 100) (hr : ∀ r ∈ rows, rowOk bs r) (hl : rows.length ≤ 1000) (ha : asc rows) : (callN T1 w (k + 4)).f "kept_rows" [d, .tup (bs.map bE)] g = some (.lst (rows.map tI), false, g) := by
  obtain ⟨ds, hd, h2⟩ := hd
  have e0 := is_list_sq (w := w) (k := k + 2) (g := g) hd
  obtain ⟨z3, z4, z5, eo⟩ := kr_outer (w := w) (k := k) (g := g) hd hb rows ds [] none none none h2 hr (by simpa using hl)
  rw [List.nil_append] at eo
  have eo : forL (evSs (callN T1 w (k + 3)) w krO) (.n 3) ds ⟨[some (d, false), some (.tup (bs.map bE), false), some (.lst [], true), none, none, none, none, none, none], g⟩ = _ := eo
  have sz : (rows.zip rows.tail).length ≤ sizeLine := by
    rw [List.length_zip]
    exact Nat.le_trans (Nat.min_le_left ..) (Nat.le_trans hl (by decide))
  have hlc := lc_all (C := callN T1 w (k + 3)) (e := (.not (.b .lt (.p 7) (.p 8)))) (k := 3) (t := .t [(.n 7), (.n 8)]) (a := [(.v 2), (.b .sla (.p 2) (.c (.int 1)))]) (own := [6, 7, 8]) (st := ⟨[some (d, false), some (.tup (bs.map bE), false), some (.lst (rows.map tI), false), z3, z4, z5, none, none, none], g⟩) (ds := [.lst (rows.map tI), .lst (rows.tail.map tI)])
    (rows.zip rows.tail) (fun p => .tup [tI p.1, tI p.2]) (fun _ => .bl false) (by simp [bF, cut1]) (by rw [walk3 (.inr rfl) (.inr rfl), zip2_map])
    (fun p hp => ⟨[some (d, false), some (.tup (bs.map bE), false), some (.lst (rows.map tI), false), z3, z4, z5, none, some (tI p.1, false), some (tI p.2, false)], by simp [wip], by simp [wip], by
      have := ha p hp
      simp [bF_lt, this]⟩) (fun r h => back_own h (by simp [keepS])) sz
  have hsh := lc_shift (C := callN T1 w (k + 3)) (e := (.not (.b .lt (.p 7) (.p 8)))) (kd := 3) (t := .t [(.n 7), (.n 8)]) (a := [(.v 2), (.b .sla (.p 2) (.c (.int 1)))]) (ifs := []) (own := [6, 7, 8]) (st := ⟨krE d bs rows z3 z4 z5, g⟩) (st1 := ⟨[some (d, false), some (.tup (bs.map bE), false), some (.lst (rows.map tI), false), z3, z4, z5, none, none, none], g⟩) (ds := [.lst (rows.map tI), .lst (rows.tail.map tI)]) (by simp [bF, cut1]) (by simp [bF, cut1])
  rw [hlc] at hsh
  have hbo : ∀ l : List (List Int × List Int), bools (l.map fun _ => D.bl false) = some (l.map fun _ => false) := fun l => bools_map l _
  have hany : ∀ l : List (List Int × List Int), (l.map fun _ => false).any id = false := fun l => by induction l <;> simp_all
  rw [c_kept_rows]
  refine runF_of ⟨rfl, by decide⟩ ?_
  show evSs _ _ _ ⟨[some (d, false), some (.tup (bs.map bE), false), none, none, none, none, none, none, none], g⟩ = _
  rcases hd with rfl | rfl <;> simp [F_kept_rows, e0, eo, hsh, hbo, hany]
end
end Hd
end
section
set_option maxHeartbeats 1000000
/-! counters, loosened, are kept -/
namespace Hd
open PySem WW MM
def rw4 (a : Ar) : List Int := [a.1, a.2.1, a.2.2.1, a.2.2.2]
theorem rw4_map (ms : List Ar) : (ms.map rw4).map tI = ms.map dA := by rw [List.map_map]; rfl
abbrev cT (n s : Int) (ms : List Ar) : D := .tup [.int n, .int 3, .lst [.tup [.int 0, .int s]], dAs ms, .lst [.tup [.int 0, .int 0]]]
def LoC (n s : Int) (ms : List Ar) (d : D) : Prop := ∃ d1 d2 d3, isSq d [.int n, .int 3, d1, d2, d3] ∧ LoR [[0, s]] d1 ∧ LoR (ms.map rw4) d2 ∧ LoR [[0, 0]] d3
section
variable {w k n : Nat} {g : G}
theorem lor_self (rows : List (List Int)) : LoR rows (.lst (rows.map tI)) := ⟨_, .inr rfl, by
  induction rows with
  | nil => exact .nil
  | cons r rows ih => exact .cons (.inl rfl) ih⟩
theorem loc_self (n s : Int) (ms : List Ar) : LoC n s ms (cT n s ms) := ⟨_, _, _, .inl rfl, lor_self [[0, s]], by
  have := lor_self (ms.map rw4)
  rw [rw4_map] at this
  exact this, lor_self [[0, 0]]⟩
structure CtrOk (c : Int) (ms : List Ar) : Prop where
  n : 0 < c
  r : ∀ a ∈ ms, rowOk [some c, some 3, none, some c] (rw4 a)
  l : ms.length ≤ 1000
  a : asc (ms.map rw4)
theorem kept_counter_ok {c s : Int} {ms : List Ar} {d : D} (q : CtrOk c ms) (h : LoC c s ms d) : (callN T1 w (k + 5)).f "kept_counter" [d] g = some (cT c s ms, false, g) := by
  obtain ⟨d1, d2, d3, hd, h1, h2, h3⟩ := h
  have e0 := is_row_sq (w := w) (k := k + 2) (g := g) (i := 5) hd rfl
  have e1 := kept_rows_ok (w := w) (k := k) (g := g) (bs := [some c, none]) h1 (by simp) (fun r hr => by
    rw [List.mem_singleton.mp hr]
    refine ⟨rfl, fun p hp => ?_⟩
    simp at hp
    rcases hp with rfl | rfl
    · intro b hb; cases hb; exact ⟨Int.le_refl _, q.n⟩
    · intro b hb; cases hb) (by simp) (fun p hp => by simp at hp)
  have e2 := kept_rows_ok (w := w) (k := k) (g := g) (bs := [some c, some 3, none, some c]) h2 (by simp) (fun r hr => by
    obtain ⟨a, ha, rfl⟩ := List.mem_map.mp hr
    exact q.r a ha) (by rw [List.length_map]; exact q.l) q.a
  rw [rw4_map] at e2
  have e3 := kept_rows_ok (w := w) (k := k) (g := g) (bs := [some c, none]) h3 (by simp) (fun r hr => by
    rw [List.mem_singleton.mp hr]
    refine ⟨rfl, fun p hp => ?_⟩
    simp at hp
    rcases hp with rfl | rfl
    · intro b hb; cases hb; exact ⟨Int.le_refl _, q.n⟩
    · intro b hb; cases hb) (by simp) (fun p hp => by simp at hp)
  have e1 : (callN T1 w (k + 4)).f "kept_rows" [d1, .tup [.int c, .non]] g = some (.lst [.tup [.int 0, .int s]], false, g) := e1
  have e2 : (callN T1 w (k + 4)).f "kept_rows" [d2, .tup [.int c, .int 3, .non, .int c]] g = some (dAs ms, false, g) := e2
  have e3 : (callN T1 w (k + 4)).f "kept_rows" [d3, .tup [.int c, .non]] g = some (.lst [.tup [.int 0, .int 0]], false, g) := e3
  have cut : cutD [.int c, .int 3, d1, d2, d3] none (some 2) = [.int c, .int 3] := rfl
  have hlc := lc_all (C := callN T1 w (k + 4)) (e := (.and (.call ("is_whole" : Str) [(.v 7)]) (.b .gt (.p 7) (.c (.int 0))))) (k := 0) (t := .n 7) (a := [(.b .slb (.p 0) (.c (.int 2)))]) (own := [6, 7]) (st := ⟨[some (d, false), none, none, none, none, none, none, none], g⟩) (ds := [if d matches .tup _ then .tup [.int c, .int 3] else .lst [.int c, .int 3]])
    [c, 3] D.int (fun _ => .bl true) (by rcases hd with rfl | rfl <;> simp [bF, cut]) (by rcases hd with rfl | rfl <;> rfl)
    (fun i hi => ⟨[some (d, false), none, none, none, none, none, none, some (.int i, false)], by simp [wip], by simp [wip], by
      have hi : 0 < i := by
        simp at hi
        rcases hi with rfl | rfl
        · exact q.n
        · decide
      have e4 := is_whole_int (w := w) (k := k + 3) (g := g) (i := i)
      simp [e4, hi]⟩) (fun r h => back_own h (by rcases hd with rfl | rfl <;> simp [keepS])) (by show 2 ≤ sizeLine; decide)
  rw [c_kept_counter]
  refine runF_of ⟨rfl, by decide⟩ ?_
  show evSs _ _ _ ⟨[some (d, false), none, none, none, none, none, none, none], g⟩ = _
  have sz5 : 5 ≤ sizeLine := by decide
  obtain ⟨u1, v1, w1⟩ := h1
  obtain ⟨u2, v2, w2⟩ := h2
  obtain ⟨u3, v3, w3⟩ := h3
  rcases hd with rfl | rfl <;> simp [F_kept_counter, e0, e1, e2, e3, hlc, bools, sz5]
theorem need_counter_ok {c s : Int} {ms : List Ar} {d : D} (q : CtrOk c ms) (h : LoC c s ms d) : (callN T1 w (k + 6)).f "need_counter" [d] g = some (cT c s ms, false, g) := by
  have e := kept_counter_ok (w := w) (k := k) (g := g) q h
  rw [c_need_counter]
  refine runF_of ⟨rfl, by decide⟩ ?_
  obtain ⟨d1, d2, d3, hd, _⟩ := h
  show evSs _ _ _ ⟨[some (d, false), none], g⟩ = _
  rcases hd with rfl | rfl <;> simp [F_need_counter, e]
theorem tI_inj {a b : List Int} (h : tI a = tI b) : a = b := by
  have := D.tup.inj h
  exact (List.map_inj_right fun x y e => D.int.inj e).mp this
theorem loose_counter {c s : Int} {ms : List Ar} (q : GOk n g) (hn : n + 200000 < 1000000000) (hl : ms.length ≤ 1000) : ∃ e g', (callN T1 w (k + 4)).f "_law_loose" [.strm, cT c s ms] g = some (e, false, g') ∧ LoC c s ms e ∧ GOk (n + 6000) g' := by
  have rr : ∀ (rows : List (List Int)) (n : Nat) (g : G), GOk n g → n + 1002 < 1000000000 → rows.length ≤ 1000 → (∀ r ∈ rows, r.length ≤ 1000) → ∃ y f g', (callN T1 w (k + 3)).f "_law_loose" [.strm, .lst (rows.map tI)] g = some (y, f, g') ∧ ((∀ i, D.lst (rows.map tI) = .int i → y = .int i) ∧ ∀ rs : List (List Int), D.lst (rows.map tI) = .lst (rs.map tI) → LoR rs y) ∧ GOk (n + 1002) g' := fun rows n g q hn h1 h2 => by
    obtain ⟨e, f, g', a1, a2, a3⟩ := loose_rows (w := w) (k := k) q (by omega) h1 h2
    refine ⟨e, f, g', a1, ⟨fun i h => by (cases h), fun rs h => ?_⟩, a3.mono (by omega)⟩
    rw [← (List.map_inj_right fun x y e => tI_inj e).mp (D.lst.inj h)]
    exact a2
  have e2 : dAs ms = .lst ((ms.map rw4).map tI) := by rw [rw4_map]
  obtain ⟨ys, e, g', h1, h2, h3, h4⟩ := loose_seq (w := w) (k := k + 2) (c := 1002) (xs := [.int c, .int 3, .lst ([[0, s]].map tI), .lst ((ms.map rw4).map tI), .lst ([[0, 0]].map tI)]) (d := cT c s ms) (P := fun x y => (∀ i, x = .int i → y = .int i) ∧ ∀ rows : List (List Int), x = .lst (rows.map tI) → LoR rows y) (.inl (by rw [cT, e2]; rfl)) (fun x hx => by
    simp only [List.mem_cons, List.not_mem_nil, or_false] at hx
    rcases hx with rfl | rfl | rfl | rfl | rfl <;> exact ⟨rfl, rfl⟩) (fun x hx n g q hn => by
    simp only [List.mem_cons, List.not_mem_nil, or_false] at hx
    rcases hx with rfl | rfl | rfl | rfl | rfl
    · exact ⟨_, _, _, loose_int, ⟨fun i h => h, fun rows h => by cases h⟩, q.mono (by omega)⟩
    · exact ⟨_, _, _, loose_int, ⟨fun i h => h, fun rows h => by cases h⟩, q.mono (by omega)⟩
    · exact rr [[0, s]] n g q hn (by simp) (fun r hr => by rw [List.mem_singleton.mp hr]; simp)
    · exact rr (ms.map rw4) n g q hn (by rw [List.length_map]; exact hl) (fun r hr => by
        obtain ⟨a, _, rfl⟩ := List.mem_map.mp hr
        show 4 ≤ 1000; decide)
    · exact rr [[0, 0]] n g q hn (by decide) (fun r hr => by rw [List.mem_singleton.mp hr]; decide)) q (by show n + 1002 * 5 + 1 < _; omega) (by show 5 ≤ 1000; decide)
  refine ⟨e, g', h1, ?_, h4.mono (by show n + 1002 * 5 + 1 ≤ _; omega)⟩
  cases h3 with | cons p1 h3 => cases h3 with | cons p2 h3 => cases h3 with | cons p3 h3 => cases h3 with | cons p4 h3 => cases h3 with | cons p5 h3 =>
  cases h3
  rw [p1.1 c rfl, p2.1 3 rfl] at h2
  exact ⟨_, _, _, h2, p3.2 _ rfl, p4.2 _ rfl, p5.2 _ rfl⟩
end
end Hd
end
section
set_option maxHeartbeats 4000000
/-! the drawn counters are counters -/
namespace Hd
open PySem WW MM
def lt4 (x y : Ar) : Bool := decide (x.1 < y.1) || (!decide (y.1 < x.1) && (decide (x.2.1 < y.2.1) || (!decide (y.2.1 < x.2.1) && (decide (x.2.2.1 < y.2.2.1) || (!decide (y.2.2.1 < x.2.2.1) && (decide (x.2.2.2 < y.2.2.2) || (!decide (y.2.2.2 < x.2.2.2) && false)))))))
theorem lt4_ok (x y : Ar) : ltF (tI (rw4 x)) (tI (rw4 y)) = some (lt4 x y) := by
  obtain ⟨a, b, c, d⟩ := x
  obtain ⟨e, f, h, i⟩ := y
  kernel_rfl
/-- ascending -/
def Asc4 : List Ar → Prop
  | a :: b :: l => lt4 a b = true ∧ Asc4 (b :: l)
  | _ => True
theorem asc_of : ∀ {ms : List Ar}, Asc4 ms → asc (ms.map rw4)
  | [], _ => fun p hp => by simp at hp
  | [a], _ => fun p hp => by simp at hp
  | a :: b :: l, h => fun p hp => by
    have hp : p ∈ (rw4 a, rw4 b) :: ((b :: l).map rw4).zip ((b :: l).map rw4).tail := hp
    rcases List.mem_cons.mp hp with rfl | hp
    · rw [lt4_ok, h.1]
    · exact asc_of h.2 p hp
def row4 (c : Int) (a : Ar) : Prop := (0 ≤ a.1 ∧ a.1 < c) ∧ (0 ≤ a.2.1 ∧ a.2.1 < 3) ∧ 0 ≤ a.2.2.2 ∧ a.2.2.2 < c
theorem row_of {c : Int} {a : Ar} (h : row4 c a) : rowOk [some c, some 3, none, some c] (rw4 a) := by
  refine ⟨rfl, fun p hp => ?_⟩
  obtain ⟨h1, h2, h3⟩ := h
  have hp : p ∈ [(a.1, some c), (a.2.1, some 3), (a.2.2.1, none), (a.2.2.2, some c)] := hp
  simp only [List.mem_cons, List.not_mem_nil, or_false] at hp
  rcases hp with rfl | rfl | rfl | rfl <;> intro b hb <;> cases hb
  · exact h1
  · exact h2
  · exact h3
def Rows4 (c : Int) : List Ar → Prop
  | [] => True
  | a :: l => row4 c a ∧ Rows4 c l
theorem rows_of {c : Int} : ∀ {ms : List Ar}, Rows4 c ms → ∀ a ∈ ms, row4 c a
  | [], _ => fun a ha => by simp at ha
  | b :: l, h => fun a ha => by
    rcases List.mem_cons.mp ha with rfl | ha
    · exact h.1
    · exact rows_of h.2 a ha
/-- all numbers at most twenty, ahead and behind nought -/
def Bd (R : List (List Int)) : Prop := ∀ r ∈ R, ∀ a ∈ r, -20 ≤ a ∧ a ≤ 20
variable {R : List (List Int)} {x : Int}
theorem ctr_srt (h : Shp R) (hb : Bd R) : CtrOk (lost R + 1) (srt R x) := by
  have : Asc4 (srt R x) ∧ Rows4 (lost R + 1) (srt R x) ∧ 0 < lost R + 1 ∧ (srt R x).length ≤ 1000 := by
    cases h <;> simp [Bd] at hb <;> simp [srt, mvs, srtM, insM, leM, mvR, rmv, lost, lostR, Asc4, lt4, Rows4, row4] <;> omega
  exact ⟨this.2.2.1, fun a ha => row_of (rows_of this.2.1 a ha), this.2.2.2, asc_of this.1⟩
theorem ctr_alo (h : Shp R) (hb : Bd R) : CtrOk (lost R + 1) (alo (srt R x)) := by
  have : Asc4 (alo (srt R x)) ∧ Rows4 (lost R + 1) (alo (srt R x)) ∧ 0 < lost R + 1 ∧ (alo (srt R x)).length ≤ 1000 := by
    cases h <;> simp [Bd] at hb <;> simp [alo, srt, mvs, srtM, insM, leM, mvR, rmv, lost, lostR, Asc4, lt4, Rows4, row4] <;> omega
  exact ⟨this.2.2.1, fun a ha => row_of (rows_of this.2.1 a ha), this.2.2.2, asc_of this.1⟩
theorem us_ok (h : Shp R) : (us R).Nodup ∧ (us R).length ≤ 10 ∧ (us R).length ≠ 0 := by
  cases h <;> simp [us, lost, lostR, List.range, List.range.loop]
def ArOk (U : List Int) : List Ar → Prop
  | [] => True
  | a :: l => (ld a ∈ U ∧ th a ∈ U) ∧ (-20 ≤ nm a ∧ nm a ≤ 20) ∧ ArOk U l
theorem ar_of {U : List Int} : ∀ {l : List Ar}, ArOk U l → ∀ a ∈ l, (ld a ∈ U ∧ th a ∈ U) ∧ (-20 ≤ nm a ∧ nm a ≤ 20)
  | [], _ => fun a ha => by simp at ha
  | b :: l, h => fun a ha => by
    rcases List.mem_cons.mp ha with rfl | ha
    · exact ⟨h.1, h.2.1⟩
    · exact ar_of h.2.2 a ha
theorem good_ars (h : Shp R) (hb : Bd R) : Good (us R) (ars R x) := by
  have u := us_ok h
  have : ArOk (us R) (ars R x) ∧ (ars R x).length ≤ 1000 := by
    clear u
    cases h <;> simp [Bd] at hb <;> simp [ars, arU, us, srt, mvs, srtM, insM, leM, mvR, rmv, lost, lostR, List.range, List.range.loop, ArOk, ld, nm, th] <;> omega
  exact ⟨u.1, u.2.1, this.2, fun a ha => (ar_of this.1 a ha).1, fun a ha => by
    have := (ar_of this.1 a ha).2
    omega⟩
/-- the rings' arrows are rounds -/
def RingsOk (A : List Ar) : List (List Int) → List (List Ar) → Prop
  | [], [] => True
  | r :: R, t :: T => (t ≠ [] ∧ (∀ a ∈ t, a ∈ A) ∧ Chain t ∧ (∀ a b, t.getLast? = some a → t.head? = some b → th a = ld b) ∧ sm t = r.sum ∧ t.length = r.length ∧ t.length ≤ 3) ∧ RingsOk A R T
  | _, _ => False
theorem rings_of {A : List Ar} : ∀ {R : List (List Int)} {T : List (List Ar)}, RingsOk A R T → ∀ r ∈ R, ∃ t ∈ T, Round A t ∧ sm t = r.sum ∧ t.length = r.length ∧ t.length ≤ 3
  | [], [], _ => fun r hr => by simp at hr
  | q :: R, t :: T, h => fun r hr => by
    rcases List.mem_cons.mp hr with rfl | hr
    · obtain ⟨⟨h1, h2, h3, h4, h5⟩, _⟩ := h
      exact ⟨t, by simp, ⟨h1, h2, h3, h4⟩, h5⟩
    · obtain ⟨t, h1, h2⟩ := rings_of h.2 r hr
      exact ⟨t, by simp [h1], h2⟩
theorem rings_ok (h : Shp R) : RingsOk (ars R x) R (rings R) := by
  cases h <;> simp [ars, arU, us, srt, mvs, srtM, insM, leM, mvR, rmv, lost, lostR, List.range, List.range.loop, RingsOk, rings, rars, rar, Chain, sm, ld, nm, th, Int.add_assoc]
def PapersOk (A : List Ar) (ab be : Int) (h : Int → Int) : Prop := match A with
  | [] => True
  | a :: A => h (th a) ≤ h (ld a) + (nm a * be - ab) ∧ PapersOk A ab be h
theorem paper_of {ab be : Int} {h : Int → Int} : ∀ {A : List Ar}, PapersOk A ab be h → Paper A ab be h
  | [], _ => fun a ha => by simp at ha
  | b :: A, q => fun a ha => by
    rcases List.mem_cons.mp ha with rfl | ha
    · exact q.1
    · exact paper_of q.2 a ha
theorem paper_ok (h : Shp R) {ab be : Int} (hq : ∀ q ∈ R, ab * q.length ≤ q.sum * be) : Paper (ars R x) ab be (hv be ab R 1) := by
  refine paper_of ?_
  cases h <;> simp [Int.add_mul] at hq <;> simp [ars, arU, us, srt, mvs, srtM, insM, leM, mvR, rmv, lost, lostR, List.range, List.range.loop, PapersOk, hv, ld, nm, th] <;> omega
end Hd
end
section
set_option maxHeartbeats 4000000
/-! the rings' means -/
namespace Hd
open PySem WW MM
def ng (R : List (List Int)) : List (List Int) := R.map (·.map fun a => -a)
section
variable {R : List (List Int)} {x : Int}
theorem ng_shp (h : Shp R) : Shp (ng R) := by
  cases h <;> simp [ng] <;> constructor
theorem ng_bd (hb : Bd R) : Bd (ng R) := fun r hr a ha => by
  obtain ⟨q, hq, rfl⟩ := List.mem_map.mp hr
  obtain ⟨b, hb', rfl⟩ := List.mem_map.mp ha
  have := hb q hq b hb'
  omega
theorem ng_ars (h : Shp R) : ars (ng R) x = (ars R x).map turnA := by
  cases h <;> kernel_rfl
theorem ng_us (h : Shp R) : us (ng R) = us R := by
  cases h <;> kernel_rfl
theorem ng_first (h : Shp R) : frst (ng R) = (frst R).map turnA := by
  cases h <;> kernel_rfl
theorem ng_sum (r : List Int) : (r.map fun a => -a).sum = -r.sum := by
  induction r with
  | nil => rfl
  | cons a r ih => rw [List.map_cons, List.sum_cons, ih, List.sum_cons]; omega
theorem frst_round (h : Shp R) : Round (ars R x) (frst R) ∧ (frst R).length ≤ 10 := by
  have q := rings_ok (x := x) h
  have : ∃ r R', R = r :: R' ∧ ∃ t T, rings R = t :: T := by
    cases h <;> exact ⟨_, _, rfl, _, _, rfl⟩
  obtain ⟨r, R', e1, t, T, e2⟩ := this
  unfold frst
  rw [e2] at q ⊢
  rw [e1] at q
  obtain ⟨⟨h1, h2, h3, h4, h5, h6, h7⟩, _⟩ := q
  rw [← e1] at h2
  exact ⟨⟨h1, h2, h3, h4⟩, Nat.le_trans h7 (by decide)⟩
def IsMin (R : List (List Int)) (r : List Int) : Prop := r ∈ R ∧ ∀ q ∈ R, r.sum * q.length ≤ q.sum * r.length
def IsMax (R : List (List Int)) (r : List Int) : Prop := r ∈ R ∧ ∀ q ∈ R, q.sum * r.length ≤ r.sum * q.length
theorem min_mean (h : Shp R) {r : List Int} (hm : IsMin R r) {t : List Ar} {h' : Int → Int} (le : Least (ars R x) t h') : up t = r.sum / lwg r.sum r.length ∧ dn t = r.length / lwg r.sum r.length := by
  obtain ⟨u, _, ru, s1, s2, _⟩ := rings_of (rings_ok (x := x) h) r hm.1
  have eu : up u = r.sum / lwg r.sum r.length ∧ dn u = r.length / lwg r.sum r.length := by
    unfold up dn
    rw [s1, s2]
    exact ⟨rfl, rfl⟩
  rw [← eu.1, ← eu.2]
  have lp : (0 : Int) < u.length := by
    have := List.length_pos_iff.mpr ru.ne
    omega
  obtain ⟨p1, p2⟩ := dn_pos ru.ne
  obtain ⟨e1, e2⟩ := lwg_dvd (sm u) u.length
  have e1 : up u * lwg (sm u) u.length = sm u := e1
  have e2 : dn u * lwg (sm u) u.length = u.length := e2
  have hp : Paper (ars R x) (up u) (dn u) (hv (dn u) (up u) R 1) := paper_ok h fun q hq => by
    have := hm.2 q hq
    have t1 : r.sum = up u * lwg (sm u) u.length := by rw [e1, s1]
    have t2 : (r.length : Int) = dn u * lwg (sm u) u.length := by rw [e2, s2]
    generalize lwg (sm u) u.length = c at p2 t1 t2
    rw [t1, t2] at this
    rcases ilt (q.sum * dn u) (up u * q.length) with z | z
    · exfalso
      have := Int.mul_lt_mul_of_pos_right z p2
      have e3 : up u * q.length * c = up u * c * q.length := by rw [Int.mul_assoc, Int.mul_comm (q.length : Int), ← Int.mul_assoc]
      have e4 : q.sum * dn u * c = q.sum * (dn u * c) := Int.mul_assoc ..
      omega
    · exact z
  exact least_one le.p le.r hp ru
theorem max_mean (h : Shp R) {r : List Int} (hm : IsMax R r) {t : List Ar} {h' : Int → Int} (le : Least ((ars R x).map turnA) t h') : -up t = r.sum / lwg r.sum r.length ∧ dn t = r.length / lwg r.sum r.length := by
  rw [← ng_ars h] at le
  have hm' : IsMin (ng R) (r.map fun a => -a) := ⟨List.mem_map.mpr ⟨r, hm.1, rfl⟩, fun q hq => by
    obtain ⟨q2, hq2, rfl⟩ := List.mem_map.mp hq
    have := hm.2 q2 hq2
    rw [ng_sum, ng_sum, List.length_map, List.length_map, Int.neg_mul, Int.neg_mul]
    omega⟩
  obtain ⟨e1, e2⟩ := min_mean (ng_shp h) hm' le
  rw [ng_sum, List.length_map] at e1 e2
  have eg : lwg (-r.sum) r.length = lwg r.sum r.length := by
    unfold lwg
    rw [Int.neg_gcd]
  rw [eg] at e1 e2
  refine ⟨?_, e2⟩
  rw [e1, Int.neg_ediv_of_dvd (by unfold lwg; exact Int.gcd_dvd_left ..), Int.neg_neg]
/-! the arrows' indexes -/
theorem ar_idx {U : List Int} : ∀ {l : List Ar} {i : Int}, ∀ a ∈ arU U l i, ∃ n : Nat, a.1 = i + n ∧ ∃ m, l[n]? = some m ∧ m.2.2.1 = nm a
  | [], _ => fun a ha => by simp [arU] at ha
  | p :: l, i => fun a ha => by
    have rest : a ∈ arU U l (i + 1) → ∃ n : Nat, a.1 = i + n ∧ ∃ m, (p :: l)[n]? = some m ∧ m.2.2.1 = nm a := fun ha => by
      obtain ⟨n, h1, m, h2, h3⟩ := ar_idx a ha
      exact ⟨n + 1, by rw [h1]; push_cast; omega, m, by simpa using h2, h3⟩
    unfold arU at ha
    split at ha
    · rcases List.mem_cons.mp ha with rfl | ha
      · exact ⟨0, by simp, p, rfl, rfl⟩
      · exact rest ha
    · exact rest ha
theorem ar_nd {U : List Int} : ∀ {l : List Ar} {i : Int}, (∀ a ∈ arU U l i, i ≤ a.1) ∧ ((arU U l i).map (·.1)).Nodup
  | [], _ => by simp [arU]
  | p :: l, i => by
    obtain ⟨h1, h2⟩ := ar_nd (U := U) (l := l) (i := i + 1)
    unfold arU
    split
    · refine ⟨fun a ha => ?_, ?_⟩
      · rcases List.mem_cons.mp ha with rfl | ha
        · exact Int.le_refl _
        · have := h1 a ha; omega
      · rw [List.map_cons, List.nodup_cons]
        refine ⟨fun hm => ?_, h2⟩
        obtain ⟨a, ha, e⟩ := List.mem_map.mp hm
        have := h1 a ha
        have e : a.1 = i := e
        omega
    · exact ⟨fun a ha => by have := h1 a ha; omega, h2⟩
end
end Hd
end
section
set_option maxHeartbeats 4000000
/-! means, papers -/
namespace Hd
open PySem WW MM
section
variable {k : Nat} {g : G} {R : List (List Int)} {s x : Int} {d : D}
theorem f_useful (h : Shp R) : (callN T1 W0 (k + 2)).f "useful_of" [cD R s (srt R x)] g = some (dI (us R), true, g) := by
  cases h <;> kernel_rfl
theorem f_alo (h : Shp R) : (callN T1 W0 (k + 3)).f "weighed" [cD R s (alo (srt R x))] g = some (.tup [.lst [.int 0], .lst []], false, g) := by
  cases h <;> kernel_rfl
theorem f_acounted (h : Shp R) : (callN T1 W0 (k + 3)).f "_law_counted" [cD R s (alo (srt R x))] g = some (.lst [.int 0], true, g) := by
  cases h <;> kernel_rfl
theorem f_abest {fl : Bool} : (callN T1 W0 (k + 3)).f "best_round" [.lst [.int 0], .lst [], .bl fl] g = some (.non, false, g) := by
  cases fl <;> kernel_rfl
theorem f_aboth : (callN T1 W0 (k + 4)).f "both_means" [.lst [.int 0], .lst []] g = some (.lst [], true, g) := by
  kernel_rfl
theorem flag_ok {fl : Bool} {w : Nat} : (callN T1 w (k + 1)).f "need_flag" [.bl fl] g = some (.non, false, g) := by
  cases fl <;> rfl
theorem loc_sq {c : Int} {ms : List Ar} (h : LoC c s ms d) : ∃ l, isSq d l := by
  obtain ⟨d1, d2, d3, hd, _⟩ := h
  exact ⟨_, hd⟩
theorem means_ok (h : Shp R) (hb : Bd R) (hd : LoC (lost R + 1) s (srt R x) d) {r r' : List Int} (hm : IsMin R r) (hM : IsMax R r') : (callN T1 W0 (k + 7)).f "means" [d] g = some (.lst [lw r.sum r.length, lw r'.sum r'.length], true, g) := by
  have e1 := need_counter_ok (w := W0) (k := k) (g := g) (ctr_srt h hb) hd
  have e2 : (callN T1 W0 (k + 6)).f "weighed" [cT (lost R + 1) s (srt R x)] g = some (.tup [dI (us R), dAs (ars R x)], false, g) := f_weighed (k := k + 3) h
  obtain ⟨r0, l0⟩ := frst_round (x := x) h
  obtain ⟨r1, l1⟩ := frst_round (x := x) (ng_shp h)
  rw [ng_ars h, ng_first h] at r1
  rw [ng_first h] at l1
  obtain ⟨t, ht, u, hu, e3, le, le'⟩ := both_ok (w := W0) (k := k + 1) (g := g) (good_ars (x := x) h hb) (Nat.le_refl _) r0 l0 (f_first (k := k + 2) h) r1 l1 (f_first' (k := k + 2) h)
  obtain ⟨m1, m2⟩ := min_mean h hm le
  obtain ⟨m3, m4⟩ := max_mean h hM le'
  rw [m1, m2, m3, m4] at e3
  rw [c_means]
  refine runF_of ⟨rfl, by decide⟩ ?_
  obtain ⟨l, hs⟩ := loc_sq hd
  show evSs _ _ _ ⟨[some (d, false), none, none], g⟩ = _
  rcases hs with rfl | rfl <;> simp [F_means, e1, e2, e3]
theorem counted_ok (h : Shp R) (hb : Bd R) (hd : LoC (lost R + 1) s (srt R x) d) : (callN T1 W0 (k + 7)).f "counted_stands" [d] g = some (dI (us R), true, g) := by
  have e1 := need_counter_ok (w := W0) (k := k) (g := g) (ctr_srt h hb) hd
  have e2 : (callN T1 W0 (k + 6)).f "useful_of" [cT (lost R + 1) s (srt R x)] g = some (dI (us R), true, g) := f_useful (k := k + 4) h
  rw [c_counted_stands]
  refine runF_of ⟨rfl, by decide⟩ ?_
  obtain ⟨l, hs⟩ := loc_sq hd
  show evSs _ _ _ ⟨[some (d, false)], g⟩ = _
  rcases hs with rfl | rfl <;> simp [F_counted_stands, e1, e2]
def paperD (fl : Bool) (U : List Int) (t : List Ar) (h : Int → Int) : D := .tup [dI (t.map (·.1)), dI (U.map fun u => sgn fl * h u)]
theorem mean_paper_ok (h : Shp R) (hb : Bd R) (hd : LoC (lost R + 1) s (srt R x) d) (fl : Bool) : ∃ t h', (callN T1 W0 (k + 7)).f "mean_paper" [d, .bl fl] g = some (paperD fl (us R) t h', false, g) ∧ Least (tn fl (ars R x)) t h' := by
  have e1 := need_counter_ok (w := W0) (k := k) (g := g) (ctr_srt h hb) hd
  have e2 : (callN T1 W0 (k + 6)).f "weighed" [cT (lost R + 1) s (srt R x)] g = some (.tup [dI (us R), dAs (ars R x)], false, g) := f_weighed (k := k + 3) h
  have e4 := flag_ok (k := k + 5) (g := g) (w := W0) (fl := fl)
  have ef : ∃ t0, (callN T1 W0 (k + 4)).f "first_round" [dI (us R), dAs (tn fl (ars R x))] g = some (dAs t0, true, g) ∧ Round (tn fl (ars R x)) t0 ∧ t0.length ≤ 10 := by
    cases fl
    · obtain ⟨r1, l1⟩ := frst_round (x := x) (ng_shp h)
      rw [ng_ars h] at r1
      refine ⟨frst (ng R), ?_, r1, l1⟩
      rw [ng_first h]
      exact f_first' (k := k + 3) h
    · obtain ⟨r0, l0⟩ := frst_round (x := x) h
      exact ⟨_, f_first (k := k + 3) h, r0, l0⟩
  obtain ⟨t0, ef, r0, l0⟩ := ef
  obtain ⟨t, h', e3, le⟩ := best_ok (w := W0) (k := k + 2) (g := g) fl (good_ars (x := x) h hb) (Nat.le_refl _) r0 l0 ef
  refine ⟨t, h', ?_, le⟩
  rw [c_mean_paper]
  refine runF_of ⟨rfl, by decide⟩ ?_
  obtain ⟨l, hs⟩ := loc_sq hd
  show evSs _ _ _ ⟨[some (d, false), some (.bl fl, false), none, none, none], g⟩ = _
  rcases hs with rfl | rfl <;> simp [F_mean_paper, e1, e2, e3, e4, bestD, paperD]
theorem is_paper_via (h : Shp R) (hb : Bd R) (hd : LoC (lost R + 1) s (srt R x) d) {fl b f : Bool} {p : D} (ho : okD p) (hp : (callN T1 W0 (k + 6)).f "is_paper_of" [dI (us R), dAs (ars R x), .bl fl, p] g = some (.bl b, f, g)) : (callN T1 W0 (k + 7)).f "is_mean_paper" [d, .bl fl, p] g = some (.bl b, f, g) := by
  have e1 := need_counter_ok (w := W0) (k := k) (g := g) (ctr_srt h hb) hd
  have e2 : (callN T1 W0 (k + 6)).f "weighed" [cT (lost R + 1) s (srt R x)] g = some (.tup [dI (us R), dAs (ars R x)], false, g) := f_weighed (k := k + 3) h
  have e4 := flag_ok (k := k + 5) (g := g) (w := W0) (fl := fl)
  rw [c_is_mean_paper]
  refine runF_of ⟨rfl, by decide⟩ ?_
  obtain ⟨l, hs⟩ := loc_sq hd
  show evSs _ _ _ ⟨[some (d, false), some (.bl fl, false), some (p, false), none, none], g⟩ = _
  rcases hs with rfl | rfl <;> simp [F_is_mean_paper, e1, e2, e4, hp, look, frz, ho.1, ho.2]
/-! where no round is -/
theorem ameans_ok (h : Shp R) (hb : Bd R) (hd : LoC (lost R + 1) s (alo (srt R x)) d) : (callN T1 W0 (k + 7)).f "means" [d] g = some (.lst [], true, g) := by
  have e1 := need_counter_ok (w := W0) (k := k) (g := g) (ctr_alo h hb) hd
  have e2 : (callN T1 W0 (k + 6)).f "weighed" [cT (lost R + 1) s (alo (srt R x))] g = some (.tup [.lst [.int 0], .lst []], false, g) := f_alo (k := k + 3) h
  have e3 := f_aboth (k := k + 2) (g := g)
  rw [c_means]
  refine runF_of ⟨rfl, by decide⟩ ?_
  obtain ⟨l, hs⟩ := loc_sq hd
  show evSs _ _ _ ⟨[some (d, false), none, none], g⟩ = _
  rcases hs with rfl | rfl <;> simp [F_means, e1, e2, e3]
theorem apaper_ok (h : Shp R) (hb : Bd R) (hd : LoC (lost R + 1) s (alo (srt R x)) d) {fl : Bool} : (callN T1 W0 (k + 7)).f "mean_paper" [d, .bl fl] g = some (.non, false, g) := by
  have e1 := need_counter_ok (w := W0) (k := k) (g := g) (ctr_alo h hb) hd
  have e2 : (callN T1 W0 (k + 6)).f "weighed" [cT (lost R + 1) s (alo (srt R x))] g = some (.tup [.lst [.int 0], .lst []], false, g) := f_alo (k := k + 3) h
  have e3 := f_abest (k := k + 3) (g := g) (fl := fl)
  have e4 := flag_ok (k := k + 5) (g := g) (w := W0) (fl := fl)
  rw [c_mean_paper]
  refine runF_of ⟨rfl, by decide⟩ ?_
  obtain ⟨l, hs⟩ := loc_sq hd
  show evSs _ _ _ ⟨[some (d, false), some (.bl fl, false), none, none, none], g⟩ = _
  rcases hs with rfl | rfl <;> simp [F_mean_paper, e1, e2, e3, e4]
theorem ais_ok (h : Shp R) (hb : Bd R) (hd : LoC (lost R + 1) s (alo (srt R x)) d) {fl : Bool} : (callN T1 W0 (k + 7)).f "is_mean_paper" [d, .bl fl, .tup [.lst [], .lst []]] g = some (.bl false, false, g) := by
  have e1 := need_counter_ok (w := W0) (k := k) (g := g) (ctr_alo h hb) hd
  have e2 : (callN T1 W0 (k + 6)).f "weighed" [cT (lost R + 1) s (alo (srt R x))] g = some (.tup [.lst [.int 0], .lst []], false, g) := f_alo (k := k + 3) h
  have e3 : (callN T1 W0 (k + 6)).f "is_paper_of" [.lst [.int 0], .lst [], .bl fl, .tup [.lst [], .lst []]] g = some (.bl false, false, g) := by kernel_rfl
  have e4 := flag_ok (k := k + 5) (g := g) (w := W0) (fl := fl)
  rw [c_is_mean_paper]
  refine runF_of ⟨rfl, by decide⟩ ?_
  obtain ⟨l, hs⟩ := loc_sq hd
  show evSs _ _ _ ⟨[some (d, false), some (.bl fl, false), some (.tup [.lst [], .lst []], false), none, none], g⟩ = _
  rcases hs with rfl | rfl <;> simp [F_is_mean_paper, e1, e2, e3, e4]
end
end Hd
end
section
set_option maxHeartbeats 4000000
/-! what is a paper: the program's look and the law's look -/
namespace Hd
open PySem WW MM
/-! dicts by whole numbers, each once -/
def dk (kv : List (Int × D)) : List (D × D) := kv.map fun p => (D.int p.1, p.2)
theorem dput_new : ∀ {kv : List (Int × D)} {i : Int} {v : D}, i ∉ kv.map (·.1) → dput (dk kv) (.int i) v = dk (kv ++ [(i, v)])
  | [], _, _, _ => rfl
  | (j, u) :: kv, i, v, h => by
    simp only [List.map_cons, List.mem_cons, not_or] at h
    show (if (D.int j).same (D.int i) = true then _ else _ :: dput (dk kv) _ _) = _
    rw [same_int, if_neg (by simpa using Ne.symm h.1), dput_new h.2]
    rfl
theorem dk_k {kv : List (Int × D)} {i : Int} : kOk (dk kv) (.int i) = true := kOk_int fun p hp => by
  obtain ⟨q, _, rfl⟩ := List.mem_map.mp hp
  exact ⟨q.1, rfl⟩
theorem dk_fold : ∀ {kv kv0 : List (Int × D)}, ((kv0 ++ kv).map (·.1)).Nodup → kv.foldl (fun l z => dput l (.int z.1) z.2) (dk kv0) = dk (kv0 ++ kv)
  | [], kv0, _ => by simp
  | (i, v) :: kv, kv0, nd => by
    have hn : i ∉ kv0.map (·.1) := fun hm => by
      rw [List.map_append, List.nodup_append] at nd
      exact nd.2.2 i hm i (by simp) rfl
    rw [List.foldl_cons]
    dsimp only
    rw [dput_new hn, dk_fold (by simpa using nd)]
    simp
theorem dk_puts : ∀ {kv kv0 : List (Int × D)}, ((kv0 ++ kv).map (·.1)).Nodup → dputs (dk kv0) (dk kv) = some (dk (kv0 ++ kv))
  | [], kv0, _ => by simp [dk, dputs]
  | (i, v) :: kv, kv0, nd => by
    have hn : i ∉ kv0.map (·.1) := fun hm => by
      rw [List.map_append, List.nodup_append] at nd
      exact nd.2.2 i hm i (by simp) rfl
    show (if kOk (dk kv0) (.int i) = true then dputs (dput (dk kv0) (.int i) v) (dk kv) else none) = _
    rw [dk_k, if_pos rfl, dput_new hn, dk_puts (by simpa using nd)]
    simp
theorem dk_get : ∀ {kv : List (Int × D)} {i : Int}, dget (dk kv) (.int i) = (kv.find? fun p => decide (p.1 = i)).map (·.2)
  | [], _ => rfl
  | (j, u) :: kv, i => by
    show (if (D.int j).same (D.int i) = true then _ else dget (dk kv) _) = _
    rw [same_int, List.find?_cons]
    by_cases e : j = i
    · simp [e]
    · simp [e, dk_get]
/-- the arrow of an index -/
def kn (A : List Ar) (i : Int) : Option Ar := A.find? fun a => decide (a.1 = i)
def ka (A : List Ar) (i : Int) : Ar := (kn A i).getD (0, 0, 0, 0)
abbrev knD (A : List Ar) : List (D × D) := dk (A.map fun a => (a.1, dA a))
theorem kn_get {A : List Ar} {i : Int} : dget (knD A) (.int i) = (kn A i).map dA := by
  unfold knD
  rw [dk_get]
  unfold kn
  induction A with
  | nil => rfl
  | cons a A ih =>
    rw [List.map_cons, List.find?_cons, List.find?_cons]
    by_cases e : a.1 = i
    · simp [e]
    · simp only [e, decide_false]; exact ih
theorem ka_get {A : List Ar} {i : Int} (h : (kn A i).isSome = true) : dget (knD A) (.int i) = some (dA (ka A i)) := by
  rw [kn_get]
  obtain ⟨a, ha⟩ := Option.isSome_iff_exists.mp h
  unfold ka
  rw [ha]
  rfl
theorem ka_mem {A : List Ar} {i : Int} (h : (kn A i).isSome = true) : ka A i ∈ A := by
  obtain ⟨a, ha⟩ := Option.isSome_iff_exists.mp h
  unfold ka
  rw [ha]
  exact List.mem_of_find?_eq_some ha
/-- each goes on from the one ahead -/
def clB : Int → List Ar → Bool
  | _, [] => true
  | p, a :: l => decide (ld a = p) && clB (th a) l
def lastT (l : List Ar) : Int := match l.getLast? with
  | some a => th a
  | none => 0
def clo (l : List Ar) : Bool := clB (lastT l) l
theorem atI_prev {turn pre suf : List Ar} (e : turn = pre ++ suf) (hne : turn ≠ []) : L2.atI (turn.map dA) ((pre.length : Int) - 1) = some (dA ((if pre = [] then turn.getLast? else pre.getLast?).getD (0, 0, 0, 0))) := by
  rcases List.eq_nil_or_concat pre with rfl | ⟨p, z, rfl⟩
  · rcases List.eq_nil_or_concat turn with rfl | ⟨t, y, rfl⟩
    · exact absurd rfl hne
    · rw [List.concat_eq_append, List.map_append]
      simp [L2.atI_last]
  · rw [e, List.concat_eq_append]
    have : (((p ++ [z]).length : Nat) : Int) - 1 = ((p.length : Nat) : Int) := by simp
    rw [this]
    refine L2.atI_nat ?_
    simp
section
variable {w k : Nat} {g : G} {U : List Int} {A : List Ar}
theorem kn_dc {C : Cl} {x : E} {kd : Nat} {t : T} {a : List E} {own : List Nat} {st : St} : True := trivial
abbrev tuE (A : List Ar) (row : List Int) (turn : List Ar) (x5 x2 : Option (D × Bool)) : WW.Env := [some (dAs A, false), some (dI row, false), x2, some (.dct (knD A), true), some (dAs turn, false), x5, none, none]
abbrev tuB : List S := [.ite (.b .ne (.b .idx (.p 2) (.c (.int 1))) (.b .idx (.b .idx (.p 4) (.b .sub (.p 5) (.c (.int 1)))) (.c (.int 3)))) [.ret (.c .non)] []]
theorem tu_loop {row : List Int} {turn : List Ar} (hne : turn ≠ []) : ∀ (suf pre : List Ar) (x5 x2 : Option (D × Bool)), turn = pre ++ suf →
    ∃ y5 y2, forL (evSs (callN T1 w k) w tuB) (.t [(.n 5), (.n 2)]) ((suf.zipIdx pre.length).map fun p => .tup [.int (p.2 : Int), dA p.1]) ⟨tuE A row turn x5 x2, g⟩ =
      some (if clB (th ((if pre = [] then turn.getLast? else pre.getLast?).getD (0, 0, 0, 0))) suf = true then .nx ⟨tuE A row turn y5 y2, g⟩ else .ret .non false g)
  | [], pre, x5, x2, _ => ⟨x5, x2, rfl⟩
  | a :: suf, pre, x5, x2, e => by
    obtain ⟨y5, y2, ih⟩ := tu_loop (row := row) hne suf (pre ++ [a]) (some (.int pre.length, false)) (some (dA a, false)) (by rw [e]; simp)
    refine ⟨y5, y2, ?_⟩
    rw [List.zipIdx_cons, List.map_cons]
    unfold forL
    show (evSs (callN T1 w k) w tuB ⟨tuE A row turn (some (.int pre.length, false)) (some (dA a, false)), g⟩).bind _ = _
    have hp := atI_prev e hne
    generalize hq : (if pre = [] then turn.getLast? else pre.getLast?).getD (0, 0, 0, 0) = q at hp ⊢
    have e1 : evSs (callN T1 w k) w tuB ⟨tuE A row turn (some (.int pre.length, false)) (some (dA a, false)), g⟩ = some (if ld a = th q then .nx ⟨tuE A row turn (some (.int pre.length, false)) (some (dA a, false)), g⟩ else .ret .non false g) := by
      by_cases z : ld a = th q
      · have z' : a.2.1 = q.2.2.2 := z
        simp [tuB, hp, z, z']
      · have z' : ¬ a.2.1 = q.2.2.2 := z
        simp [tuB, hp, z, z']
    rw [e1, Option.bind_some]
    have e2 : (if pre ++ [a] = [] then turn.getLast? else (pre ++ [a]).getLast?).getD (0, 0, 0, 0) = a := by simp
    rw [e2] at ih
    by_cases z : ld a = th q
    · rw [if_pos z]
      have e3 : clB (th q) (a :: suf) = clB (th a) suf := by simp [clB, z]
      rw [e3]
      dsimp only
      rw [List.length_append] at ih
      exact ih
    · rw [if_neg z]
      have e3 : clB (th q) (a :: suf) = false := by simp [clB, z]
      rw [e3]
      rfl
def turnB (A : List Ar) (row : List Int) : Bool := !row.isEmpty && (row.all (fun i => (kn A i).isSome) && clo (row.map (ka A)))
theorem turn_of_ok (nd : (A.map (·.1)).Nodup) (hA : A.length ≤ 1000) {row : List Int} (hr : row.length ≤ 1000) : (callN T1 w (k + 2)).f "turn_of" [dAs A, dI row] g = some (if turnB A row = true then dAs (row.map (ka A)) else .non, false, g) := by
  have sA : A.length ≤ sizeLine := Nat.le_trans hA (by decide)
  have sr : row.length ≤ sizeLine := Nat.le_trans hr (by decide)
  have hdc := dc_enc (C := callN T1 w (k + 1)) (x := .b .idx (.p 2) (.c (.int 0))) (y := .v 2) (k := 0) (t := .n 2) (a := [.v 0]) (own := [6, 2]) (st := ⟨[some (dAs A, false), some (dI row, false), none, none, none, none, none, none], g⟩) (ds := [dAs A]) A dA (fun a => .int a.1) dA (by simp) (by simp)
    (fun a _ => ⟨[some (dAs A, false), some (dI row, false), some (dA a, false), none, none, none, none, none], by simp [wip], by simp [wip], by simp, by simp⟩) (fun l hl z _ => kOk_int fun p hp => by
      obtain ⟨y, _, e⟩ := hl p hp
      exact ⟨_, e⟩) (fun r h => back_own h (by simp [keepS])) sA
  have hf : A.foldl (fun l z => dput l (.int z.1) (dA z)) [] = knD A := by
    have := dk_fold (kv := A.map fun a => (a.1, dA a)) (kv0 := []) (by rw [List.nil_append, List.map_map]; exact nd)
    rw [List.foldl_map] at this
    simpa [dk] using this
  rw [hf] at hdc
  have ew := fun (i : Int) => is_whole_int (w := w) (k := k) (g := g) (i := i)
  have hall := lc_all (C := callN T1 w (k + 1)) (e := (.and (.call ("is_whole" : Str) [(.v 7)]) (.b .isin (.p 7) (.p 3)))) (k := 0) (t := .n 7) (a := [.v 1]) (own := [6, 7]) (st := ⟨[some (dAs A, false), some (dI row, false), none, some (.dct (knD A), true), none, none, none, none], g⟩) (ds := [dI row]) row D.int (fun i => .bl (kn A i).isSome) (by simp) (by simp)
    (fun i _ => ⟨[some (dAs A, false), some (dI row, false), none, some (.dct (knD A), true), none, none, none, some (.int i, false)], by simp [wip], by simp [wip], by simp [ew, dk_k, kn_get]⟩) (fun r h => back_own h (by simp [keepS])) sr
  have el : (callN T1 w (k + 1)).f "is_list" [dI row] g = some (.bl true, false, g) := rfl
  rw [c_turn_of]
  refine runF_of ⟨rfl, by decide⟩ ?_
  show evSs _ _ _ ⟨[some (dAs A, false), some (dI row, false), none, none, none, none, none, none], g⟩ = _
  have hbs := bools_map row fun i => (kn A i).isSome
  have hai := all_id row fun i => (kn A i).isSome
  by_cases h0 : row = []
  · have hl0 : (row.length : Int) = 0 := by rw [h0]; rfl
    have ht : turnB A row = false := by rw [h0]; rfl
    simp [F_turn_of, hdc, el, hl0, ht]
  have hl0 : ¬ ((row.length : Int) = 0) := by
    have := List.length_pos_iff.mpr h0
    omega
  have hne : row.isEmpty = false := by cases row <;> simp_all
  by_cases h1 : row.all (fun i => (kn A i).isSome) = true
  · have hlc := lc_all (C := callN T1 w (k + 1)) (e := (.b .idx (.p 3) (.p 7))) (k := 0) (t := .n 7) (a := [.v 1]) (own := [6, 7]) (st := ⟨[some (dAs A, false), some (dI row, false), none, some (.dct (knD A), true), none, none, none, none], g⟩) (ds := [dI row]) row D.int (fun i => dA (ka A i)) (by simp) (by simp)
      (fun i hi => ⟨[some (dAs A, false), some (dI row, false), none, some (.dct (knD A), true), none, none, none, some (.int i, false)], by simp [wip], by simp [wip], by simp [dk_k, ka_get (List.all_eq_true.mp h1 i hi)]⟩) (fun r h => back_own h (by simp [keepS])) sr
    obtain ⟨y5, y2, hlp⟩ := tu_loop (w := w) (k := k + 1) (g := g) (A := A) (row := row) (turn := row.map (ka A)) (by simpa using h0) (row.map (ka A)) [] none none rfl
    have e4 : (row.map fun i => dA (ka A i)) = (row.map (ka A)).map dA := by rw [List.map_map]; rfl
    rw [e4] at hlc
    have ecl : clB (th ((row.map (ka A)).getLast?.getD (0, 0, 0, 0))) (row.map (ka A)) = clo (row.map (ka A)) := by
      unfold clo lastT
      cases (row.map (ka A)).getLast? <;> rfl
    simp only [if_true] at hlp
    rw [ecl] at hlp
    have ez : ((row.map (ka A)).map dA).zipIdx.map (fun p => D.tup [.int (p.2 : Int), p.1]) = (((row.map (ka A)).zipIdx ([] : List Ar).length).map fun p => .tup [.int (p.2 : Int), dA p.1]) := by
      rw [List.zipIdx_map, List.map_map]
      rfl
    have e5 : List.map (dA ∘ ka A) row = (row.map (ka A)).map dA := by rw [List.map_map]
    have hfor : forL (evSs (callN T1 w (k + 1)) w tuB) (.t [(.n 5), (.n 2)]) (List.map (fun p => D.tup [D.int (p.2 : Int), p.1]) (List.map (dA ∘ ka A) row).zipIdx) ⟨[some (dAs A, false), some (dI row, false), none, some (.dct (knD A), true), some (.lst (List.map (dA ∘ ka A) row), false), none, none, none], g⟩ = some (if clo (row.map (ka A)) = true then .nx ⟨tuE A row (row.map (ka A)) y5 y2, g⟩ else .ret .non false g) := by
      rw [e5, ez]
      exact hlp
    by_cases h2 : clo (row.map (ka A)) = true
    · rw [h2, if_pos rfl] at hfor
      have ht : turnB A row = true := by simp only [turnB, hne, h1, h2]; rfl
      simp [F_turn_of, hdc, el, hall, hbs, hai, h1, h0, hl0, hlc, hfor, ht]
    · rw [Bool.not_eq_true] at h2
      rw [h2] at hfor
      have ht : turnB A row = false := by simp only [turnB, hne, h1, h2]; rfl
      simp [F_turn_of, hdc, el, hall, hbs, hai, h1, h0, hl0, hlc, hfor, ht]
  · rw [Bool.not_eq_true] at h1
    have ht : turnB A row = false := by simp only [turnB, h1]; simp
    simp [F_turn_of, hdc, el, hall, hbs, hai, h1, h0, hl0, ht]
end
end Hd
end
section
set_option maxHeartbeats 4000000
/-! is_paper_of -/
namespace Hd
open PySem WW MM
def rst (t : List Ar) (h : Int → Int) (a : Ar) : Int := nm a * dn t - up t + h (ld a) - h (th a)
def restB (fl : Bool) (A t : List Ar) (h : Int → Int) : Bool := A.all fun a => if fl then decide (0 ≤ rst t h a) else decide (rst t h a ≤ 0)
def jd (fl : Bool) (A : List Ar) (row : List Int) (h : Int → Int) : Bool := turnB A row && restB fl A (row.map (ka A)) h
theorem zip2_same {α : Type} {f h : α → D} : ∀ U : List α, zip2 (U.map f) (U.map h) = U.map fun u => .tup [f u, h u]
  | [] => rfl
  | u :: U => by
    show .tup [f u, h u] :: zip2 (U.map f) (U.map h) = _
    rw [zip2_same U]
    rfl
theorem dn_small {t : List Ar} (h0 : t ≠ []) (hl : t.length ≤ 1000) : small (dn t) = true := by
  obtain ⟨p1, p2⟩ := dn_pos h0
  obtain ⟨_, e2⟩ := lwg_dvd (sm t) t.length
  have e2 : dn t * lwg (sm t) t.length = t.length := e2
  have : dn t ≤ t.length := by
    rw [← e2]
    have := Int.mul_le_mul_of_nonneg_left (show (1 : Int) ≤ lwg (sm t) t.length by omega) (Int.le_of_lt p1)
    omega
  simp only [small, Bool.and_eq_true, decide_eq_true_eq]
  omega
theorem turnB_ne {A : List Ar} {row : List Int} (h : turnB A row = true) : row ≠ [] := fun e => by rw [e] at h; cases h
section
variable {w k : Nat} {g : G} {U : List Int} {A : List Ar}
theorem is_row_b {d : D} {l : List D} {i : Int} (h : isSq d l) : (callN T1 w (k + 2)).f "is_row" [d, .int i] g = some (.bl (decide ((l.length : Int) = i)), false, g) := by
  have e := is_list_sq (w := w) (k := k) (g := g) h
  rw [c_is_row]
  refine runF_of ⟨rfl, by decide⟩ ?_
  show evSs _ _ _ ⟨[some (d, false), some (.int i, false)], g⟩ = _
  rcases h with rfl | rfl <;> simp [F_is_row, e, lenD]
theorem rest_lc {C : Cl} {e0 e1 : Option (D × Bool)} {o9 o10 o11 : Option (D × Bool)} : True := trivial
abbrev ipE (U : List Int) (A : List Ar) (fl : Bool) (row hs : List Int) (x4 x5 x6 x7 x8 : Option (D × Bool)) : WW.Env := [some (dI U, false), some (dAs A, false), some (.bl fl, false), some (.tup [dI row, dI hs], false), x4, x5, x6, x7, x8, none, none, none, none, none, none, none, none]
theorem is_paper_ok (hU : U.Nodup) (hU2 : U.length ≤ 10) (hAU : ∀ a ∈ A, ld a ∈ U ∧ th a ∈ U) (nd : (A.map (·.1)).Nodup) (hA : A.length ≤ 1000) {row : List Int} (hr : row.length ≤ 1000) (hw : 10000 ≤ w) {h : Int → Int} {fl : Bool} :
    (callN T1 w (k + 3)).f "is_paper_of" [dI U, dAs A, .bl fl, .tup [dI row, dI (U.map h)]] g = some (.bl (jd fl A row h), false, g) := by
  have sA : A.length ≤ sizeLine := Nat.le_trans hA (by decide)
  have sU : U.length ≤ sizeLine := Nat.le_trans hU2 (by decide)
  have e1 := is_row_b (w := w) (k := k) (g := g) (i := 2) (d := .tup [dI row, dI (U.map h)]) (.inl rfl)
  have e2 := turn_of_ok (w := w) (k := k) (g := g) nd hA hr
  have e3 := is_row_b (w := w) (k := k) (g := g) (i := (U.length : Int)) (d := dI (U.map h)) (.inr rfl)
  have e3 : (callN T1 w (k + 2)).f "is_row" [dI (U.map h), .int U.length] g = some (.bl true, false, g) := by rw [e3]; simp
  have e1 : (callN T1 w (k + 2)).f "is_row" [.tup [dI row, dI (U.map h)], .int 2] g = some (.bl true, false, g) := e1
  rw [c_is_paper_of]
  refine runF_of ⟨rfl, by decide⟩ ?_
  show evSs _ _ _ ⟨ipE U A fl row (U.map h) none none none none none, g⟩ = _
  cases ht : turnB A row with
  | false =>
    rw [ht] at e2
    have hj : jd fl A row h = false := by unfold jd; rw [ht]; rfl
    have e2 : (callN T1 w (k + 2)).f "turn_of" [dAs A, dI row] g = some (.non, false, g) := e2
    simp [F_is_paper_of, e1, e2, hj]
  | true =>
    rw [ht] at e2
    have e2 : (callN T1 w (k + 2)).f "turn_of" [dAs A, dI row] g = some (dAs (row.map (ka A)), false, g) := e2
    have hj : jd fl A row h = restB fl A (row.map (ka A)) h := by unfold jd; rw [ht]; rfl
    rw [hj]
    have hrow := turnB_ne ht
    generalize hgt : row.map (ka A) = t at e2 ⊢
    have t0 : t ≠ [] := by rw [← hgt]; simpa using hrow
    have tl : t.length ≤ 1000 := by rw [← hgt, List.length_map]; exact hr
    have ew := fun (i : Int) => is_whole_int (w := w) (k := k + 1) (g := g) (i := i)
    have hall := lc_all (C := callN T1 w (k + 2)) (e := (.call ("is_whole" : Str) [(.v 10)])) (k := 0) (t := .n 10) (a := [(.b .idx (.p 3) (.c (.int 1)))]) (own := [9, 10]) (st := ⟨ipE U A fl row (U.map h) (some (dAs t, false)) none none none none, g⟩) (ds := [dI (U.map h)]) (U.map h) D.int (fun i => .bl true) (by simp) (by simp)
      (fun i _ => ⟨(ipE U A fl row (U.map h) (some (dAs t, false)) none none none none).set 10 (some (.int i, false)), by simp [wip], by simp [wip], by simp [ew]⟩) (fun r h => back_own h (by simp [keepS])) (by rw [List.length_map]; exact sU)
    have hbt : ∀ l : List Int, bools (l.map fun _ => D.bl true) = some (l.map fun _ => true) := fun l => bools_map l _
    have hat : ∀ l : List Int, (l.map fun _ => true).all id = true := fun l => by induction l <;> simp_all
    have hm : (callN T1 w (k + 2)).f "mean_of" [dAs t] g = some (.tup [.int (up t), .int (dn t)], false, g) := mean_of_ok t0 (by omega) (by omega)
    have hdc := dc_enc (C := callN T1 w (k + 2)) (x := (.v 11)) (y := (.v 10)) (k := 3) (t := .t [(.n 11), (.n 10)]) (a := [(.v 0), (.b .idx (.p 3) (.c (.int 1)))]) (own := [9, 11, 10]) (st := ⟨ipE U A fl row (U.map h) (some (dAs t, false)) (some (.int (up t), false)) (some (.int (dn t), false)) none none, g⟩) (ds := [dI U, dI (U.map h)]) U (fun u => .tup [.int u, .int (h u)]) D.int (fun u => .int (h u)) (by simp) (by
        rw [walk3 (.inr rfl) (.inr rfl), List.map_map, zip2_same]
        rfl)
      (fun u _ => ⟨((ipE U A fl row (U.map h) (some (dAs t, false)) (some (.int (up t), false)) (some (.int (dn t), false)) none none).set 11 (some (.int u, false))).set 10 (some (.int (h u), false)), by simp [wip], by simp [wip], by simp, by simp⟩) (fun l hl z _ => kOk_int fun p hp => by
        obtain ⟨y, _, e⟩ := hl p hp
        exact ⟨_, e⟩) (fun r h => back_own h (by simp [keepS])) sU
    have hf : U.foldl (fun l z => dput l (.int z) (.int (h z))) [] = hd U h := by
      have := dk_fold (kv := U.map fun u => (u, D.int (h u))) (kv0 := []) (by
        rw [List.nil_append, List.map_map]
        have : ((fun x : Int × D => x.1) ∘ fun u => (u, D.int (h u))) = id := rfl
        rw [this, List.map_id]
        exact hU)
      rw [List.foldl_map] at this
      refine this.trans ?_
      unfold dk hd
      rw [List.nil_append, List.map_map]
      rfl
    rw [hf] at hdc
    have hsm := dn_small t0 tl
    have hlc := lc_all (C := callN T1 w (k + 2)) (e := (.b .sub (.b .add (.b .sub (.b .mul (.p 14) (.p 6)) (.p 5)) (.b .idx (.p 7) (.p 13))) (.b .idx (.p 7) (.p 15)))) (k := 0) (t := .t [(.n 12), (.n 13), (.n 14), (.n 15)]) (a := [(.v 1)]) (own := [9, 12, 13, 14, 15]) (st := ⟨ipE U A fl row (U.map h) (some (dAs t, false)) (some (.int (up t), false)) (some (.int (dn t), false)) (some (.dct (hd U h), true)) none, g⟩) (ds := [dAs A]) A dA (fun a => .int (rst t h a)) (by simp) (by simp)
      (fun a ha => ⟨((((ipE U A fl row (U.map h) (some (dAs t, false)) (some (.int (up t), false)) (some (.int (dn t), false)) (some (.dct (hd U h), true)) none).set 12 (some (.int a.1, false))).set 13 (some (.int a.2.1, false))).set 14 (some (.int a.2.2.1, false))).set 15 (some (.int a.2.2.2, false)), by simp [wip], by simp [wip], by
        have g1 := hd_get (h := h) (hAU a ha).1
        have g2 := hd_get (h := h) (hAU a ha).2
        unfold ld at g1
        unfold th at g2
        simp [hsm, g1, g2, hd_k, rst, nm, ld, th]⟩) (fun r h => back_own h (by simp [keepS])) sA
    have hl2 := lc_all (C := callN T1 w (k + 2)) (e := (.ite (.u .tru (.p 2)) (.b .ge (.p 16) (.c (.int 0))) (.b .le (.p 16) (.c (.int 0))))) (k := 0) (t := .n 16) (a := [(.v 8)]) (own := [9, 16]) (st := ⟨ipE U A fl row (U.map h) (some (dAs t, false)) (some (.int (up t), false)) (some (.int (dn t), false)) (some (.dct (hd U h), true)) (some (.lst (A.map fun a => .int (rst t h a)), false)), g⟩) (ds := [.lst (A.map fun a => .int (rst t h a))]) A (fun a => .int (rst t h a)) (fun a => .bl (if fl then decide (0 ≤ rst t h a) else decide (rst t h a ≤ 0))) (by simp) (by simp)
      (fun a ha => ⟨(ipE U A fl row (U.map h) (some (dAs t, false)) (some (.int (up t), false)) (some (.int (dn t), false)) (some (.dct (hd U h), true)) (some (.lst (A.map fun a => .int (rst t h a)), false))).set 16 (some (.int (rst t h a), false)), by simp [wip], by simp [wip], by cases fl <;> simp⟩) (fun r h => back_own h (by simp [keepS])) sA
    have hsh := lc_shift (C := callN T1 w (k + 2)) (e := (.ite (.u .tru (.p 2)) (.b .ge (.p 16) (.c (.int 0))) (.b .le (.p 16) (.c (.int 0))))) (kd := 0) (t := .n 16) (a := [(.v 8)]) (ifs := []) (own := [9, 16]) (st := ⟨ipE U A fl row (U.map h) (some (dAs t, false)) (some (.int (up t), false)) (some (.int (dn t), false)) (some (.dct (hd U h), true)) (some (.lst (A.map fun a => .int (rst t h a)), true)), g⟩) (st1 := ⟨ipE U A fl row (U.map h) (some (dAs t, false)) (some (.int (up t), false)) (some (.int (dn t), false)) (some (.dct (hd U h), true)) (some (.lst (A.map fun a => .int (rst t h a)), false)), g⟩) (ds := [.lst (A.map fun a => .int (rst t h a))]) (by simp) (by simp)
    rw [hl2] at hsh
    have hb2 := bools_map A fun a => (if fl then decide (0 ≤ rst t h a) else decide (rst t h a ≤ 0))
    have ha2 := all_id A fun a => (if fl then decide (0 ≤ rst t h a) else decide (rst t h a ≤ 0))
    have hres : restB fl A t h = A.all fun a => (if fl then decide (0 ≤ rst t h a) else decide (rst t h a ≤ 0)) := rfl
    rw [hres]
    simp [-List.map_map, F_is_paper_of, e1, e2, e3, hall, hbt, hat, hm, hdc, hlc, hsh, hb2, ha2]
end
end Hd
end
section
set_option maxHeartbeats 4000000
/-! the law's look at papers -/
namespace Hd
open PySem WW MM
section
variable {w k : Nat} {g : G} {U : List Int} {A : List Ar}
theorem is_paper_ne (nd : (A.map (·.1)).Nodup) (hA : A.length ≤ 1000) {row hs : List Int} (hr : row.length ≤ 1000) (hl : hs.length ≠ U.length) {fl : Bool} :
    (callN T1 w (k + 3)).f "is_paper_of" [dI U, dAs A, .bl fl, .tup [dI row, dI hs]] g = some (.bl false, false, g) := by
  have e1 : (callN T1 w (k + 2)).f "is_row" [.tup [dI row, dI hs], .int 2] g = some (.bl true, false, g) := is_row_b (w := w) (k := k) (g := g) (i := 2) (d := .tup [dI row, dI hs]) (.inl rfl)
  have e2 := turn_of_ok (w := w) (k := k) (g := g) nd hA hr
  have e3 := is_row_b (w := w) (k := k) (g := g) (i := (U.length : Int)) (d := dI hs) (.inr rfl)
  have e3 : (callN T1 w (k + 2)).f "is_row" [dI hs, .int U.length] g = some (.bl false, false, g) := by
    rw [e3]
    have : ¬ (((hs.map D.int).length : Nat) : Int) = (U.length : Int) := by rw [List.length_map]; omega
    simp only [this, decide_false]
  rw [c_is_paper_of]
  refine runF_of ⟨rfl, by decide⟩ ?_
  show evSs _ _ _ ⟨ipE U A fl row hs none none none none none, g⟩ = _
  cases ht : turnB A row with
  | false =>
    rw [ht] at e2
    have e2 : (callN T1 w (k + 2)).f "turn_of" [dAs A, dI row] g = some (.non, false, g) := e2
    simp [F_is_paper_of, e1, e2]
  | true =>
    rw [ht] at e2
    have e2 : (callN T1 w (k + 2)).f "turn_of" [dAs A, dI row] g = some (dAs (row.map (ka A)), false, g) := e2
    simp [-List.map_map, F_is_paper_of, e1, e2, e3]
/-- the law's look: is it closed -/
def prv (l : List Ar) (i : Nat) : Ar := (if i = 0 then l.getLast? else l[i - 1]?).getD (0, 0, 0, 0)
theorem clo_zip {l : List Ar} (hne : l ≠ []) : ∀ (suf pre : List Ar), l = pre ++ suf → ((suf.zipIdx pre.length).all fun p => decide (ld p.1 = th (prv l p.2))) = clB (th ((if pre = [] then l.getLast? else pre.getLast?).getD (0, 0, 0, 0))) suf
  | [], pre, _ => rfl
  | a :: suf, pre, e => by
    have ih := clo_zip hne suf (pre ++ [a]) (by rw [e]; simp)
    rw [List.zipIdx_cons, List.all_cons]
    have e1 : prv l pre.length = (if pre = [] then l.getLast? else pre.getLast?).getD (0, 0, 0, 0) := by
      unfold prv
      rcases List.eq_nil_or_concat pre with rfl | ⟨p, z, rfl⟩
      · simp
      · rw [e]
        simp
    rw [e1]
    have e2 : (if pre ++ [a] = [] then l.getLast? else (pre ++ [a]).getLast?).getD (0, 0, 0, 0) = a := by simp
    rw [e2, List.length_append] at ih
    show (_ && (suf.zipIdx (pre.length + 1)).all _) = (decide _ && clB (th a) suf)
    rw [← ih]
    rfl
theorem prv_at {l : List Ar} (hne : l ≠ []) {i : Nat} (hi : i < l.length) : L2.atI (l.map dA) ((i : Int) - 1) = some (dA (prv l i)) := by
  unfold prv
  rcases Nat.eq_zero_or_pos i with rfl | h
  · rcases List.eq_nil_or_concat l with rfl | ⟨t, y, rfl⟩
    · exact absurd rfl hne
    · rw [List.concat_eq_append, List.map_append]
      simp [L2.atI_last]
  · have e : (i : Int) - 1 = ((i - 1 : Nat) : Int) := by omega
    rw [e]
    refine L2.atI_nat ?_
    rw [if_neg (by omega), List.getElem?_map, List.getElem?_eq_getElem (by omega)]
    rfl
theorem pairs_dk (kv : List (Int × D)) : pairs (kv.map fun p => .tup [.int p.1, p.2]) = some (dk kv) := by
  induction kv with
  | nil => rfl
  | cons p kv ih =>
    rw [List.map_cons]
    show (pairs _).map _ = _
    rw [ih]
    rfl
abbrev liE (U : List Int) (A : List Ar) (fl : Bool) (row hs : List Int) (x4 x5 x6 x7 x8 x9 x10 x11 : Option (D × Bool)) : WW.Env := [some (dI U, false), some (dAs A, false), some (.bl fl, false), some (.tup [dI row, dI hs], false), x4, x5, x6, x7, x8, x9, x10, x11, none, none, none, none, none, none, none]
section
variable {i : Int}
@[simp] theorem isi_int : uF (.isi [.int]) (.int i) = some (.bl true, false) := rfl
@[simp] theorem isi_bool : uF (.isi [.bool]) (.int i) = some (.bl false, false) := rfl
end
variable {row hs : List Int} {fl : Bool}
theorem o_dictL {l : List D} : uF .dict (.lst l) = (pairs l).bind fun ps => if l.length ≤ sizeLine then (dputs [] ps).map (fun e => (D.dct e, true)) else none := rfl
theorem li_a : ev (callN T1 w (k + 2)) (.lc (.u (.isi [.list, .tuple]) (.p 13)) 0 (.n 13) [(.v 3)] [] [12, 13]) ⟨liE U A fl row hs none none none none none none none none, g⟩ = some (.inr (.lst [.bl true, .bl true]), true, ⟨liE U A fl row hs none none none none none none none none, g⟩) :=
  lc_all (C := callN T1 w (k + 2)) (e := (.u (.isi [.list, .tuple]) (.p 13))) (k := 0) (t := .n 13) (a := [(.v 3)]) (own := [12, 13]) (st := ⟨liE U A fl row hs none none none none none none none none, g⟩) (ds := [.tup [dI row, dI hs]]) [dI row, dI hs] id (fun _ => .bl true) (by simp) (by simp)
    (fun d hd => ⟨(liE U A fl row hs none none none none none none none none).set 13 (some (d, false)), by simp [wip], by simp [wip], by
      simp only [List.mem_cons, List.not_mem_nil, or_false] at hd
      rcases hd with rfl | rfl <;> simp⟩) (fun r h => back_own h (by simp [keepS])) (by show 2 ≤ sizeLine; decide)
theorem li_b (hr : row.length ≤ 1000) (hh : hs.length ≤ 1000) : ev (callN T1 w (k + 2)) (.lc (.and (.u (.isi [.int]) (.p 14)) (.not (.u (.isi [.bool]) (.p 14)))) 0 (.n 14) [(.b .add (.u .list (.p 4)) (.u .list (.p 5)))] [] [12, 14]) ⟨liE U A fl row hs (some (dI row, false)) (some (dI hs, false)) none none none none none none, g⟩ =
    some (.inr (.lst ((row ++ hs).map fun _ => .bl true)), true, ⟨liE U A fl row hs (some (dI row, false)) (some (dI hs, false)) none none none none none none, g⟩) := by
  have s1 : row.length ≤ sizeLine := Nat.le_trans hr (by decide)
  have s2 : hs.length ≤ sizeLine := Nat.le_trans hh (by decide)
  have s3 : row.length + hs.length ≤ sizeLine := Nat.le_trans (show _ ≤ 2000 by omega) (by decide)
  exact lc_all (C := callN T1 w (k + 2)) (e := (.and (.u (.isi [.int]) (.p 14)) (.not (.u (.isi [.bool]) (.p 14))))) (k := 0) (t := .n 14) (a := [(.b .add (.u .list (.p 4)) (.u .list (.p 5)))]) (own := [12, 14]) (st := ⟨liE U A fl row hs (some (dI row, false)) (some (dI hs, false)) none none none none none none, g⟩) (ds := [dI (row ++ hs)]) (row ++ hs) D.int (fun _ => .bl true) (by simp [s1, s2, s3]) (by simp)
    (fun d hd => ⟨(liE U A fl row hs (some (dI row, false)) (some (dI hs, false)) none none none none none none).set 14 (some (.int d, false)), by simp [wip], by simp [wip], by simp⟩) (fun r h => back_own h (by simp [keepS])) (by rw [List.length_append]; exact s3)
theorem bl_true {α : Type} (l : List α) : bools (l.map fun _ => D.bl true) = some (l.map fun _ => true) := bools_map l _
theorem al_true {α : Type} (l : List α) : (l.map fun _ => true).all id = true := by induction l <;> simp_all
theorem al_tt {α : Type} (l : List α) : (l.all fun _ => true) = true := by induction l <;> simp_all
theorem law_is_ne (hr : row.length ≤ 1000) (hh : hs.length ≤ 1000) (hl : hs.length ≠ U.length) :
    (callN T1 w (k + 3)).f "_law_is_mean_paper" [dI U, dAs A, .bl fl, .tup [dI row, dI hs]] g = some (.bl false, false, g) := by
  have ea := li_a (w := w) (k := k) (g := g) (U := U) (A := A) (row := row) (hs := hs) (fl := fl)
  have eb := li_b (w := w) (k := k) (g := g) (U := U) (A := A) (fl := fl) hr hh
  have hl' : ¬ ((hs.length : Int) = (U.length : Int)) := by omega
  rw [c__law_is_mean_paper]
  refine runF_of ⟨rfl, by decide⟩ ?_
  show evSs _ _ _ ⟨liE U A fl row hs none none none none none none none none, g⟩ = _
  simp [-List.map_map, -List.map_append, F__law_is_mean_paper, ea, eb, bools, bl_true, al_true, al_tt, hl, hl']
theorem law_is_ok (hU : U.Nodup) (hU2 : U.length ≤ 10) (hAU : ∀ a ∈ A, ld a ∈ U ∧ th a ∈ U) (nd : (A.map (·.1)).Nodup) (hA : A.length ≤ 1000) (hr : row.length ≤ 1000) (hw : 10000 ≤ w) {h : Int → Int} :
    (callN T1 w (k + 3)).f "_law_is_mean_paper" [dI U, dAs A, .bl fl, .tup [dI row, dI (U.map h)]] g = some (.bl (jd fl A row h), false, g) := by
  have sA : A.length ≤ sizeLine := Nat.le_trans hA (by decide)
  have sU : U.length ≤ sizeLine := Nat.le_trans hU2 (by decide)
  have sr : row.length ≤ sizeLine := Nat.le_trans hr (by decide)
  have ea := li_a (w := w) (k := k) (g := g) (U := U) (A := A) (row := row) (hs := U.map h) (fl := fl)
  have eb := li_b (w := w) (k := k) (g := g) (U := U) (A := A) (fl := fl) (hs := U.map h) hr (by rw [List.length_map]; omega)
  rw [c__law_is_mean_paper]
  refine runF_of ⟨rfl, by decide⟩ ?_
  show evSs _ _ _ ⟨liE U A fl row (U.map h) none none none none none none none none, g⟩ = _
  by_cases h0 : row = []
  · have hl0 : (row.length : Int) = 0 := by rw [h0]; rfl
    have hj : jd fl A row h = false := by rw [h0]; rfl
    simp [-List.map_map, -List.map_append, F__law_is_mean_paper, ea, eb, bools, bl_true, al_true, al_tt, hl0, hj]
  have hl0 : ¬ ((row.length : Int) = 0) := by
    have := List.length_pos_iff.mpr h0
    omega
  have ec := lc_all (C := callN T1 w (k + 2)) (e := (.tup [(.b .idx (.p 15) (.c (.int 0))), (.v 15)])) (k := 0) (t := .n 15) (a := [(.v 1)]) (own := [12, 15]) (st := ⟨liE U A fl row (U.map h) (some (dI row, false)) (some (dI (U.map h), false)) none none none none none none, g⟩) (ds := [dAs A]) A dA (fun a => .tup [.int a.1, dA a]) (by simp) (by simp)
    (fun a _ => ⟨(liE U A fl row (U.map h) (some (dI row, false)) (some (dI (U.map h), false)) none none none none none none).set 15 (some (dA a, false)), by simp [wip], by simp [wip], by simp⟩) (fun r h => back_own h (by simp [keepS])) sA
  have ed : uF .dict (.lst (A.map fun a => .tup [.int a.1, dA a])) = some (.dct (knD A), true) := by
    have e1 := pairs_dk (A.map fun a => (a.1, dA a))
    rw [List.map_map] at e1
    have e2 := dk_puts (kv := A.map fun a => (a.1, dA a)) (kv0 := []) (by rw [List.nil_append, List.map_map]; exact nd)
    have e1 : pairs (A.map fun a => .tup [.int a.1, dA a]) = some (dk (A.map fun a => (a.1, dA a))) := e1
    rw [o_dictL, e1, Option.bind_some, List.length_map, if_pos sA]
    rw [show dputs [] (dk (A.map fun a => (a.1, dA a))) = _ from e2]
    rfl
  have ef := lc_all (C := callN T1 w (k + 2)) (e := (.b .isin (.p 16) (.p 6))) (k := 0) (t := .n 16) (a := [(.v 4)]) (own := [12, 16]) (st := ⟨liE U A fl row (U.map h) (some (dI row, false)) (some (dI (U.map h), false)) (some (.dct (knD A), true)) none none none none none, g⟩) (ds := [dI row]) row D.int (fun i => .bl (kn A i).isSome) (by simp) (by simp)
    (fun i _ => ⟨(liE U A fl row (U.map h) (some (dI row, false)) (some (dI (U.map h), false)) (some (.dct (knD A), true)) none none none none none).set 16 (some (.int i, false)), by simp [wip], by simp [wip], by simp [dk_k, kn_get]⟩) (fun r h => back_own h (by simp [keepS])) sr
  have hbs := bools_map row fun i => (kn A i).isSome
  have hai := all_id row fun i => (kn A i).isSome
  have hne : row.isEmpty = false := by cases row <;> simp_all
  by_cases h1 : row.all (fun i => (kn A i).isSome) = true
  · have hfl := lc_all (C := callN T1 w (k + 2)) (e := (.b .idx (.p 6) (.p 16))) (k := 0) (t := .n 16) (a := [(.v 4)]) (own := [12, 16]) (st := ⟨liE U A fl row (U.map h) (some (dI row, false)) (some (dI (U.map h), false)) (some (.dct (knD A), true)) none none none none none, g⟩) (ds := [dI row]) row D.int (fun i => dA (ka A i)) (by simp) (by simp)
      (fun i hi => ⟨(liE U A fl row (U.map h) (some (dI row, false)) (some (dI (U.map h), false)) (some (.dct (knD A), true)) none none none none none).set 16 (some (.int i, false)), by simp [wip], by simp [wip], by simp [dk_k, ka_get (List.all_eq_true.mp h1 i hi)]⟩) (fun r h => back_own h (by simp [keepS])) sr
    have e4 : (row.map fun i => dA (ka A i)) = (row.map (ka A)).map dA := by rw [List.map_map]; rfl
    rw [e4] at hfl
    have hj0 : jd fl A row h = (clo (row.map (ka A)) && restB fl A (row.map (ka A)) h) := by
      unfold jd turnB
      rw [hne, h1]
      rfl
    rw [hj0]
    generalize hgt : row.map (ka A) = t at hfl ⊢
    have t0 : t ≠ [] := by rw [← hgt]; simpa using h0
    have tl : t.length ≤ 1000 := by rw [← hgt, List.length_map]; exact hr
    have st : t.length ≤ sizeLine := Nat.le_trans tl (by decide)
    have eg := lc_all (C := callN T1 w (k + 2)) (e := (.b .eq (.b .idx (.p 15) (.c (.int 1))) (.b .idx (.b .idx (.p 7) (.b .sub (.p 17) (.c (.int 1)))) (.c (.int 3))))) (k := 2) (t := .t [(.n 17), (.n 15)]) (a := [(.v 7)]) (own := [12, 17, 15]) (st := ⟨liE U A fl row (U.map h) (some (dI row, false)) (some (dI (U.map h), false)) (some (.dct (knD A), true)) (some (dAs t, false)) none none none none, g⟩) (ds := [dAs t]) t.zipIdx (fun p => .tup [.int (p.2 : Int), dA p.1]) (fun p => .bl (decide (ld p.1 = th (prv t p.2)))) (by simp) (by
        rw [wk2, List.zipIdx_map, List.map_map]
        rfl)
      (fun p hp => ⟨((liE U A fl row (U.map h) (some (dI row, false)) (some (dI (U.map h), false)) (some (.dct (knD A), true)) (some (dAs t, false)) none none none none).set 17 (some (.int (p.2 : Int), false))).set 15 (some (dA p.1, false)), by simp [wip], by simp [wip], by
        obtain ⟨a, i⟩ := p
        have hi := List.mem_zipIdx_iff_getElem?.mp hp
        have hi : i < t.length := (List.getElem?_eq_some_iff.mp hi).1
        have hp2 := prv_at t0 hi
        simp [hp2, ld, th]
        first | rfl | exact decide_eq_decide.mpr Iff.rfl⟩) (fun r h => back_own h (by simp [keepS])) (by rw [List.length_zipIdx]; exact st)
    have egs := lc_shift (C := callN T1 w (k + 2)) (e := (.b .eq (.b .idx (.p 15) (.c (.int 1))) (.b .idx (.b .idx (.p 7) (.b .sub (.p 17) (.c (.int 1)))) (.c (.int 3))))) (kd := 2) (t := .t [(.n 17), (.n 15)]) (a := [(.v 7)]) (ifs := []) (own := [12, 17, 15]) (st := ⟨liE U A fl row (U.map h) (some (dI row, false)) (some (dI (U.map h), false)) (some (.dct (knD A), true)) (some (dAs t, true)) none none none none, g⟩) (st1 := ⟨liE U A fl row (U.map h) (some (dI row, false)) (some (dI (U.map h), false)) (some (.dct (knD A), true)) (some (dAs t, false)) none none none none, g⟩) (ds := [dAs t]) (by simp) (by simp)
    rw [eg] at egs
    have hbz := bools_map t.zipIdx fun p => decide (ld p.1 = th (prv t p.2))
    have haz := all_id t.zipIdx fun p => decide (ld p.1 = th (prv t p.2))
    have hcz := clo_zip t0 t [] rfl
    have ecl : clB (th (t.getLast?.getD (0, 0, 0, 0))) t = clo t := by
      unfold clo lastT
      cases t.getLast? <;> rfl
    simp only [if_true, List.length_nil] at hcz
    rw [ecl] at hcz
    rw [hcz] at haz
    cases h2 : clo t with
    | false =>
      rw [h2] at haz
      simp [-List.map_map, -List.map_append, F__law_is_mean_paper, ea, eb, bools, bl_true, al_true, al_tt, hl0, h0, ec, ed, ef, hbs, hai, h1, hfl, egs, hbz, haz]
    | true =>
      rw [h2] at haz
      have ei := lc_all (C := callN T1 w (k + 2)) (e := (.b .idx (.p 15) (.c (.int 2)))) (k := 0) (t := .n 15) (a := [(.v 7)]) (own := [12, 15]) (st := ⟨liE U A fl row (U.map h) (some (dI row, false)) (some (dI (U.map h), false)) (some (.dct (knD A), true)) (some (dAs t, false)) none none none none, g⟩) (ds := [dAs t]) t dA (fun a => .int (nm a)) (by simp) (by simp)
        (fun a _ => ⟨(liE U A fl row (U.map h) (some (dI row, false)) (some (dI (U.map h), false)) (some (.dct (knD A), true)) (some (dAs t, false)) none none none none).set 15 (some (dA a, false)), by simp [wip], by simp [wip], by simp [nm]⟩) (fun r h => back_own h (by simp [keepS])) st
      have esum := sum_map t nm
      have elow : (callN T1 w (k + 2)).f "_law_lowest" [.int (t.map nm).sum, .int t.length] g = some (.tup [.int (up t), .int (dn t)], false, g) := law_lowest_ok (by have := List.length_pos_iff.mpr t0; omega) (by omega) (by omega)
      have ej : bF .zipl (dI U) (dI (U.map h)) = some (.lst (U.map fun u => .tup [.int u, .int (h u)]), true) := by
        show (if (U.map D.int).length ≤ sizeLine then some (D.lst (zip2 (U.map D.int) ((U.map h).map D.int)), true) else none) = _
        rw [List.length_map, if_pos sU, List.map_map, zip2_same]
        rfl
      have ek : uF .dict (.lst (U.map fun u => .tup [.int u, .int (h u)])) = some (.dct (hd U h), true) := by
        have e1 := pairs_dk (U.map fun u => (u, D.int (h u)))
        rw [List.map_map] at e1
        have e2 := dk_puts (kv := U.map fun u => (u, D.int (h u))) (kv0 := []) (by
          rw [List.nil_append, List.map_map]
          have : ((fun x : Int × D => x.1) ∘ fun u => (u, D.int (h u))) = id := rfl
          rw [this, List.map_id]
          exact hU)
        have e1 : pairs (U.map fun u => .tup [.int u, .int (h u)]) = some (dk (U.map fun u => (u, D.int (h u)))) := e1
        rw [o_dictL, e1, Option.bind_some, List.length_map, if_pos sU]
        rw [show dputs [] (dk (U.map fun u => (u, D.int (h u)))) = _ from e2]
        rw [List.nil_append]
        have : dk (U.map fun u => (u, D.int (h u))) = hd U h := by unfold dk hd; rw [List.map_map]; rfl
        rw [this]
        rfl
      have hsm := dn_small t0 tl
      have el := lc_all (C := callN T1 w (k + 2)) (e := (.b .sub (.b .add (.b .sub (.b .mul (.b .idx (.p 15) (.c (.int 2))) (.p 9)) (.p 8)) (.b .idx (.p 10) (.b .idx (.p 15) (.c (.int 1))))) (.b .idx (.p 10) (.b .idx (.p 15) (.c (.int 3)))))) (k := 0) (t := .n 15) (a := [(.v 1)]) (own := [12, 15]) (st := ⟨liE U A fl row (U.map h) (some (dI row, false)) (some (dI (U.map h), false)) (some (.dct (knD A), true)) (some (dAs t, false)) (some (.int (up t), false)) (some (.int (dn t), false)) (some (.dct (hd U h), true)) none, g⟩) (ds := [dAs A]) A dA (fun a => .int (rst t h a)) (by simp) (by simp)
        (fun a ha => ⟨(liE U A fl row (U.map h) (some (dI row, false)) (some (dI (U.map h), false)) (some (.dct (knD A), true)) (some (dAs t, false)) (some (.int (up t), false)) (some (.int (dn t), false)) (some (.dct (hd U h), true)) none).set 15 (some (dA a, false)), by simp [wip], by simp [wip], by
          have g1 := hd_get (h := h) (hAU a ha).1
          have g2 := hd_get (h := h) (hAU a ha).2
          unfold ld at g1
          unfold th at g2
          simp [hsm, g1, g2, hd_k, rst, nm, ld, th]⟩) (fun r h => back_own h (by simp [keepS])) sA
      have em := lc_all (C := callN T1 w (k + 2)) (e := (.ite (.u .tru (.p 2)) (.b .ge (.p 18) (.c (.int 0))) (.b .le (.p 18) (.c (.int 0))))) (k := 0) (t := .n 18) (a := [(.v 11)]) (own := [12, 18]) (st := ⟨liE U A fl row (U.map h) (some (dI row, false)) (some (dI (U.map h), false)) (some (.dct (knD A), true)) (some (dAs t, false)) (some (.int (up t), false)) (some (.int (dn t), false)) (some (.dct (hd U h), true)) (some (.lst (A.map fun a => .int (rst t h a)), false)), g⟩) (ds := [.lst (A.map fun a => .int (rst t h a))]) A (fun a => .int (rst t h a)) (fun a => .bl (if fl then decide (0 ≤ rst t h a) else decide (rst t h a ≤ 0))) (by simp) (by simp)
        (fun a ha => ⟨(liE U A fl row (U.map h) (some (dI row, false)) (some (dI (U.map h), false)) (some (.dct (knD A), true)) (some (dAs t, false)) (some (.int (up t), false)) (some (.int (dn t), false)) (some (.dct (hd U h), true)) (some (.lst (A.map fun a => .int (rst t h a)), false))).set 18 (some (.int (rst t h a), false)), by simp [wip], by simp [wip], by cases fl <;> simp⟩) (fun r h => back_own h (by simp [keepS])) sA
      have ems := lc_shift (C := callN T1 w (k + 2)) (e := (.ite (.u .tru (.p 2)) (.b .ge (.p 18) (.c (.int 0))) (.b .le (.p 18) (.c (.int 0))))) (kd := 0) (t := .n 18) (a := [(.v 11)]) (ifs := []) (own := [12, 18]) (st := ⟨liE U A fl row (U.map h) (some (dI row, false)) (some (dI (U.map h), false)) (some (.dct (knD A), true)) (some (dAs t, false)) (some (.int (up t), false)) (some (.int (dn t), false)) (some (.dct (hd U h), true)) (some (.lst (A.map fun a => .int (rst t h a)), true)), g⟩) (st1 := ⟨liE U A fl row (U.map h) (some (dI row, false)) (some (dI (U.map h), false)) (some (.dct (knD A), true)) (some (dAs t, false)) (some (.int (up t), false)) (some (.int (dn t), false)) (some (.dct (hd U h), true)) (some (.lst (A.map fun a => .int (rst t h a)), false)), g⟩) (ds := [.lst (A.map fun a => .int (rst t h a))]) (by simp) (by simp)
      rw [em] at ems
      have hb2 := bools_map A fun a => (if fl then decide (0 ≤ rst t h a) else decide (rst t h a ≤ 0))
      have ha2 := all_id A fun a => (if fl then decide (0 ≤ rst t h a) else decide (rst t h a ≤ 0))
      have hres : restB fl A t h = A.all fun a => (if fl then decide (0 ≤ rst t h a) else decide (rst t h a ≤ 0)) := rfl
      rw [hres]
      simp [-List.map_map, -List.map_append, F__law_is_mean_paper, ea, eb, bools, bl_true, al_true, al_tt, hl0, h0, ec, ed, ef, hbs, hai, h1, hfl, egs, hbz, haz, ei, esum, elow, ej, ek, el, ems, hb2, ha2]
  · rw [Bool.not_eq_true] at h1
    have hj0 : jd fl A row h = false := by
      unfold jd turnB
      rw [h1]
      simp
    simp [-List.map_map, -List.map_append, F__law_is_mean_paper, ea, eb, bools, bl_true, al_true, al_tt, hl0, h0, ec, ed, ef, hbs, hai, h1, hj0]
end
end Hd
end
section
set_option maxHeartbeats 4000000
/-! the paper found is one -/
namespace Hd
open PySem WW MM
section
variable {U : List Int} {A : List Ar}
theorem kn_self : ∀ {A : List Ar}, (A.map (·.1)).Nodup → ∀ a ∈ A, kn A a.1 = some a
  | [], _, a, ha => by simp at ha
  | b :: A, nd, a, ha => by
    rw [List.map_cons, List.nodup_cons] at nd
    unfold kn
    rw [List.find?_cons]
    rcases List.mem_cons.mp ha with rfl | ha
    · simp
    · have ne : ¬ b.1 = a.1 := fun e => nd.1 (by rw [e]; exact List.mem_map.mpr ⟨a, ha, rfl⟩)
      simp only [ne, decide_false]
      exact kn_self nd.2 a ha
theorem ka_self (nd : (A.map (·.1)).Nodup) {a : Ar} (ha : a ∈ A) : ka A a.1 = a := by unfold ka; rw [kn_self nd a ha]; rfl
theorem clB_of : ∀ {l : List Ar} {p : Int}, Chain l → (∀ a, l.head? = some a → ld a = p) → clB p l = true
  | [], _, _, _ => rfl
  | [a], p, _, h => by simp [clB, h a rfl]
  | a :: b :: l, p, c, h => by
    have e := h a rfl
    show (decide (ld a = p) && clB (th a) (b :: l)) = true
    rw [clB_of c.2 fun x hx => by cases hx; exact c.1.symm]
    simp [e]
theorem clo_of {l : List Ar} (r : Round A l) : clo l = true := by
  unfold clo lastT
  refine clB_of r.ch fun a ha => ?_
  cases hl : l.getLast? with
  | none => 
    rw [List.getLast?_eq_none_iff.mp hl] at ha
    cases ha
  | some b => exact (r.cl b a hl ha).symm
theorem turn_turn (a : Ar) : turnA (turnA a) = a := by simp [turnA]
theorem chain_turn : ∀ {l : List Ar}, Chain l → Chain (l.map turnA)
  | [], _ => trivial
  | [a], _ => trivial
  | a :: b :: l, c => ⟨c.1, chain_turn c.2⟩
theorem round_turn {t : List Ar} (r : Round (A.map turnA) t) : Round A (t.map turnA) := by
  refine ⟨by simpa using r.ne, fun a ha => ?_, chain_turn r.ch, fun a b ha hb => ?_⟩
  · obtain ⟨b, hb, rfl⟩ := List.mem_map.mp ha
    obtain ⟨c, hc, rfl⟩ := List.mem_map.mp (r.mem b hb)
    rw [turn_turn]
    exact hc
  · rw [List.getLast?_map] at ha
    rw [List.head?_map] at hb
    obtain ⟨x, hx, rfl⟩ := Option.map_eq_some_iff.mp ha
    obtain ⟨y, hy, rfl⟩ := Option.map_eq_some_iff.mp hb
    exact r.cl x y hx hy
theorem sm_turn (t : List Ar) : sm (t.map turnA) = -sm t := by
  unfold sm
  induction t with
  | nil => rfl
  | cons a t ih =>
    rw [List.map_cons, List.map_cons, List.sum_cons, ih, List.map_cons, List.sum_cons]
    show -(nm a) + _ = _
    omega
theorem up_turn (t : List Ar) : up (t.map turnA) = -up t ∧ dn (t.map turnA) = dn t := by
  have eg : lwg (-sm t) t.length = lwg (sm t) t.length := by unfold lwg; rw [Int.neg_gcd]
  unfold up dn
  rw [sm_turn, List.length_map, eg]
  exact ⟨Int.neg_ediv_of_dvd (by unfold lwg; exact Int.gcd_dvd_left ..), rfl⟩
theorem paper_facts (nd : (A.map (·.1)).Nodup) {fl : Bool} {t : List Ar} {h : Int → Int} (le : Least (tn fl A) t h) : ∃ t', t.map (·.1) = t'.map (·.1) ∧ Round A t' ∧ t'.length = t.length ∧ up t' = sgn fl * up t ∧ dn t' = dn t ∧ jd fl A (t.map (·.1)) (fun u => sgn fl * h u) = true := by
  have main : ∀ t' : List Ar, t.map (·.1) = t'.map (·.1) → Round A t' → (∀ a ∈ A, if fl then 0 ≤ rst t' (fun u => sgn fl * h u) a else rst t' (fun u => sgn fl * h u) a ≤ 0) → jd fl A (t.map (·.1)) (fun u => sgn fl * h u) = true := fun t' e r hrest => by
    rw [e]
    have hk : (t'.map (·.1)).map (ka A) = t' := by
      rw [List.map_map]
      have : ∀ a ∈ t', (ka A ∘ (·.1)) a = id a := fun a ha => ka_self nd (r.mem a ha)
      rw [List.map_congr_left this, List.map_id]
    have h1 : (t'.map (·.1)).isEmpty = false := by
      have := r.ne
      cases t' <;> simp_all
    have h2 : (t'.map (·.1)).all (fun i => (kn A i).isSome) = true := List.all_eq_true.mpr fun i hi => by
      obtain ⟨a, ha, rfl⟩ := List.mem_map.mp hi
      rw [kn_self nd a (r.mem a ha)]
      rfl
    unfold jd turnB
    rw [hk, h1, h2, clo_of r]
    show restB fl A t' _ = true
    unfold restB
    refine List.all_eq_true.mpr fun a ha => ?_
    have := hrest a ha
    cases fl <;> simpa using this
  cases fl with
  | true =>
    refine ⟨t, rfl, le.r, rfl, ?_, rfl, main t rfl le.r fun a ha => ?_⟩
    · simp [sgn]
    · have p : h (th a) ≤ h (ld a) + (nm a * dn t - up t) := le.p a ha
      simp only [sgn, rst, if_true, Int.one_mul]
      omega
  | false =>
    have r' : Round A (t.map turnA) := round_turn le.r
    obtain ⟨e1, e2⟩ := up_turn t
    have ei : t.map (·.1) = (t.map turnA).map (·.1) := by rw [List.map_map]; rfl
    refine ⟨t.map turnA, ei, r', List.length_map .., by rw [e1]; simp [sgn, Int.neg_mul], e2, main _ ei r' fun a ha => ?_⟩
    have p : h (th a) ≤ h (ld a) + (-(nm a) * dn t - up t) := le.p (turnA a) (List.mem_map.mpr ⟨a, ha, rfl⟩)
    rw [Int.neg_mul] at p
    simp only [sgn, rst, e1, e2, Bool.false_eq_true, if_false, Int.neg_mul, Int.one_mul]
    omega
end
end Hd
end
section
set_option maxHeartbeats 4000000
/-! the same, copied, judged -/
namespace Hd
open PySem WW MM
def atD (d : D) : Prop := (∃ i, d = .int i) ∨ ∃ b, d = .bl b
def SD : Nat → D → Prop
  | 0, d => atD d
  | m + 1, d => atD d ∨ ∃ l, isSq d l ∧ l.length ≤ 1000 ∧ ∀ x ∈ l, SD m x
theorem SD.ok {m : Nat} {d : D} (h : SD m d) : okD d := by
  cases m with
  | zero => rcases h with ⟨i, rfl⟩ | ⟨b, rfl⟩ <;> exact ⟨rfl, rfl⟩
  | succ m => rcases h with (⟨i, rfl⟩ | ⟨b, rfl⟩) | ⟨l, rfl | rfl, _⟩ <;> exact ⟨rfl, rfl⟩
section
variable {a b : Bool} {l : List D}
@[simp] theorem o_neB : bF .ne (.bl a) (.bl b) = some (.bl (a != b), false) := by cases a <;> cases b <;> rfl
@[simp] theorem isi_lL : uF (.isi [.list]) (.lst l) = some (.bl true, false) := rfl
@[simp] theorem isi_lT : uF (.isi [.list]) (.tup l) = some (.bl false, false) := rfl
@[simp] theorem isi_tL : uF (.isi [.tuple]) (.lst l) = some (.bl false, false) := rfl
@[simp] theorem isi_tT : uF (.isi [.tuple]) (.tup l) = some (.bl true, false) := rfl
@[simp] theorem isi_dL : uF (.isi [.dict]) (.lst l) = some (.bl false, false) := rfl
@[simp] theorem isi_dT : uF (.isi [.dict]) (.tup l) = some (.bl false, false) := rfl
end
section
variable {w k : Nat} {g : G}
theorem same_i {i j : Int} : (callN T1 w (k + 1)).f "_law_same" [.int i, .int j] g = some (.bl (decide (i = j)), false, g) := by kernel_rfl
theorem same_b {a b : Bool} : (callN T1 w (k + 1)).f "_law_same" [.bl a, .bl b] g = some (.bl (a == b), false, g) := by
  cases a <;> cases b <;> kernel_rfl
theorem evs2 {C : Cl} {r : WW.Env} {i j : Nat} {x y : D} (h : r[i]? = some (some (x, false))) (o : okD x) (h2 : r[j]? = some (some (y, false))) (o2 : okD y) : evs C [.v i, .v j] ⟨r, g⟩ = some ([x, y], ⟨r, g⟩) := by
  show (toE (ev C (.v i) ⟨r, g⟩)).bind (fun (d, _, s1) => (evs C [.v j] s1).map fun (ds, s2) => (d :: ds, s2)) = _
  rw [ev_v h o]
  show Option.map _ ((toE (ev C (.v j) ⟨r, g⟩)).bind (fun (d, _, s1) => (evs C [] s1).map fun (ds, s2) => (d :: ds, s2))) = _
  rw [ev_v h2 o2]
  rfl
theorem same_self : ∀ {m : Nat} {d : D}, SD m d → ∀ {k : Nat} {g : G}, (callN T1 w (k + m + 1)).f "_law_same" [d, d] g = some (.bl true, false, g) := by
  intro m
  induction m with
  | zero =>
    intro d h k g
    rcases h with ⟨i, rfl⟩ | ⟨b, rfl⟩
    · rw [same_i]; simp
    · rw [same_b]; simp
  | succ m ih =>
    intro d h k g
    rcases h with (⟨i, rfl⟩ | ⟨b, rfl⟩) | ⟨l, hd, hl, hx⟩
    · rw [same_i]; simp
    · rw [same_b]; simp
    · have sl : l.length ≤ sizeLine := Nat.le_trans hl (by decide)
      have zz : zip2 l l = l.map fun x => .tup [x, x] := by
        have := zip2_same (f := id) (h := id) l
        rw [List.map_id] at this
        exact this
      have hlc := lc_all (C := callN T1 w (k + m + 1)) (e := (.call ("_law_same" : Str) [(.v 3), (.v 4)])) (k := 3) (t := .t [(.n 3), (.n 4)]) (a := [(.v 0), (.v 1)]) (own := [2, 3, 4]) (st := ⟨[some (d, false), some (d, false), none, none, none], g⟩) (ds := [d, d]) l (fun x => .tup [x, x]) (fun _ => .bl true) (by rcases hd with rfl | rfl <;> simp) (by rw [walk3 hd hd, zz])
        (fun x hx' => ⟨[some (d, false), some (d, false), none, some (x, false), some (x, false)], by simp [wip], by simp [wip], false, by
          rw [z_call, evs2 (i := 3) (j := 4) (x := x) (y := x) rfl (hx x hx').ok rfl (hx x hx').ok, Option.bind_some, ih (hx x hx')]
          rfl⟩) (fun r h => back_own h (by rcases hd with rfl | rfl <;> simp [keepS])) sl
      show (callN T1 w ((k + m + 1) + 1)).f "_law_same" [d, d] g = _
      rw [c__law_same]
      refine runF_of ⟨rfl, by decide⟩ ?_
      show evSs _ _ _ ⟨[some (d, false), some (d, false), none, none, none], g⟩ = _
      rcases hd with rfl | rfl <;> simp [-List.map_map, F__law_same, hlc, bl_true, al_true, al_tt]
theorem copied_i {i : Int} : (callN T1 w (k + 1)).f "_law_copied" [.int i] g = some (.int i, false, g) := by kernel_rfl
theorem copied_b {b : Bool} : (callN T1 w (k + 1)).f "_law_copied" [.bl b] g = some (.bl b, false, g) := by kernel_rfl
theorem copied_self : ∀ {m : Nat} {d : D}, SD m d → ∀ {k : Nat} {g : G}, (callN T1 w (k + m + 1)).f "_law_copied" [d] g = some (d, false, g) := by
  intro m
  induction m with
  | zero =>
    intro d h k g
    rcases h with ⟨i, rfl⟩ | ⟨b, rfl⟩
    · exact copied_i
    · exact copied_b
  | succ m ih =>
    intro d h k g
    rcases h with (⟨i, rfl⟩ | ⟨b, rfl⟩) | ⟨l, hd, hl, hx⟩
    · exact copied_i
    · exact copied_b
    · have sl : l.length ≤ sizeLine := Nat.le_trans hl (by decide)
      have hlc := lc_all (C := callN T1 w (k + m + 1)) (e := (.call ("_law_copied" : Str) [(.v 4)])) (k := 0) (t := .n 4) (a := [(.v 0)]) (own := [2, 4]) (st := ⟨[some (d, false), none, none, none, none], g⟩) (ds := [d]) l id id (by rcases hd with rfl | rfl <;> simp) (by rcases hd with rfl | rfl <;> simp)
        (fun x hx' => ⟨[some (d, false), none, none, none, some (x, false)], by simp [wip], by simp [wip], false, by
          have e : evs (callN T1 w (k + m + 1)) [.v 4] ⟨[some (d, false), none, none, none, some (x, false)], g⟩ = some ([x], ⟨[some (d, false), none, none, none, some (x, false)], g⟩) := by
            show (toE (ev _ (.v 4) _)).bind (fun (d, _, s1) => (evs _ [] s1).map fun (ds, s2) => (d :: ds, s2)) = _
            rw [ev_v (i := 4) (x := x) rfl (hx x hx').ok]
            rfl
          rw [z_call, e, Option.bind_some, ih (hx x hx')]
          rfl⟩) (fun r h => back_own h (by rcases hd with rfl | rfl <;> simp [keepS])) sl
      rw [List.map_id] at hlc
      show (callN T1 w ((k + m + 1) + 1)).f "_law_copied" [d] g = _
      rw [c__law_copied]
      refine runF_of ⟨rfl, by decide⟩ ?_
      show evSs _ _ _ ⟨[some (d, false), none, none, none, none], g⟩ = _
      rcases hd with rfl | rfl <;> simp [F__law_copied, hlc, sl]
theorem sd_dI {l : List Int} (h : l.length ≤ 1000) : SD 1 (dI l) := .inr ⟨_, .inr rfl, by rw [List.length_map]; exact h, fun x hx => by
  obtain ⟨i, _, rfl⟩ := List.mem_map.mp hx
  exact .inl ⟨i, rfl⟩⟩
theorem sd_pair {row hs : List Int} (h1 : row.length ≤ 1000) (h2 : hs.length ≤ 1000) : SD 2 (.tup [dI row, dI hs]) := .inr ⟨_, .inl rfl, by show 2 ≤ 1000; decide, fun x hx => by
  simp only [List.mem_cons, List.not_mem_nil, or_false] at hx
  rcases hx with rfl | rfl
  · exact sd_dI h1
  · exact sd_dI h2⟩
/-! any heights -/
def hOf (U hs : List Int) (v : Int) : Int := (((U.zip hs).find? fun p => decide (p.1 = v)).map (·.2)).getD 0
theorem hOf_ok : ∀ {U hs : List Int}, U.Nodup → hs.length = U.length → hs = U.map (hOf U hs)
  | [], [], _, _ => rfl
  | u :: U, x :: hs, nd, hl => by
    rw [List.nodup_cons] at nd
    have ih := hOf_ok nd.2 (by simpa using hl)
    rw [List.map_cons]
    have e1 : hOf (u :: U) (x :: hs) u = x := by simp [hOf]
    have e2 : ∀ v ∈ U, hOf (u :: U) (x :: hs) v = hOf U hs v := fun v hv => by
      have ne : ¬ u = v := fun e => nd.1 (by rw [e]; exact hv)
      simp [hOf, ne]
    rw [e1, List.map_congr_left e2, ← ih]
def jj (fl : Bool) (U : List Int) (A : List Ar) (p : List Int × List Int) : Bool := decide (p.2.length = U.length) && jd fl A p.1 (hOf U p.2)
abbrev pD (p : List Int × List Int) : D := .tup [dI p.1, dI p.2]
section
variable {U : List Int} {A : List Ar} (hU : U.Nodup) (hU2 : U.length ≤ 10) (hAU : ∀ a ∈ A, ld a ∈ U ∧ th a ∈ U) (nd : (A.map (·.1)).Nodup) (hA : A.length ≤ 1000) {p : List Int × List Int} (hr : p.1.length ≤ 1000) (hh : p.2.length ≤ 1000) (hw : 10000 ≤ w) {fl : Bool}
include hU hU2 hAU nd hA hr hh hw
theorem is_any : (callN T1 w (k + 3)).f "is_paper_of" [dI U, dAs A, .bl fl, pD p] g = some (.bl (jj fl U A p), false, g) := by
  unfold jj
  by_cases hl : p.2.length = U.length
  · have e := hOf_ok hU hl
    have := is_paper_ok (w := w) (k := k) (g := g) hU hU2 hAU nd hA hr hw (h := hOf U p.2) (fl := fl)
    rw [← e] at this
    rw [decide_eq_true hl]
    exact this
  · rw [decide_eq_false hl]
    exact is_paper_ne nd hA hr hl
theorem law_any : (callN T1 w (k + 3)).f "_law_is_mean_paper" [dI U, dAs A, .bl fl, pD p] g = some (.bl (jj fl U A p), false, g) := by
  unfold jj
  by_cases hl : p.2.length = U.length
  · have e := hOf_ok hU hl
    have := law_is_ok (w := w) (k := k) (g := g) hU hU2 hAU nd hA hr hw (h := hOf U p.2) (fl := fl)
    rw [← e] at this
    rw [decide_eq_true hl]
    exact this
  · rw [decide_eq_false hl]
    exact law_is_ne hr hh hl
end
end
end Hd
end
section
set_option maxHeartbeats 4000000
/-! _law_paper_right -/
namespace Hd
open PySem WW MM
abbrev prE (c due mine : D) (fl : Bool) (x5 x6 x7 x8 x9 x10 x11 x12 : Option (D × Bool)) : WW.Env := [some (.strm, false), some (c, false), some (.bl fl, false), some (due, false), some (mine, false), x5, x6, x7, x8, x9, x10, x11, x12, none, none, none, none]
abbrev arrL : E := (.lc (.tup [(.v 14), (.b .idx (.p 15) (.c (.int 0))), (.b .idx (.p 15) (.c (.int 2))), (.b .idx (.p 15) (.c (.int 3)))]) 2 (.t [(.n 14), (.n 15)]) [(.b .idx (.p 1) (.c (.int 3)))] [(.and (.b .isin (.b .idx (.p 15) (.c (.int 0))) (.p 5)) (.b .isin (.b .idx (.p 15) (.c (.int 3))) (.p 5)))] [13, 14, 15])
section
variable {k n : Nat} {g : G} {R : List (List Int)} {s x : Int}
theorem f_arrows (h : Shp R) {C : Cl} {due mine : D} {fl : Bool} : ev C arrL ⟨prE (cD R s (srt R x)) due mine fl (some (dI (us R), true)) none none none none none none none, g⟩ = some (.inr (dAs (ars R x)), true, ⟨prE (cD R s (srt R x)) due mine fl (some (dI (us R), true)) none none none none none none none, g⟩) := by
  cases h <;> kernel_rfl
theorem f_aarrows (h : Shp R) {C : Cl} {due mine : D} {fl : Bool} : ev C arrL ⟨prE (cD R s (alo (srt R x))) due mine fl (some (.lst [.int 0], true)) none none none none none none none, g⟩ = some (.inr (.lst []), true, ⟨prE (cD R s (alo (srt R x))) due mine fl (some (.lst [.int 0], true)) none none none none none none none, g⟩) := by
  cases h <;> kernel_rfl
theorem cut_lo (l : List D) (r : Nat) (h : r ≤ l.length) : cutD l none (some (r : Int)) = l.take r := by
  unfold cutD
  rw [show HT.sIx l.length l.length (some (r : Int)) = min r l.length from HT.sIx_nat l.length l.length r, HT.sIx_none, Nat.min_eq_left h]
  simp
theorem cut_hi (l : List D) (r : Nat) (h : r ≤ l.length) : cutD l (some (r : Int)) none = l.drop r := by
  unfold cutD
  rw [show HT.sIx l.length 0 (some (r : Int)) = min r l.length from HT.sIx_nat l.length 0 r, HT.sIx_none, Nat.min_eq_left h]
  rw [List.take_of_length_le (by rw [List.length_drop]; omega)]
end
end Hd
end
section
set_option maxHeartbeats 4000000
/-! _law_paper_right where a round is -/
namespace Hd
open PySem WW MM
section
variable {k n : Nat} {g : G} {R : List (List Int)} {s x : Int}
theorem ars_nd : ((ars R x).map (·.1)).Nodup := ar_nd.2
theorem numbers_ok {t' : List Ar} (hr : ∀ a ∈ t', a ∈ ars R x) (ht : t'.length ≤ 1000) {C : Cl} {due mine : D} {fl : Bool} {hs : List Int} {x5 x6 : Option (D × Bool)} : ev C (.lc (.b .idx (.b .idx (.b .idx (.p 1) (.c (.int 3))) (.p 14)) (.c (.int 2))) 0 (.n 14) [(.b .idx (.p 7) (.c (.int 0)))] [] [13, 14]) ⟨prE (cD R s (srt R x)) due mine fl x5 x6 (some (.tup [dI (t'.map (·.1)), dI hs], false)) none none none none none, g⟩ =
    some (.inr (.lst (t'.map fun a => .int (nm a))), true, ⟨prE (cD R s (srt R x)) due mine fl x5 x6 (some (.tup [dI (t'.map (·.1)), dI hs], false)) none none none none none, g⟩) :=
  lc_all (C := C) (e := (.b .idx (.b .idx (.b .idx (.p 1) (.c (.int 3))) (.p 14)) (.c (.int 2)))) (k := 0) (t := .n 14) (a := [(.b .idx (.p 7) (.c (.int 0)))]) (own := [13, 14]) (st := ⟨prE (cD R s (srt R x)) due mine fl x5 x6 (some (.tup [dI (t'.map (·.1)), dI hs], false)) none none none none none, g⟩) (ds := [dI (t'.map (·.1))]) t' (fun a => .int a.1) (fun a => .int (nm a)) (by simp [-List.map_map]) (by
      show some ((t'.map (·.1)).map D.int) = _
      rw [List.map_map]
      rfl)
    (fun a ha => ⟨(prE (cD R s (srt R x)) due mine fl x5 x6 (some (.tup [dI (t'.map (·.1)), dI hs], false)) none none none none none).set 14 (some (.int a.1, false)), by simp [wip], by simp [wip], by
      obtain ⟨i, h1, m, h2, h3⟩ := ar_idx a (hr a ha)
      rw [Int.zero_add] at h1
      have h4 : L2.atI ((srt R x).map dA) (i : Int) = some (dA m) := L2.atI_nat (by rw [List.getElem?_map, h2]; rfl)
      rw [h1]
      simp [cD, h4, h3]⟩) (fun r h => back_own h (by simp [keepS, cD])) (Nat.le_trans ht (by decide))
abbrev S11 : S := (.asg (.n 12) (.lc (.call ("is_mean_paper" : Str) [(.v 4), (.v 2), (.call ("_law_copied" : Str) [(.v 16)])]) 0 (.n 16) [(.b .add (.lst [(.v 7)]) (.p 11))] [] [13, 16]))
abbrev S12 : S := (.ret (.call ("_law_same" : Str) [(.v 12), (.b .add (.lst [(.c (.bl true))]) (.lc (.call ("_law_is_mean_paper" : Str) [(.v 5), (.v 6), (.v 2), (.v 16)]) 0 (.n 16) [(.v 11)] [] [13, 16]))]))
theorem pr_tail {c due mine : D} {fl : Bool} {U : List Int} {A : List Ar} {x8 x10 : Option (D × Bool)} {p0 : List Int × List Int} {ps : List (List Int × List Int)} {hs : List Int} (hok : okD mine) (hl : ps.length ≤ 100)
    (all5 : ∀ p ∈ p0 :: ps, p.1.length ≤ 1000 ∧ p.2.length ≤ 1000)
    (isany : ∀ p ∈ p0 :: ps, (callN T1 W0 (k + 7)).f "is_mean_paper" [mine, .bl fl, pD p] g = some (.bl (jj fl U A p), false, g))
    (lawany : ∀ p ∈ p0 :: ps, (callN T1 W0 (k + 7)).f "_law_is_mean_paper" [dI U, dAs A, .bl fl, pD p] g = some (.bl (jj fl U A p), false, g)) (jtrue : jj fl U A p0 = true) :
    evSs (callN T1 W0 (k + 7)) W0 [S11, S12] ⟨prE c due mine fl (some (dI U, false)) (some (dAs A, false)) (some (pD p0, false)) x8 (some (dI hs, false)) x10 (some (.lst (ps.map pD), true)) none, g⟩ = some (.ret (.bl true) false g) := by
  have sz : ps.length ≤ sizeLine := Nat.le_trans hl (by decide)
  have sz1 : (p0 :: ps).length ≤ sizeLine := by rw [List.length_cons]; exact Nat.le_trans (show ps.length + 1 ≤ 200 by omega) (by decide)
  have sz2 : 1 + ps.length ≤ sizeLine := Nat.le_trans (show 1 + ps.length ≤ 200 by omega) (by decide)
  have eadd0 : bF .add (.lst [pD p0]) (.lst (ps.map pD)) = some (.lst ((p0 :: ps).map pD), true) := by
    rw [o_addL, List.length_map, if_pos (show [pD p0].length + ps.length ≤ sizeLine from sz2)]
    rfl
  generalize hfin : (fun x11 x12 => prE c due mine fl (some (dI U, false)) (some (dAs A, false)) (some (pD p0, false)) x8 (some (dI hs, false)) x10 x11 x12) = fin
  have hf : ∀ x11 x12, fin x11 x12 = prE c due mine fl (some (dI U, false)) (some (dAs A, false)) (some (pD p0, false)) x8 (some (dI hs, false)) x10 x11 x12 := fun x11 x12 => by rw [← hfin]
  have hst : (⟨prE c due mine fl (some (dI U, false)) (some (dAs A, false)) (some (pD p0, false)) x8 (some (dI hs, false)) x10 (some (.lst (ps.map pD), true)) none, g⟩ : WW.St) = ⟨fin (some (.lst (ps.map pD), true)) none, g⟩ := by rw [hf]
  rw [hst]
  have elc1 := lc_all (C := callN T1 W0 (k + 7)) (e := (.call ("is_mean_paper" : Str) [(.v 4), (.v 2), (.call ("_law_copied" : Str) [(.v 16)])])) (k := 0) (t := .n 16) (a := [(.b .add (.lst [(.v 7)]) (.p 11))]) (own := [13, 16]) (st := ⟨fin (some (.lst (ps.map pD), true)) none, g⟩) (ds := [.lst ((p0 :: ps).map pD)]) (p0 :: ps) pD (fun p => .bl (jj fl U A p)) (by
      rw [hf]
      simp [-List.map_map, -List.map_cons, -o_addL, eadd0]) (by simp)
    (fun p hp => ⟨(fin (some (.lst (ps.map pD), true)) none).set 16 (some (pD p, false)), by rw [hf]; simp [wip], by rw [hf]; simp [wip], false, by
      have hcop : (callN T1 W0 (k + 7)).f "_law_copied" [pD p] g = some (pD p, false, g) := copied_self (m := 2) (k := k + 4) (sd_pair (all5 p hp).1 (all5 p hp).2)
      have his := isany p hp
      have e3 : evs (callN T1 W0 (k + 7)) [(.v 4), (.v 2), (.call ("_law_copied" : Str) [(.v 16)])] ⟨(fin (some (.lst (ps.map pD), true)) none).set 16 (some (pD p, false)), g⟩ = some ([mine, .bl fl, pD p], ⟨(fin (some (.lst (ps.map pD), true)) none).set 16 (some (pD p, false)), g⟩) := by
        rw [z_es1, ev_v (i := 4) (x := mine) (by rw [hf]; rfl) hok, z_toE, Option.bind_some]
        dsimp only
        rw [z_es1, ev_v (i := 2) (x := .bl fl) (by rw [hf]; rfl) ⟨rfl, rfl⟩, z_toE, Option.bind_some]
        dsimp only
        rw [z_es1, z_call]
        rw [z_es1, ev_v (i := 16) (x := pD p) (by rw [hf]; rfl) ⟨rfl, rfl⟩, z_toE, Option.bind_some]
        dsimp only
        rw [z_es0, Option.map_some, Option.bind_some]
        dsimp only
        rw [hcop]
        rfl
      rw [z_call, e3, Option.bind_some]
      dsimp only
      rw [his]
      rfl⟩) (fun r h => back_own h (by rw [hf]; simp [keepS])) sz1
  generalize hbs : (p0 :: ps).map (fun p => D.bl (jj fl U A p)) = bs at elc1
  have s11 : evS (callN T1 W0 (k + 7)) W0 S11 ⟨fin (some (.lst (ps.map pD), true)) none, g⟩ = some (.nx ⟨fin (some (.lst (ps.map pD), true)) (some (.lst bs, true)), g⟩) := by
    rw [z_asg, z_evE, elc1, hf, hf]
    rfl
  have elc2 := lc_all (C := callN T1 W0 (k + 7)) (e := (.call ("_law_is_mean_paper" : Str) [(.v 5), (.v 6), (.v 2), (.v 16)])) (k := 0) (t := .n 16) (a := [(.v 11)]) (own := [13, 16]) (st := ⟨fin (some (.lst (ps.map pD), false)) (some (.lst bs, false)), g⟩) (ds := [.lst (ps.map pD)]) ps pD (fun p => .bl (jj fl U A p)) (by rw [hf]; rfl) rfl
    (fun p hp => ⟨(fin (some (.lst (ps.map pD), false)) (some (.lst bs, false))).set 16 (some (pD p, false)), by rw [hf]; simp [wip], by rw [hf]; simp [wip], false, by
      have his := lawany p (List.mem_cons_of_mem _ hp)
      have e3 : evs (callN T1 W0 (k + 7)) [(.v 5), (.v 6), (.v 2), (.v 16)] ⟨(fin (some (.lst (ps.map pD), false)) (some (.lst bs, false))).set 16 (some (pD p, false)), g⟩ = some ([dI U, dAs A, .bl fl, pD p], ⟨(fin (some (.lst (ps.map pD), false)) (some (.lst bs, false))).set 16 (some (pD p, false)), g⟩) := by rw [hf]; rfl
      rw [z_call, e3, Option.bind_some]
      dsimp only
      rw [his]
      rfl⟩) (fun r h => back_own h (by rw [hf]; simp [keepS])) sz
  have elc2s := lc_shift (C := callN T1 W0 (k + 7)) (e := (.call ("_law_is_mean_paper" : Str) [(.v 5), (.v 6), (.v 2), (.v 16)])) (kd := 0) (t := .n 16) (a := [(.v 11)]) (ifs := []) (own := [13, 16]) (st := ⟨fin (some (.lst (ps.map pD), true)) (some (.lst bs, false)), g⟩) (st1 := ⟨fin (some (.lst (ps.map pD), false)) (some (.lst bs, false)), g⟩) (ds := [.lst (ps.map pD)]) (by rw [hf, hf]; rfl) (by rw [hf]; rfl)
  rw [elc2] at elc2s
  have bl5 : bs.length ≤ 1000 := by rw [← hbs, List.length_map, List.length_cons]; omega
  have elast : (callN T1 W0 (k + 7)).f "_law_same" [.lst bs, .lst bs] g = some (.bl true, false, g) := same_self (m := 1) (k := k + 5) (.inr ⟨_, .inr rfl, bl5, fun x hx => by
    rw [← hbs] at hx
    obtain ⟨p, _, rfl⟩ := List.mem_map.mp hx
    exact .inr ⟨_, rfl⟩⟩)
  have e0 : ev (callN T1 W0 (k + 7)) (.v 12) ⟨fin (some (.lst (ps.map pD), true)) (some (.lst bs, true)), g⟩ = some (.inr (.lst bs), false, ⟨fin (some (.lst (ps.map pD), true)) (some (.lst bs, false)), g⟩) := by rw [hf, hf]; rfl
  have ebl : ev (callN T1 W0 (k + 7)) (.lst [(.c (.bl true))]) ⟨fin (some (.lst (ps.map pD), true)) (some (.lst bs, false)), g⟩ = some (.inr (.lst [.bl true]), true, ⟨fin (some (.lst (ps.map pD), true)) (some (.lst bs, false)), g⟩) := rfl
  have eadd : bF .add (.lst [.bl true]) (.lst (ps.map fun p => .bl (jj fl U A p))) = some (.lst bs, true) := by
    rw [o_addL, List.length_map, if_pos (show [D.bl true].length + ps.length ≤ sizeLine from sz2), ← hbs, List.map_cons, jtrue]
    rfl
  have eb : ev (callN T1 W0 (k + 7)) (.b .add (.lst [(.c (.bl true))]) (.lc (.call ("_law_is_mean_paper" : Str) [(.v 5), (.v 6), (.v 2), (.v 16)]) 0 (.n 16) [(.v 11)] [] [13, 16])) ⟨fin (some (.lst (ps.map pD), true)) (some (.lst bs, false)), g⟩ = some (.inr (.lst bs), true, ⟨fin (some (.lst (ps.map pD), false)) (some (.lst bs, false)), g⟩) := by
    rw [z_b, ebl, Option.bind_some]
    dsimp only
    rw [elc2s, Option.bind_some]
    dsimp only
    rw [z_rsl, z_rsl, Option.bind_some, Option.bind_some, eadd]
    rfl
  have es : evs (callN T1 W0 (k + 7)) [(.v 12), (.b .add (.lst [(.c (.bl true))]) (.lc (.call ("_law_is_mean_paper" : Str) [(.v 5), (.v 6), (.v 2), (.v 16)]) 0 (.n 16) [(.v 11)] [] [13, 16]))] ⟨fin (some (.lst (ps.map pD), true)) (some (.lst bs, true)), g⟩ = some ([.lst bs, .lst bs], ⟨fin (some (.lst (ps.map pD), false)) (some (.lst bs, false)), g⟩) := by
    rw [z_es1, e0, z_toE, Option.bind_some]
    dsimp only
    rw [z_es1, eb]
    rfl
  have s12 : evS (callN T1 W0 (k + 7)) W0 S12 ⟨fin (some (.lst (ps.map pD), true)) (some (.lst bs, true)), g⟩ = some (.ret (.bl true) false g) := by
    show (evE _ _ _).map _ = _
    rw [z_evE, z_call, es, Option.bind_some]
    dsimp only
    rw [elast]
    rfl
  rw [z_ss1, s11, Option.bind_some]
  dsimp only
  rw [z_ss1, s12]
  rfl
theorem paper_right (h : Shp R) (hb : Bd R) (q : GOk n g) (hn : n + 200000 < 1000000000) {fl : Bool} {a b : Int} (hdue : ∀ t h', Least (tn fl (ars R x)) t h' → sgn fl * up t = a ∧ dn t = b) :
    ∃ f g', (callN T1 W0 (k + 8)).f "_law_paper_right" [.strm, cD R s (srt R x), .bl fl, .tup [.int a, .int b]] g = some (.bl true, f, g') ∧ GOk (n + 6001) g' := by
  obtain ⟨mine, g1, e1, hd, q1⟩ := loose_counter (w := W0) (k := k + 3) (c := lost R + 1) (s := s) (ms := srt R x) q hn (ctr_srt (x := x) h hb).l
  have hok : okD mine := by
    obtain ⟨l, hs⟩ := loc_sq hd
    rcases hs with rfl | rfl <;> exact ⟨rfl, rfl⟩
  have e1 : (callN T1 W0 (k + 7)).f "_law_loose" [.strm, cD R s (srt R x)] g = some (mine, false, g1) := e1
  have e2 : (callN T1 W0 (k + 7)).f "_law_counted" [cD R s (srt R x)] g1 = some (dI (us R), true, g1) := f_counted (k := k + 4) h
  obtain ⟨t, h', e4, le⟩ := mean_paper_ok (k := k) (g := g1) h hb hd fl
  obtain ⟨d1, d2⟩ := hdue t h' le
  have G0 := good_ars (x := x) h hb
  obtain ⟨t', ei, r', tl, u1, u2, hj⟩ := paper_facts (ars_nd (R := R) (x := x)) le
  have t10 : t'.length ≤ 10 := by rw [tl]; exact le.l
  obtain ⟨un, u10, u0⟩ := us_ok h
  have tl0 : 0 < t'.length := List.length_pos_iff.mpr r'.ne
  have hpd : paperD fl (us R) t h' = .tup [dI (t'.map (·.1)), dI ((us R).map fun u => sgn fl * h' u)] := by unfold paperD; rw [ei]
  rw [hpd] at e4
  rw [ei] at hj
  generalize hhs : (us R).map (fun u => sgn fl * h' u) = hs at e4
  have hl : hs.length = (us R).length := by rw [← hhs, List.length_map]
  have hrl : (t'.map (·.1)).length ≤ 10 := by rw [List.length_map]; exact t10
  generalize hrow : t'.map (·.1) = row at e4 hrl hj
  have lawany : ∀ (p : List Int × List Int) (g : G), p.1.length ≤ 1000 → p.2.length ≤ 1000 → (callN T1 W0 (k + 7)).f "_law_is_mean_paper" [dI (us R), dAs (ars R x), .bl fl, pD p] g = some (.bl (jj fl (us R) (ars R x) p), false, g) := fun p g h1 h2 => law_any (k := k + 4) un u10 G0.U ars_nd G0.m h1 h2 (by decide)
  have isany : ∀ (p : List Int × List Int) (g : G), p.1.length ≤ 1000 → p.2.length ≤ 1000 → (callN T1 W0 (k + 7)).f "is_mean_paper" [mine, .bl fl, pD p] g = some (.bl (jj fl (us R) (ars R x) p), false, g) := fun p g h1 h2 => is_paper_via h hb hd ⟨rfl, rfl⟩ (is_any (k := k + 3) un u10 G0.U ars_nd G0.m h1 h2 (by decide))
  have jtrue : jj fl (us R) (ars R x) (row, hs) = true := by
    have e := is_any (k := 0) (g := g) (w := W0) (fl := fl) (p := (row, hs)) un u10 G0.U (ars_nd (R := R) (x := x)) G0.m (by show row.length ≤ 1000; omega) (by show hs.length ≤ 1000; omega) (by decide)
    have e' := is_paper_ok (k := 0) (g := g) (w := W0) (fl := fl) (row := row) (h := fun u => sgn fl * h' u) un u10 G0.U (ars_nd (R := R) (x := x)) G0.m (by omega) (by decide)
    rw [hhs, hj] at e'
    have := e.symm.trans e'
    exact D.bl.inj (Prod.mk.inj (Option.some.inj this)).1
  obtain ⟨r, g2, c1, c2, c3, q2⟩ := draw_ok (w := W0) (k := k + 6) (m := ((us R).length : Int)) q1 (by omega) (by omega) (by omega)
  obtain ⟨i, rfl⟩ : ∃ i : Nat, r = (i : Int) := ⟨r.toNat, by omega⟩
  have hi : i < hs.length := by rw [hl]; omega
  have hul : (us R).length = hs.length := hl.symm
  rw [hul] at c1
  obtain ⟨y, hy⟩ : ∃ y, hs[i]? = some y := ⟨_, List.getElem?_eq_getElem hi⟩
  have hs10 : hs.length ≤ 10 := by rw [hl]; exact u10
  have hs0 : 0 < hs.length := by omega
  obtain ⟨hs', hhs'⟩ : ∃ hs', hs' = hs.take i ++ [y + 1000] ++ hs.drop (i + 1) := ⟨_, rfl⟩
  have hs'l : hs'.length ≤ 1000 := by
    rw [hhs']
    simp
    omega
  obtain ⟨ps, hps⟩ : ∃ ps : List (List Int × List Int), ps = [(row, hs'), (row, hs.drop 1), ([], hs), (row ++ row, hs)] := ⟨_, rfl⟩
  have psl : ∀ p ∈ ps, p.1.length ≤ 1000 ∧ p.2.length ≤ 1000 := fun p hp => by
    rw [hps] at hp
    simp only [List.mem_cons, List.not_mem_nil, or_false] at hp
    rcases hp with rfl | rfl | rfl | rfl
    · exact ⟨by show row.length ≤ 1000; omega, hs'l⟩
    · exact ⟨by show row.length ≤ 1000; omega, by show (hs.drop 1).length ≤ 1000; rw [List.length_drop]; omega⟩
    · exact ⟨Nat.zero_le _, by show hs.length ≤ 1000; omega⟩
    · exact ⟨by show (row ++ row).length ≤ 1000; rw [List.length_append]; omega, by show hs.length ≤ 1000; omega⟩
  have en := numbers_ok (R := R) (s := s) (x := x) r'.mem (by omega) (C := callN T1 W0 (k + 7)) (g := g1) (due := .tup [.int a, .int b]) (mine := mine) (fl := fl) (hs := hs) (x5 := some (dI (us R), false)) (x6 := some (dAs (ars R x), false))
  rw [hrow] at en
  have ear := f_arrows (s := s) (x := x) (g := g1) h (C := callN T1 W0 (k + 7)) (due := .tup [.int a, .int b]) (mine := mine) (fl := fl)
  generalize hc : cD R s (srt R x) = c at e1 e2 en ear ⊢
  have hcq : ∃ l, c = .tup l := ⟨_, hc.symm⟩
  clear hc
  have hrest : ∀ (st st2 : St) (S1 : S) (Ss : List S), evS (callN T1 W0 (k + 7)) W0 S1 st = some (.nx st2) → evSs (callN T1 W0 (k + 7)) W0 (S1 :: Ss) st = evSs (callN T1 W0 (k + 7)) W0 Ss st2 := fun st st2 S1 Ss e => by rw [z_ss1, e, Option.bind_some]
  have okc : okD c := by obtain ⟨l, rfl⟩ := hcq; exact ⟨rfl, rfl⟩
  refine ⟨false, g2, ?_, q2⟩
  rw [c__law_paper_right]
  refine runF_of ⟨rfl, by decide⟩ ?_
  show evSs _ _ F__law_paper_right.body ⟨[some (.strm, false), some (c, false), some (.bl fl, false), some (.tup [.int a, .int b], false), none, none, none, none, none, none, none, none, none, none, none, none, none], g⟩ = _
  have s1 : evS (callN T1 W0 (k + 7)) W0 (.par [4, 5] [(.call ("_law_loose" : Str) [(.v 0), (.v 1)]), (.call ("_law_counted" : Str) [(.v 1)])]) ⟨[some (.strm, false), some (c, false), some (.bl fl, false), some (.tup [.int a, .int b], false), none, none, none, none, none, none, none, none, none, none, none, none, none], g⟩ =
      some (.nx ⟨prE c (.tup [.int a, .int b]) mine fl (some (dI (us R), true)) none none none none none none none, g1⟩) := by
    obtain ⟨l, rfl⟩ := hcq
    simp [e1, e2]
  have s2 : evS (callN T1 W0 (k + 7)) W0 (.asg (.n 6) arrL) ⟨prE c (.tup [.int a, .int b]) mine fl (some (dI (us R), true)) none none none none none none none, g1⟩ =
      some (.nx ⟨prE c (.tup [.int a, .int b]) mine fl (some (dI (us R), true)) (some (dAs (ars R x), true)) none none none none none none, g1⟩) := by
    simp only [z_asg, z_evE, ear]
    simp
  have s3 : evS (callN T1 W0 (k + 7)) W0 (.asg (.n 7) (.call ("mean_paper" : Str) [(.v 4), (.v 2)])) ⟨prE c (.tup [.int a, .int b]) mine fl (some (dI (us R), true)) (some (dAs (ars R x), true)) none none none none none none, g1⟩ =
      some (.nx ⟨prE c (.tup [.int a, .int b]) mine fl (some (dI (us R), true)) (some (dAs (ars R x), true)) (some (pD (row, hs), false)) none none none none none, g1⟩) := by
    rw [z_asg, z_evE, z_call, evs2 (i := 4) (j := 2) (x := mine) (y := .bl fl) rfl hok rfl ⟨rfl, rfl⟩, Option.bind_some, e4]
    rfl
  have s4 : evS (callN T1 W0 (k + 7)) W0 (.ite (.b .ne (.u .isN (.p 7)) (.u .isN (.p 3))) [.ret (.c (.bl false))] []) ⟨prE c (.tup [.int a, .int b]) mine fl (some (dI (us R), true)) (some (dAs (ars R x), true)) (some (pD (row, hs), false)) none none none none none, g1⟩ =
      some (.nx ⟨prE c (.tup [.int a, .int b]) mine fl (some (dI (us R), true)) (some (dAs (ars R x), true)) (some (pD (row, hs), false)) none none none none none, g1⟩) := by
    simp
  have s5 : evS (callN T1 W0 (k + 7)) W0 (.ite (.u .isN (.p 3)) [.ret (.call ("_law_same" : Str) [(.call ("is_mean_paper" : Str) [(.v 4), (.v 2), (.tup [(.lst []), (.lst [])])]), (.c (.bl false))])] []) ⟨prE c (.tup [.int a, .int b]) mine fl (some (dI (us R), true)) (some (dAs (ars R x), true)) (some (pD (row, hs), false)) none none none none none, g1⟩ =
      some (.nx ⟨prE c (.tup [.int a, .int b]) mine fl (some (dI (us R), true)) (some (dAs (ars R x), true)) (some (pD (row, hs), false)) none none none none none, g1⟩) := by
    simp
  have l1 := lawany (row, hs) g1 (by show row.length ≤ 1000; omega) (by show hs.length ≤ 1000; omega)
  rw [jtrue] at l1
  have s6 : evS (callN T1 W0 (k + 7)) W0 (.ite (.or (.not (.u .tru (.u (.isi [.tuple]) (.p 7)))) (.not (.u .tru (.call ("_law_is_mean_paper" : Str) [(.v 5), (.v 6), (.v 2), (.v 7)])))) [.ret (.c (.bl false))] []) ⟨prE c (.tup [.int a, .int b]) mine fl (some (dI (us R), true)) (some (dAs (ars R x), true)) (some (pD (row, hs), false)) none none none none none, g1⟩ =
      some (.nx ⟨prE c (.tup [.int a, .int b]) mine fl (some (dI (us R), false)) (some (dAs (ars R x), false)) (some (pD (row, hs), false)) none none none none none, g1⟩) := by
    simp [-List.map_map, l1]
  have s7 : evS (callN T1 W0 (k + 7)) W0 (.asg (.n 8) (.lc (.b .idx (.b .idx (.b .idx (.p 1) (.c (.int 3))) (.p 14)) (.c (.int 2))) 0 (.n 14) [(.b .idx (.p 7) (.c (.int 0)))] [] [13, 14])) ⟨prE c (.tup [.int a, .int b]) mine fl (some (dI (us R), false)) (some (dAs (ars R x), false)) (some (pD (row, hs), false)) none none none none none, g1⟩ =
      some (.nx ⟨prE c (.tup [.int a, .int b]) mine fl (some (dI (us R), false)) (some (dAs (ars R x), false)) (some (pD (row, hs), false)) (some (.lst (t'.map fun a => .int (nm a)), true)) none none none none, g1⟩) := by
    simp only [z_asg, z_evE, en]
    simp
  have esum := sum_map t' nm
  have elow : (callN T1 W0 (k + 7)).f "_law_lowest" [.int (t'.map nm).sum, .int t'.length] g1 = some (.tup [.int (up t'), .int (dn t')], false, g1) := law_lowest_ok (by omega) (by omega) (by show _ < 10000000; omega)
  have esame : (callN T1 W0 (k + 7)).f "_law_same" [.tup [.int a, .int b], .tup [.int a, .int b]] g1 = some (.bl true, false, g1) := same_self (m := 1) (k := k + 5) (.inr ⟨_, .inl rfl, by show 2 ≤ 1000; decide, fun x hx => by
    simp only [List.mem_cons, List.not_mem_nil, or_false] at hx
    rcases hx with rfl | rfl
    · exact .inl ⟨a, rfl⟩
    · exact .inl ⟨b, rfl⟩⟩)
  rw [u1, u2, d1, d2] at elow
  have s8 : evS (callN T1 W0 (k + 7)) W0 (.ite (.not (.u .tru (.call ("_law_same" : Str) [(.call ("_law_lowest" : Str) [(.u .sum (.p 8)), (.u .len (.p 8))]), (.v 3)]))) [.ret (.c (.bl false))] []) ⟨prE c (.tup [.int a, .int b]) mine fl (some (dI (us R), false)) (some (dAs (ars R x), false)) (some (pD (row, hs), false)) (some (.lst (t'.map fun a => .int (nm a)), true)) none none none none, g1⟩ =
      some (.nx ⟨prE c (.tup [.int a, .int b]) mine fl (some (dI (us R), false)) (some (dAs (ars R x), false)) (some (pD (row, hs), false)) (some (.lst (t'.map fun a => .int (nm a)), true)) none none none none, g1⟩) := by
    simp [esum, elow, esame]
  have szh : hs.length ≤ sizeLine := Nat.le_trans hs10 (by decide)
  have s9 : evS (callN T1 W0 (k + 7)) W0 (.par [9, 10] [(.u .list (.b .idx (.p 7) (.c (.int 1)))), (.call ("_law_draw" : Str) [(.v 0), (.u .len (.b .idx (.p 7) (.c (.int 1))))])]) ⟨prE c (.tup [.int a, .int b]) mine fl (some (dI (us R), false)) (some (dAs (ars R x), false)) (some (pD (row, hs), false)) (some (.lst (t'.map fun a => .int (nm a)), true)) none none none none, g1⟩ =
      some (.nx ⟨prE c (.tup [.int a, .int b]) mine fl (some (dI (us R), false)) (some (dAs (ars R x), false)) (some (pD (row, hs), false)) (some (.lst (t'.map fun a => .int (nm a)), true)) (some (dI hs, true)) (some (.int (i : Int), false)) none none, g2⟩) := by
    simp [szh, c1]
  have szr : row.length ≤ sizeLine := Nat.le_trans hrl (by decide)
  have hx1 : bF .idx (dI hs) (.int (i : Int)) = some (.int y, false) := by
    rw [o_ixL, L2.atI_nat (show (hs.map D.int)[i]? = some (.int y) by rw [List.getElem?_map, hy]; rfl)]
    rfl
  have hx2 : bF .slb (dI hs) (.int (i : Int)) = some (dI (hs.take i), true) := by
    show some (D.lst (cutD (hs.map D.int) none (some (i : Int))), true) = _
    rw [cut_lo _ _ (by rw [List.length_map]; omega), ← List.map_take]
  have hx3 : bF .sla (dI hs) (.int ((i : Int) + 1)) = some (dI (hs.drop (i + 1)), true) := by
    show some (D.lst (cutD (hs.map D.int) (some ((i : Int) + 1)) none), true) = _
    have : (i : Int) + 1 = ((i + 1 : Nat) : Int) := by omega
    rw [this, cut_hi _ _ (by rw [List.length_map]; omega), ← List.map_drop]
  have hx4 : bF .sla (dI hs) (.int 1) = some (dI (hs.drop 1), true) := by
    show some (D.lst (cutD (hs.map D.int) (some ((1 : Nat) : Int)) none), true) = _
    rw [cut_hi _ _ (by rw [List.length_map]; omega), ← List.map_drop]
  have hx5 : bF .mul (dI row) (.int 2) = some (dI (row ++ row), true) := by
    show (if (row.map D.int).length * (2 : Int).toNat ≤ sizeLine ∧ -(2 ^ 63) ≤ (2 : Int) ∧ (2 : Int) < 2 ^ 63 then some (D.lst (List.replicate (2 : Int).toNat (row.map D.int)).flatten, true) else none) = _
    rw [if_pos ⟨by rw [List.length_map]; exact Nat.le_trans (show row.length * 2 ≤ 20 by omega) (by decide), by decide, by decide⟩]
    have : (List.replicate (2 : Int).toNat (row.map D.int)).flatten = (row ++ row).map D.int := by
      show (List.replicate 2 (row.map D.int)).flatten = _
      simp [List.replicate]
    rw [this]
  have hx6 : bF .add (dI (hs.take i)) (.lst [.int (y + 1000)]) = some (dI (hs.take i ++ [y + 1000]), true) := by
    show (if ((hs.take i).map D.int).length + [D.int (y + 1000)].length ≤ sizeLine then some (D.lst ((hs.take i).map D.int ++ [D.int (y + 1000)]), true) else none) = _
    rw [if_pos (by
      rw [List.length_map, List.length_take]
      exact Nat.le_trans (show min i hs.length + 1 ≤ 20 by omega) (by decide))]
    have : (hs.take i).map D.int ++ [D.int (y + 1000)] = (hs.take i ++ [y + 1000]).map D.int := by rw [List.map_append]; rfl
    rw [this]
  have hx7 : bF .add (dI (hs.take i ++ [y + 1000])) (dI (hs.drop (i + 1))) = some (dI hs', true) := by
    rw [hhs']
    show (if ((hs.take i ++ [y + 1000]).map D.int).length + ((hs.drop (i + 1)).map D.int).length ≤ sizeLine then some (D.lst ((hs.take i ++ [y + 1000]).map D.int ++ (hs.drop (i + 1)).map D.int), true) else none) = _
    rw [if_pos (by
      rw [List.length_map, List.length_map, List.length_append, List.length_take, List.length_drop]
      exact Nat.le_trans (show min i hs.length + 1 + (hs.length - (i + 1)) ≤ 20 by omega) (by decide)), ← List.map_append]
  have s10 : evS (callN T1 W0 (k + 7)) W0 (.asg (.n 11) (.lst [(.tup [(.b .idx (.p 7) (.c (.int 0))), (.b .add (.b .add (.b .slb (.p 9) (.p 10)) (.lst [(.b .add (.b .idx (.p 9) (.p 10)) (.c (.int 1000)))])) (.b .sla (.p 9) (.b .add (.p 10) (.c (.int 1)))))]), (.tup [(.b .idx (.p 7) (.c (.int 0))), (.b .sla (.p 9) (.c (.int 1)))]), (.tup [(.lst []), (.v 9)]), (.tup [(.b .mul (.u .list (.b .idx (.p 7) (.c (.int 0)))) (.c (.int 2))), (.v 9)])])) ⟨prE c (.tup [.int a, .int b]) mine fl (some (dI (us R), false)) (some (dAs (ars R x), false)) (some (pD (row, hs), false)) (some (.lst (t'.map fun a => .int (nm a)), true)) (some (dI hs, true)) (some (.int (i : Int), false)) none none, g2⟩ =
      some (.nx ⟨prE c (.tup [.int a, .int b]) mine fl (some (dI (us R), false)) (some (dAs (ars R x), false)) (some (pD (row, hs), false)) (some (.lst (t'.map fun a => .int (nm a)), true)) (some (dI hs, false)) (some (.int (i : Int), false)) (some (.lst (ps.map pD), true)) none, g2⟩) := by
    simp [-List.map_map, -List.map_append, -List.map_take, -List.map_drop, -o_ixL, -o_addL, hx1, hx2, hx3, hx4, hx5, hx6, hx7, szr, hps]
  have all5 : ∀ p ∈ (row, hs) :: ps, p.1.length ≤ 1000 ∧ p.2.length ≤ 1000 := fun p hp => by
    rcases List.mem_cons.mp hp with rfl | hp
    · exact ⟨by show row.length ≤ 1000; omega, by show hs.length ≤ 1000; omega⟩
    · exact psl p hp
  have tl := pr_tail (k := k) (g := g2) (c := c) (due := .tup [.int a, .int b]) (mine := mine) (fl := fl) (U := us R) (A := ars R x) (x8 := some (.lst (t'.map fun a => .int (nm a)), true)) (x10 := some (.int (i : Int), false)) (p0 := (row, hs)) (ps := ps) (hs := hs) hok (by rw [hps]; show 4 ≤ 100; decide) all5 (fun p hp => isany p g2 (all5 p hp).1 (all5 p hp).2) (fun p hp => lawany p g2 (all5 p hp).1 (all5 p hp).2) jtrue
  unfold F__law_paper_right
  dsimp only
  rw [hrest _ _ _ _ s1, hrest _ _ _ _ s2, hrest _ _ _ _ s3, hrest _ _ _ _ s4, hrest _ _ _ _ s5, hrest _ _ _ _ s6, hrest _ _ _ _ s7, hrest _ _ _ _ s8, hrest _ _ _ _ s9, hrest _ _ _ _ s10]
  exact tl
end
end Hd
end
section
set_option maxHeartbeats 4000000
/-! _law_paper_right where no round is -/
namespace Hd
open PySem WW MM
section
variable {k n : Nat} {g : G} {R : List (List Int)} {s x : Int}
theorem apaper_right (h : Shp R) (hb : Bd R) (q : GOk n g) (hn : n + 200000 < 1000000000) {fl : Bool} :
    ∃ f g', (callN T1 W0 (k + 8)).f "_law_paper_right" [.strm, cD R s (alo (srt R x)), .bl fl, .non] g = some (.bl true, f, g') ∧ GOk (n + 6001) g' := by
  obtain ⟨mine, g1, e1, hd, q1⟩ := loose_counter (w := W0) (k := k + 3) (c := lost R + 1) (s := s) (ms := alo (srt R x)) q hn (ctr_alo (x := x) h hb).l
  have hok : okD mine := by
    obtain ⟨l, hs⟩ := loc_sq hd
    rcases hs with rfl | rfl <;> exact ⟨rfl, rfl⟩
  have e1 : (callN T1 W0 (k + 7)).f "_law_loose" [.strm, cD R s (alo (srt R x))] g = some (mine, false, g1) := e1
  have e2 : (callN T1 W0 (k + 7)).f "_law_counted" [cD R s (alo (srt R x))] g1 = some (.lst [.int 0], true, g1) := f_acounted (k := k + 4) h
  have e4 := apaper_ok (k := k) (g := g1) (fl := fl) h hb hd
  have e5 := ais_ok (k := k) (g := g1) (fl := fl) h hb hd
  have ear := f_aarrows (s := s) (x := x) (g := g1) h (C := callN T1 W0 (k + 7)) (due := .non) (mine := mine) (fl := fl)
  generalize hc : cD R s (alo (srt R x)) = c at e1 e2 ear ⊢
  have hcq : ∃ l, c = .tup l := ⟨_, hc.symm⟩
  clear hc
  have hrest : ∀ (st st2 : St) (S1 : S) (Ss : List S), evS (callN T1 W0 (k + 7)) W0 S1 st = some (.nx st2) → evSs (callN T1 W0 (k + 7)) W0 (S1 :: Ss) st = evSs (callN T1 W0 (k + 7)) W0 Ss st2 := fun st st2 S1 Ss e => by rw [z_ss1, e, Option.bind_some]
  refine ⟨false, g1, ?_, q1.mono (by omega)⟩
  rw [c__law_paper_right]
  refine runF_of ⟨rfl, by decide⟩ ?_
  show evSs _ _ F__law_paper_right.body ⟨[some (.strm, false), some (c, false), some (.bl fl, false), some (.non, false), none, none, none, none, none, none, none, none, none, none, none, none, none], g⟩ = _
  have s1 : evS (callN T1 W0 (k + 7)) W0 (.par [4, 5] [(.call ("_law_loose" : Str) [(.v 0), (.v 1)]), (.call ("_law_counted" : Str) [(.v 1)])]) ⟨[some (.strm, false), some (c, false), some (.bl fl, false), some (.non, false), none, none, none, none, none, none, none, none, none, none, none, none, none], g⟩ =
      some (.nx ⟨prE c .non mine fl (some (.lst [.int 0], true)) none none none none none none none, g1⟩) := by
    obtain ⟨l, rfl⟩ := hcq
    simp [e1, e2]
  have s2 : evS (callN T1 W0 (k + 7)) W0 (.asg (.n 6) arrL) ⟨prE c .non mine fl (some (.lst [.int 0], true)) none none none none none none none, g1⟩ =
      some (.nx ⟨prE c .non mine fl (some (.lst [.int 0], true)) (some (.lst [], true)) none none none none none none, g1⟩) := by
    simp only [z_asg, z_evE, ear]
    simp
  have s3 : evS (callN T1 W0 (k + 7)) W0 (.asg (.n 7) (.call ("mean_paper" : Str) [(.v 4), (.v 2)])) ⟨prE c .non mine fl (some (.lst [.int 0], true)) (some (.lst [], true)) none none none none none none, g1⟩ =
      some (.nx ⟨prE c .non mine fl (some (.lst [.int 0], true)) (some (.lst [], true)) (some (.non, false)) none none none none none, g1⟩) := by
    rw [z_asg, z_evE, z_call, evs2 (i := 4) (j := 2) (x := mine) (y := .bl fl) rfl hok rfl ⟨rfl, rfl⟩, Option.bind_some]
    dsimp only
    rw [e4]
    rfl
  have s4 : evS (callN T1 W0 (k + 7)) W0 (.ite (.b .ne (.u .isN (.p 7)) (.u .isN (.p 3))) [.ret (.c (.bl false))] []) ⟨prE c .non mine fl (some (.lst [.int 0], true)) (some (.lst [], true)) (some (.non, false)) none none none none none, g1⟩ =
      some (.nx ⟨prE c .non mine fl (some (.lst [.int 0], true)) (some (.lst [], true)) (some (.non, false)) none none none none none, g1⟩) := by
    simp
  have esame := same_b (w := W0) (k := k + 6) (g := g1) (a := false) (b := false)
  have s5 : evS (callN T1 W0 (k + 7)) W0 (.ite (.u .isN (.p 3)) [.ret (.call ("_law_same" : Str) [(.call ("is_mean_paper" : Str) [(.v 4), (.v 2), (.tup [(.lst []), (.lst [])])]), (.c (.bl false))])] []) ⟨prE c .non mine fl (some (.lst [.int 0], true)) (some (.lst [], true)) (some (.non, false)) none none none none none, g1⟩ =
      some (.ret (.bl true) false g1) := by
    obtain ⟨l, hs⟩ := loc_sq hd
    rcases hs with rfl | rfl <;> simp [e5, esame]
  unfold F__law_paper_right
  dsimp only
  rw [hrest _ _ _ _ s1, hrest _ _ _ _ s2, hrest _ _ _ _ s3, hrest _ _ _ _ s4, z_ss1, s5]
  rfl
end
end Hd
end
section
set_option maxHeartbeats 4000000
/-! _law_unlike of moves -/
namespace Hd
open PySem WW MM
def pyA (a : Ar) : PyData := .tuple [.int a.1, .int a.2.1, .int a.2.2.1, .int a.2.2.2]
theorem pys_dA : ∀ ms : List Ar, pys (ms.map dA) = some (ms.map pyA)
  | [] => rfl
  | a :: ms => by
    show ((dA a).py).bind (fun p => (pys (ms.map dA)).map fun ps => p :: ps) = _
    rw [pys_dA ms]
    rfl
theorem depth_A (a : Ar) : (pyA a).depth ≤ 64 := by
  have : (pyA a).depth = 1 := by kernel_rfl
  omega
theorem depth_As (ms : List Ar) : (PyData.list (ms.map pyA)).depth ≤ 64 := by
  have h2 : PyData.depthAll (ms.map pyA) ≤ 2 := by
    induction ms with
    | nil => exact Nat.zero_le _
    | cons a ms ih => exact Nat.max_le.mpr ⟨by have : (pyA a).depth = 1 := by kernel_rfl
                                               show (pyA a).depth ≤ 2
                                               omega, ih⟩
  show PyData.depthAll (ms.map pyA) + 1 ≤ 64
  omega
theorem ne_A (x y : Ar) : bF .ne (dA x) (dA y) = some (.bl (!(decide (x.1 = y.1) && (decide (x.2.1 = y.2.1) && (decide (x.2.2.1 = y.2.2.1) && (decide (x.2.2.2 = y.2.2.2) && true))))), false) := by
  obtain ⟨a, b, c, d⟩ := x
  obtain ⟨e, f, h, i⟩ := y
  kernel_rfl
theorem eq_nil (ms : List Ar) : bF .eq (dAs ms) (.lst []) = some (.bl ms.isEmpty, false) := by
  show (((D.lst (ms.map dA)).py.bind fun p => (D.lst []).py.bind fun q => if p.depth ≤ 64 ∧ q.depth ≤ 64 then some (PyData.eqv p q) else none).map fun c => (D.bl c, false)) = _
  have e1 : (D.lst (ms.map dA)).py = some (.list (ms.map pyA)) := by
    show (pys (ms.map dA)).map PyData.list = _
    rw [pys_dA]
    rfl
  rw [e1, Option.bind_some]
  show ((if (PyData.list (ms.map pyA)).depth ≤ 64 ∧ (PyData.list []).depth ≤ 64 then some (PyData.eqv (.list (ms.map pyA)) (.list [])) else none).map fun c => (D.bl c, false)) = _
  rw [if_pos ⟨depth_As ms, by decide⟩]
  cases ms <;> rfl
theorem lt4_trans {a b c : Ar} (h1 : lt4 a b = true) (h2 : lt4 b c = true) : lt4 a c = true := by
  simp only [lt4, Bool.or_eq_true, Bool.and_eq_true, decide_eq_true_eq, Bool.not_eq_true', decide_eq_false_iff_not, Bool.false_eq_true, and_false, or_false] at *
  omega
theorem lt4_asym {a b : Ar} (h1 : lt4 a b = true) : lt4 b a = false := by
  cases h : lt4 b a with
  | false => rfl
  | true =>
    simp only [lt4, Bool.or_eq_true, Bool.and_eq_true, decide_eq_true_eq, Bool.not_eq_true', decide_eq_false_iff_not, Bool.false_eq_true, and_false, or_false] at *
    omega
def le4 (a b : Ar) : Bool := !lt4 b a
def ltP4 (x y : Ar) : Prop := x.1 < y.1 ∨ (¬ y.1 < x.1 ∧ (x.2.1 < y.2.1 ∨ (¬ y.2.1 < x.2.1 ∧ (x.2.2.1 < y.2.2.1 ∨ (¬ y.2.2.1 < x.2.2.1 ∧ x.2.2.2 < y.2.2.2)))))
theorem lt4_iff (x y : Ar) : lt4 x y = true ↔ ltP4 x y := by
  simp only [lt4, ltP4, Bool.or_eq_true, Bool.and_eq_true, decide_eq_true_eq, Bool.not_eq_true', decide_eq_false_iff_not, Bool.false_eq_true, and_false, or_false]
theorem le4_iff (x y : Ar) : le4 x y = true ↔ ¬ ltP4 y x := by
  rw [← lt4_iff]
  unfold le4
  cases lt4 y x <;> simp
theorem le4_trans (a b c : Ar) (h1 : le4 a b = true) (h2 : le4 b c = true) : le4 a c = true := by
  rw [le4_iff] at *
  unfold ltP4 at *
  omega
theorem le4_total (a b : Ar) : (le4 a b || le4 b a) = true := by
  unfold le4
  cases h : lt4 b a with
  | false => rfl
  | true => rw [lt4_asym h]; rfl
theorem le4_anti {a b : Ar} (h1 : le4 a b = true) (h2 : le4 b a = true) : a = b := by
  rw [le4_iff] at *
  obtain ⟨a1, a2, a3, a4⟩ := a
  obtain ⟨b1, b2, b3, b4⟩ := b
  simp only [ltP4] at h1 h2
  have e1 : a1 = b1 := by omega
  have e2 : a2 = b2 := by omega
  have e3 : a3 = b3 := by omega
  have e4 : a4 = b4 := by omega
  rw [e1, e2, e3, e4]
theorem leP_A (x y : Ar) : leP (pyA x) (pyA y) = le4 x y := by
  obtain ⟨a, b, c, d⟩ := x
  obtain ⟨e, f, h, i⟩ := y
  kernel_rfl
theorem insM_perm (x : Ar) : ∀ l : List Ar, (insM x l).Perm (x :: l)
  | [] => .refl _
  | y :: r => by
    unfold insM
    split
    · exact .refl _
    · exact ((insM_perm x r).cons y).trans (.swap ..)
theorem srtM_perm : ∀ l : List Ar, (srtM l).Perm l
  | [] => .refl _
  | x :: r => (insM_perm x _).trans ((srtM_perm r).cons x)
theorem asc_pw : ∀ {l : List Ar}, Asc4 l → l.Pairwise fun a b => lt4 a b = true
  | [], _ => .nil
  | [a], _ => by simp
  | a :: b :: l, h => by
    have ih := asc_pw h.2
    refine List.pairwise_cons.mpr ⟨fun c hc => ?_, ih⟩
    rcases List.mem_cons.mp hc with rfl | hc
    · exact h.1
    · exact lt4_trans h.1 ((List.pairwise_cons.mp ih).1 c hc)
theorem sort_A {ms ss : List Ar} (hp : ss.Perm ms) (ha : Asc4 ss) : ms.mergeSort le4 = ss := by
  refine List.Perm.eq_of_pairwise (le := fun a b => le4 a b = true) (fun a b _ _ h1 h2 => le4_anti h1 h2) (List.pairwise_mergeSort le4_trans le4_total ms) ?_ ((List.mergeSort_perm ..).trans hp.symm)
  exact (asc_pw ha).imp fun h => by unfold le4; rw [lt4_asym h]; rfl
abbrev zA (a : Ar) : PyData × D := (pyA a, dA a)
theorem zip_A : ∀ ms : List Ar, (ms.map pyA).zip (ms.map dA) = ms.map zA
  | [] => rfl
  | a :: ms => by rw [List.map_cons, List.map_cons, List.zip_cons_cons, zip_A ms]; rfl
theorem alike_A (x y : Ar) : PySem.W.alike (pyA x) (pyA y) = true := by
  obtain ⟨a, b, c, d⟩ := x
  obtain ⟨e, f, h, i⟩ := y
  kernel_rfl
theorem sorted_A {ms ss : List Ar} (hne : ms ≠ []) (hl : ms.length ≤ 1000) (hp : ss.Perm ms) (ha : Asc4 ss) : uF .sorted (dAs ms) = some (dAs ss, true) := by
  show ((pys (ms.map dA)).bind fun ps => (sortF (ps.zip (ms.map dA))).map fun s => (D.lst s, true)) = _
  rw [pys_dA, Option.bind_some, zip_A]
  have h0 : pInts (ms.map zA) = none := by
    cases ms with
    | nil => exact absurd rfl hne
    | cons a ms => rfl
  have hc : ((ms.map zA).all (fun p => (ms.map zA).all fun q => PySem.W.alike p.1 q.1) && (sortable ((ms.map zA).map (·.1)) && (((ms.map zA).all fun p => decide (p.1.depth ≤ 64)) && decide ((ms.map zA).length ≤ sizeLine)))) = true := by
    simp only [Bool.and_eq_true, List.all_eq_true, decide_eq_true_eq]
    refine ⟨fun p hp q hq => ?_, ?_, fun p hp => ?_, by rw [List.length_map]; exact Nat.le_trans hl (by decide)⟩
    · obtain ⟨a, _, rfl⟩ := List.mem_map.mp hp
      obtain ⟨b, _, rfl⟩ := List.mem_map.mp hq
      exact alike_A a b
    · unfold sortable
      rw [Bool.or_eq_true]
      refine .inl (List.all_eq_true.mpr fun p hp => ?_)
      rw [List.map_map] at hp
      obtain ⟨a, _, rfl⟩ := List.mem_map.mp hp
      rfl
    · obtain ⟨a, _, rfl⟩ := List.mem_map.mp hp
      exact depth_A a
  have hs : sortF (ms.map zA) = some (ss.map dA) := by
    unfold sortF
    rw [h0]
    dsimp only
    rw [if_pos hc, ← List.map_mergeSort (r := le4) (f := zA) (fun a _ b _ => (leP_A a b).symm), sort_A hp ha, List.map_map]
    rfl
  rw [hs]
  rfl
section
variable {w k : Nat} {g : G}
abbrev ulB : List S := [.ite (.or (.b .eq (.p 1) (.lst [])) (.b .ne (.b .idx (.p 1) (.u .neg (.c (.int 1)))) (.p 2))) [.app 1 (.v 2)] []]
theorem ul_loop {C : Cl} {d : D} : ∀ (todo done : List Ar) (y : Option (D × Bool)), Asc4 (done ++ todo) → (done ++ todo).length ≤ 1000 → ∃ y', forL (evSs C w ulB) (.n 2) (todo.map dA) ⟨[some (d, false), some (.lst (done.map dA), true), y], g⟩ = some (.nx ⟨[some (d, false), some (.lst ((done ++ todo).map dA), true), y'], g⟩)
  | [], done, y, _, _ => ⟨y, by rw [List.append_nil]; rfl⟩
  | a :: todo, done, y, h, hl => by
    have h' : Asc4 (done ++ [a] ++ todo) := by simpa using h
    obtain ⟨y', ih⟩ := ul_loop (C := C) (d := d) todo (done ++ [a]) (some (dA a, false)) h' (by simpa using hl)
    refine ⟨y', ?_⟩
    rw [List.map_cons]
    unfold forL
    show (evSs C w ulB ⟨[some (d, false), some (.lst (done.map dA), true), some (dA a, false)], g⟩).bind _ = _
    have sz : done.length < sizeLine := Nat.lt_of_lt_of_le (show done.length < 1001 by simp at hl; omega) (by decide)
    have en := eq_nil done
    have e : evSs C w ulB ⟨[some (d, false), some (.lst (done.map dA), true), some (dA a, false)], g⟩ = some (.nx ⟨[some (d, false), some (.lst ((done ++ [a]).map dA), true), some (dA a, false)], g⟩) := by
      rcases List.eq_nil_or_concat done with rfl | ⟨t, z, rfl⟩
      · have en : bF .eq (.lst []) (.lst []) = some (.bl true, false) := en
        have sz0 : 0 < sizeLine := by decide
        simp [ulB, en, sz0]
      · rw [List.concat_eq_append] at *
        have hz : L2.atI ((t ++ [z]).map dA) (-1) = some (dA z) := by rw [List.map_append]; exact L2.atI_last _ _
        have hlt : lt4 z a = true := by
          have := asc_pw h
          rw [List.append_assoc, List.pairwise_append] at this
          exact (List.pairwise_cons.mp this.2.1).1 a (by simp)
        have hne : bF .ne (dA z) (dA a) = some (.bl true, false) := by
          rw [ne_A]
          have : ¬ (z.1 = a.1 ∧ z.2.1 = a.2.1 ∧ z.2.2.1 = a.2.2.1 ∧ z.2.2.2 = a.2.2.2) := fun e => by
            have := (lt4_iff z a).mp hlt
            unfold ltP4 at this
            omega
          congr 2
          rw [show (!(decide (z.1 = a.1) && (decide (z.2.1 = a.2.1) && (decide (z.2.2.1 = a.2.2.1) && (decide (z.2.2.2 = a.2.2.2) && true))))) = !(decide (z.1 = a.1 ∧ z.2.1 = a.2.1 ∧ z.2.2.1 = a.2.2.1 ∧ z.2.2.2 = a.2.2.2)) by simp]
          simp [this]
        have en : bF .eq (.lst ((t ++ [z]).map dA)) (.lst []) = some (.bl false, false) := by rw [en]; cases t <;> rfl
        have sz' : t.length + 1 < sizeLine := by rw [List.length_append] at sz; exact sz
        simp [-List.map_append, ulB, en, hz, hne, sz']
        simp
    rw [e]
    have : done ++ a :: todo = done ++ [a] ++ todo := by simp
    rw [this]
    exact ih
theorem unlike_A {ms ss : List Ar} (hne : ms ≠ []) (hl : ms.length ≤ 1000) (hp : ss.Perm ms) (ha : Asc4 ss) : (callN T1 w (k + 1)).f "_law_unlike" [dAs ms] g = some (dAs ss, true, g) := by
  have hs := sorted_A hne hl hp ha
  obtain ⟨y', hlp⟩ := ul_loop (w := w) (g := g) (C := callN T1 w k) (d := dAs ms) ss [] none (by simpa using ha) (by rw [List.nil_append, hp.length_eq]; exact hl)
  rw [List.nil_append] at hlp
  have hlp : forL (evSs (callN T1 w k) w ulB) (.n 2) (ss.map dA) ⟨[some (dAs ms, false), some (.lst [], true), none], g⟩ = _ := hlp
  rw [c__law_unlike]
  refine runF_of ⟨rfl, by decide⟩ ?_
  show evSs _ _ _ ⟨[some (dAs ms, false), none, none], g⟩ = _
  simp [F__law_unlike, hs, hlp]
end
end Hd
end
section
set_option maxHeartbeats 4000000
/-! _law_rings -/
namespace Hd
open PySem WW MM
theorem asc_srt {R : List (List Int)} {x : Int} (h : Shp R) (hb : Bd R) : Asc4 (srt R x) := by
  cases h <;> simp [Bd] at hb <;> simp [srt, mvs, srtM, insM, leM, mvR, rmv, lost, lostR, Asc4, lt4] <;> omega
theorem mvR_snoc {r : List Int} : ∀ {R : List (List Int)} {l m : Int}, mvR (R ++ [r]) l m = mvR R l m ++ rmv (l + R.length) (lostR R m) r
  | [], l, m => by simp [mvR, lostR]
  | q :: R, l, m => by
    show rmv l m q ++ mvR (R ++ [r]) (l + 1) (m + q.length - 1) = rmv l m q ++ mvR R (l + 1) (m + q.length - 1) ++ rmv (l + ((q :: R).length : Nat)) (lostR R (m + q.length - 1)) r
    rw [mvR_snoc, List.append_assoc]
    have : l + 1 + (R.length : Int) = l + ((q :: R).length : Nat) := by rw [List.length_cons]; push_cast; omega
    rw [this]
theorem lostR_snoc {r : List Int} : ∀ {R : List (List Int)} {m : Int}, lostR (R ++ [r]) m = lostR R m + r.length - 1
  | [], m => rfl
  | q :: R, m => lostR_snoc (R := R)
def L3 (r : List Int) : Prop := (∃ a, r = [a]) ∨ (∃ a b, r = [a, b]) ∨ ∃ a b c, r = [a, b, c]
theorem l3_of {r : List Int} (h : r.length = 1 ∨ r.length = 2 ∨ r.length = 3) : L3 r := by
  rcases r with _ | ⟨a, _ | ⟨b, _ | ⟨c, _ | ⟨d, r⟩⟩⟩⟩
  · simp at h
  · exact .inl ⟨a, rfl⟩
  · exact .inr (.inl ⟨a, b, rfl⟩)
  · exact .inr (.inr ⟨a, b, c, rfl⟩)
  · simp at h
theorem rmv_len {r : List Int} (h : L3 r) (l m : Int) : (rmv l m r).length ≤ 3 := by
  rcases h with ⟨a, rfl⟩ | ⟨a, b, rfl⟩ | ⟨a, b, c, rfl⟩ <;> simp [rmv]
theorem mvR_len : ∀ {R : List (List Int)} {l m : Int}, (∀ r ∈ R, L3 r) → (mvR R l m).length ≤ 3 * R.length
  | [], _, _, _ => Nat.zero_le _
  | q :: R, l, m, h => by
    show (rmv l m q ++ mvR R _ _).length ≤ _
    rw [List.length_append, List.length_cons]
    have := rmv_len (h q (by simp)) l m
    have := mvR_len (R := R) (l := l + 1) (m := m + q.length - 1) fun r hr => h r (by simp [hr])
    omega
theorem shp_of {R : List (List Int)} (h3 : ∀ r ∈ R, L3 r) (hl : R.length = 1 ∨ R.length = 2 ∨ (R.length = 3 ∧ (R.map (·.length)).sum ≤ 6)) : Shp R := by
  rcases R with _ | ⟨p, _ | ⟨q, _ | ⟨r, _ | ⟨t, R⟩⟩⟩⟩
  · simp at hl
  · rcases h3 p (by simp) with ⟨a, rfl⟩ | ⟨a, b, rfl⟩ | ⟨a, b, c, rfl⟩ <;> constructor
  · rcases h3 p (by simp) with ⟨a, rfl⟩ | ⟨a, b, rfl⟩ | ⟨a, b, c, rfl⟩ <;> rcases h3 q (by simp) with ⟨d, rfl⟩ | ⟨d, e, rfl⟩ | ⟨d, e, f, rfl⟩ <;> constructor
  · rcases h3 p (by simp) with ⟨a, rfl⟩ | ⟨a, b, rfl⟩ | ⟨a, b, c, rfl⟩ <;> rcases h3 q (by simp) with ⟨d, rfl⟩ | ⟨d, e, rfl⟩ | ⟨d, e, f, rfl⟩ <;> rcases h3 r (by simp) with ⟨u, rfl⟩ | ⟨u, v, rfl⟩ | ⟨u, v, w, rfl⟩ <;> first | (simp at hl; done) | constructor
  · simp at hl
def ringD (r : List Int) : D := .tup [.int r.sum, .int r.length]
abbrev rE (x1 : Option (D × Bool)) (mv : List Ar) (rg : List (List Int)) (m : Int) (x5 x6 x7 x8 : Option (D × Bool)) : WW.Env := [some (.strm, false), x1, some (dAs mv, true), some (.lst (rg.map ringD), true), some (.int m, false), x5, x6, x7, x8, none, none, none]
section
variable {w k n : Nat} {g : G}
abbrev pathE : E := (.b .add (.b .add (.lst [(.c (.int 0))]) (.lc (.b .add (.p 4) (.p 11)) 1 (.n 11) [(.b .sub (.p 6) (.c (.int 1)))] [] [10, 11])) (.lst [(.c (.int 0))]))
abbrev addsE : E := (.lc (.b .sub (.call ("_law_draw" : Str) [(.v 0), (.c (.int 41))]) (.c (.int 20))) 1 (.n 11) [(.v 6)] [] [10, 11])
abbrev movsE : E := (.lc (.tup [(.b .idx (.p 7) (.p 11)), (.ite (.b .eq (.p 11) (.c (.int 0))) (.v 5) (.c (.int 0))), (.b .idx (.p 8) (.p 11)), (.b .idx (.p 7) (.b .add (.p 11) (.c (.int 1))))]) 1 (.n 11) [(.v 6)] [] [10, 11])
def pathL (m : Int) (as : List Int) : List Int := match as with
  | [_] => [0, 0]
  | [_, _] => [0, m, 0]
  | [_, _, _] => [0, m, m + 1, 0]
  | _ => []
theorem f_path {C : Cl} {x1 x5 x7 x8 : Option (D × Bool)} {mv : List Ar} {rg : List (List Int)} {m : Int} {as : List Int} (h : L3 as) : ev C pathE ⟨rE x1 mv rg m x5 (some (.int as.length, false)) x7 x8, g⟩ = some (.inr (dI (pathL m as)), true, ⟨rE x1 mv rg m x5 (some (.int as.length, false)) x7 x8, g⟩) := by
  rcases h with ⟨a, rfl⟩ | ⟨a, b, rfl⟩ | ⟨a, b, c, rfl⟩
  · kernel_rfl
  · have : ev C pathE ⟨rE x1 mv rg m x5 (some (.int 2, false)) x7 x8, g⟩ = some (.inr (dI [0, m + 0, 0]), true, ⟨rE x1 mv rg m x5 (some (.int 2, false)) x7 x8, g⟩) := by kernel_rfl
    rw [Int.add_zero] at this
    exact this
  · have : ev C pathE ⟨rE x1 mv rg m x5 (some (.int 3, false)) x7 x8, g⟩ = some (.inr (dI [0, m + 0, m + 1, 0]), true, ⟨rE x1 mv rg m x5 (some (.int 3, false)) x7 x8, g⟩) := by kernel_rfl
    rw [Int.add_zero] at this
    exact this
theorem f_movs {C : Cl} {x1 : Option (D × Bool)} {mv : List Ar} {rg : List (List Int)} {m l : Int} {as : List Int} (h : L3 as) : ev C movsE ⟨rE x1 mv rg m (some (.int l, false)) (some (.int as.length, false)) (some (dI (pathL m as), true)) (some (dI as, true)), g⟩ = some (.inr (dAs (rmv l m as)), true, ⟨rE x1 mv rg m (some (.int l, false)) (some (.int as.length, false)) (some (dI (pathL m as), true)) (some (dI as, true)), g⟩) := by
  rcases h with ⟨a, rfl⟩ | ⟨a, b, rfl⟩ | ⟨a, b, c, rfl⟩ <;> kernel_rfl
theorem f_adds {x1 x5 x7 x8 : Option (D × Bool)} {mv : List Ar} {rg : List (List Int)} {m : Int} {z : Nat} (hz : z ≤ 3) (q : GOk n g) (hn : n + 10 < 1000000000) : ∃ as g', ev (callN T1 w (k + 1)) addsE ⟨rE x1 mv rg m x5 (some (.int z, false)) x7 x8, g⟩ = some (.inr (dI as), true, ⟨rE x1 mv rg m x5 (some (.int z, false)) x7 x8, g'⟩) ∧ as.length = z ∧ (∀ a ∈ as, -20 ≤ a ∧ a ≤ 20) ∧ GOk (n + 3) g' := by
  obtain ⟨acc, g', e, as, h1, h2, h3, h4⟩ := lc_st (C := callN T1 w (k + 1)) (e := (.b .sub (.call ("_law_draw" : Str) [(.v 0), (.c (.int 41))]) (.c (.int 20)))) (kd := 1) (t := .n 11) (a := [(.v 6)]) (own := [10, 11]) (st := ⟨rE x1 mv rg m x5 (some (.int z, false)) x7 x8, g⟩) (ds := [.int z]) (g1 := g) ((List.range z).map fun (n : Nat) => D.int (n : Int))
    (fun rest acc g => ∃ as : List Int, acc = as.map D.int ∧ as.length + rest.length = z ∧ (∀ a ∈ as, -20 ≤ a ∧ a ≤ 20) ∧ GOk (n + as.length) g) (by simp) (by
      simp only [walk]
      rw [if_pos (by omega), Int.toNat_natCast]) ⟨[], rfl, by simp, fun a ha => by simp at ha, q⟩ (fun x rest acc g ⟨as, h1, h2, h3, h4⟩ => by
      have hlen : as.length < 3 := by rw [List.length_cons] at h2; omega
      obtain ⟨r, g', d1, d2, d3, d4⟩ := draw_ok (w := w) (k := k) (m := 41) h4 (by omega) (by decide) (by decide)
      refine ⟨(rE x1 mv rg m x5 (some (.int z, false)) x7 x8).set 11 (some (x, false)), .int (r - 20), false, (rE x1 mv rg m x5 (some (.int z, false)) x7 x8).set 11 (some (x, false)), g', by simp [wip], by simp [d1], by simp [wip], as ++ [r - 20], by rw [h1]; simp, by simp at h2 ⊢; omega, fun a ha => ?_, by rw [List.length_append]; exact d4⟩
      rcases List.mem_append.mp ha with ha | ha
      · exact h3 a ha
      · rw [List.mem_singleton.mp ha]; omega) (fun r h => back_own h (by simp [keepS])) (by simp; exact Nat.le_trans hz (by decide))
  rw [h1] at e
  rw [List.length_nil, Nat.add_zero] at h2
  exact ⟨as, g', e, h2, h3, h4.mono (by omega)⟩
theorem ext_step {C : Cl} {st st1 : WW.St} {i : Nat} {e : E} {l0 l m : List D} {f : Bool} (h0 : owned st.r i = some (.lst l0)) (h1 : evE C e st = some (.lst m, f, st1)) (h2 : owned st1.r i = some (.lst l)) (h3 : l.length + m.length ≤ sizeLine) : evS C w (.ext i e) st = some (.nx ⟨st1.r.set i (some (.lst (l ++ m), true)), st1.g⟩) := by
  simp only [evS, h0, h1, h2, Option.bind_some]
  rw [if_pos h3]
abbrev rB : List S := [.asg (.n 7) pathE, .asg (.n 8) addsE, .ext 2 movsE, .app 3 (.tup [(.u .sum (.p 8)), (.v 6)]), .asg (.n 4) (.b .sub (.b .add (.p 4) (.p 6)) (.c (.int 1)))]
theorem ring_iter {x1 x7 x8 : Option (D × Bool)} {mv : List Ar} {rg : List (List Int)} {m l : Int} {z : Nat} (hz : z = 1 ∨ z = 2 ∨ z = 3) (hmv : mv.length ≤ 100) (hrg : rg.length ≤ 100) (q : GOk n g) (hn : n + 10 < 1000000000) :
    ∃ as g' y7 y8, evSs (callN T1 w (k + 1)) w rB ⟨rE x1 mv rg m (some (.int l, false)) (some (.int z, false)) x7 x8, g⟩ = some (.nx ⟨rE x1 (mv ++ rmv l m as) (rg ++ [as]) (m + as.length - 1) (some (.int l, false)) (some (.int z, false)) y7 y8, g'⟩) ∧ L3 as ∧ as.length = z ∧ (∀ a ∈ as, -20 ≤ a ∧ a ≤ 20) ∧ GOk (n + 3) g' := by
  have hz3 : z ≤ 3 := by omega
  have dummy : ∃ bs : List Int, bs.length = z ∧ L3 bs := by
    rcases hz with rfl | rfl | rfl
    · exact ⟨[0], rfl, .inl ⟨_, rfl⟩⟩
    · exact ⟨[0, 0], rfl, .inr (.inl ⟨_, _, rfl⟩)⟩
    · exact ⟨[0, 0, 0], rfl, .inr (.inr ⟨_, _, _, rfl⟩)⟩
  obtain ⟨bs, b1, b2⟩ := dummy
  have e1 := f_path (C := callN T1 w (k + 1)) (g := g) (x1 := x1) (x5 := some (.int l, false)) (x7 := x7) (x8 := x8) (mv := mv) (rg := rg) (m := m) b2
  rw [b1] at e1
  obtain ⟨as, g', e2, a1, a2, a3⟩ := f_adds (w := w) (k := k) (x1 := x1) (x5 := some (.int l, false)) (x7 := some (dI (pathL m bs), true)) (x8 := x8) (mv := mv) (rg := rg) (m := m) hz3 q hn
  have l3 : L3 as := l3_of (by omega)
  have hp : pathL m bs = pathL m as := by
    have h12 : bs.length = as.length := by omega
    rcases b2 with ⟨a, rfl⟩ | ⟨a, b, rfl⟩ | ⟨a, b, c, rfl⟩ <;> rcases l3 with ⟨d, rfl⟩ | ⟨d, e, rfl⟩ | ⟨d, e, f, rfl⟩ <;> first | rfl | (simp at h12)
  rw [hp] at e1 e2
  have e3 := f_movs (C := callN T1 w (k + 1)) (g := g') (x1 := x1) (mv := mv) (rg := rg) (m := m) (l := l) l3
  rw [a1] at e3
  have esum : sumD (as.map D.int) 0 = some as.sum := by rw [sumD_ints, Int.zero_add]
  have rl := rmv_len l3 l m
  have sz1 : mv.length + (rmv l m as).length ≤ sizeLine := Nat.le_trans (show _ ≤ 103 by omega) (by decide)
  have sz2 : rg.length < sizeLine := Nat.lt_of_le_of_lt hrg (by decide)
  refine ⟨as, g', some (dI (pathL m as), true), some (dI as, true), ?_, l3, a1, a2, a3⟩
  have t1 : evS (callN T1 w (k + 1)) w (.asg (.n 7) pathE) ⟨rE x1 mv rg m (some (.int l, false)) (some (.int z, false)) x7 x8, g⟩ = some (.nx ⟨rE x1 mv rg m (some (.int l, false)) (some (.int z, false)) (some (dI (pathL m as), true)) x8, g⟩) := by
    rw [z_asg, z_evE, e1]; rfl
  have t2 : evS (callN T1 w (k + 1)) w (.asg (.n 8) addsE) ⟨rE x1 mv rg m (some (.int l, false)) (some (.int z, false)) (some (dI (pathL m as), true)) x8, g⟩ = some (.nx ⟨rE x1 mv rg m (some (.int l, false)) (some (.int z, false)) (some (dI (pathL m as), true)) (some (dI as, true)), g'⟩) := by
    rw [z_asg, z_evE, e2]; rfl
  have t3 : evS (callN T1 w (k + 1)) w (.ext 2 movsE) ⟨rE x1 mv rg m (some (.int l, false)) (some (.int z, false)) (some (dI (pathL m as), true)) (some (dI as, true)), g'⟩ = some (.nx ⟨rE x1 (mv ++ rmv l m as) rg m (some (.int l, false)) (some (.int z, false)) (some (dI (pathL m as), true)) (some (dI as, true)), g'⟩) := by
    rw [ext_step (st := ⟨rE x1 mv rg m (some (.int l, false)) (some (.int z, false)) (some (dI (pathL m as), true)) (some (dI as, true)), g'⟩) (l0 := mv.map dA) (l := mv.map dA) (m := (rmv l m as).map dA) (f := true) rfl (by rw [z_evE, e3]; rfl) rfl (by rw [List.length_map, List.length_map]; exact sz1), ← List.map_append]
    rfl
  have t4 : evS (callN T1 w (k + 1)) w (.app 3 (.tup [(.u .sum (.p 8)), (.v 6)])) ⟨rE x1 (mv ++ rmv l m as) rg m (some (.int l, false)) (some (.int z, false)) (some (dI (pathL m as), true)) (some (dI as, true)), g'⟩ = some (.nx ⟨rE x1 (mv ++ rmv l m as) (rg ++ [as]) m (some (.int l, false)) (some (.int z, false)) (some (dI (pathL m as), true)) (some (dI as, true)), g'⟩) := by
    simp [esum, sz2, ringD, a1]
  have t5 : evS (callN T1 w (k + 1)) w (.asg (.n 4) (.b .sub (.b .add (.p 4) (.p 6)) (.c (.int 1)))) ⟨rE x1 (mv ++ rmv l m as) (rg ++ [as]) m (some (.int l, false)) (some (.int z, false)) (some (dI (pathL m as), true)) (some (dI as, true)), g'⟩ = some (.nx ⟨rE x1 (mv ++ rmv l m as) (rg ++ [as]) (m + as.length - 1) (some (.int l, false)) (some (.int z, false)) (some (dI (pathL m as), true)) (some (dI as, true)), g'⟩) := by
    simp [a1]
  rw [z_ss1, t1, Option.bind_some]
  dsimp only
  rw [z_ss1, t2, Option.bind_some]
  dsimp only
  rw [z_ss1, t3, Option.bind_some]
  dsimp only
  rw [z_ss1, t4, Option.bind_some]
  dsimp only
  rw [z_ss1, t5]
  rfl
end
end Hd
end
section
set_option maxHeartbeats 4000000
/-! _law_rings, whole -/
namespace Hd
open PySem WW MM
section
variable {w k n : Nat} {g : G}
abbrev zD (zs : List Nat) : D := .lst (zs.map fun (z : Nat) => .int (z : Int))
theorem rings_loop : ∀ (zs : List Nat) (R : List (List Int)) (x1 x5 x6 x7 x8 : Option (D × Bool)) (n : Nat) (g : G), (∀ z ∈ zs, z = 1 ∨ z = 2 ∨ z = 3) → (∀ r ∈ R, L3 r) → Bd R → R.length + zs.length ≤ 3 → GOk n g → n + 3 * zs.length + 20 < 1000000000 →
    ∃ R' y5 y6 y7 y8 g', forL (evSs (callN T1 w (k + 1)) w rB) (.t [(.n 5), (.n 6)]) ((zs.zipIdx R.length).map fun p => .tup [.int (p.2 : Int), .int (p.1 : Int)]) ⟨rE x1 (mvR R 0 1) R (lostR R 1) x5 x6 x7 x8, g⟩ = some (.nx ⟨rE x1 (mvR R' 0 1) R' (lostR R' 1) y5 y6 y7 y8, g'⟩) ∧ R'.map (·.length) = R.map (·.length) ++ zs ∧ (∀ r ∈ R', L3 r) ∧ Bd R' ∧ GOk (n + 3 * zs.length) g'
  | [], R, x1, x5, x6, x7, x8, n, g, _, h2, h3, _, q, _ => ⟨R, x5, x6, x7, x8, g, rfl, by simp, h2, h3, q⟩
  | z :: zs, R, x1, x5, x6, x7, x8, n, g, h1, h2, h3, h4, q, hn => by
    rw [List.length_cons] at hn
    have hl : R.length + 1 + zs.length ≤ 3 := by simp at h4; omega
    have ml := mvR_len (R := R) (l := 0) (m := 1) h2
    obtain ⟨as, g1, y7, y8, e, a1, a2, a3, q1⟩ := ring_iter (w := w) (k := k) (x1 := x1) (x7 := x7) (x8 := x8) (mv := mvR R 0 1) (rg := R) (m := lostR R 1) (l := R.length) (z := z) (h1 z (by simp)) (by omega) (by omega) q (by omega)
    have em : mvR R 0 1 ++ rmv (R.length : Int) (lostR R 1) as = mvR (R ++ [as]) 0 1 := by rw [mvR_snoc, Int.zero_add]
    rw [em, ← lostR_snoc] at e
    obtain ⟨R', u5, u6, u7, u8, g', i1, i2, i3, i4, i5⟩ := rings_loop zs (R ++ [as]) x1 (some (.int (R.length : Int), false)) (some (.int (z : Int), false)) y7 y8 (n + 3) g1 (fun y hy => h1 y (by simp [hy])) (fun r hr => by
      rcases List.mem_append.mp hr with hr | hr
      · exact h2 r hr
      · rw [List.mem_singleton.mp hr]; exact a1) (fun r hr => by
      rcases List.mem_append.mp hr with hr | hr
      · exact h3 r hr
      · rw [List.mem_singleton.mp hr]; exact a3) (by simp; omega) q1 (by omega)
    refine ⟨R', u5, u6, u7, u8, g', ?_, by rw [i2]; simp [a2], i3, i4, i5.mono (by simp; omega)⟩
    rw [List.zipIdx_cons, List.map_cons]
    unfold forL
    show (evSs (callN T1 w (k + 1)) w rB ⟨rE x1 (mvR R 0 1) R (lostR R 1) (some (.int (R.length : Int), false)) (some (.int (z : Int), false)) x7 x8, g⟩).bind _ = _
    rw [e, Option.bind_some]
    dsimp only
    rw [List.length_append] at i1
    exact i1
abbrev sizesE : E := (.lc (.b .add (.c (.int 1)) (.call ("_law_draw" : Str) [(.v 0), (.c (.int 3))])) 1 (.n 11) [(.b .add (.c (.int 1)) (.call ("_law_draw" : Str) [(.v 0), (.c (.int 3))]))] [] [10, 11])
abbrev r0E : WW.Env := [some (.strm, false), none, none, none, none, none, none, none, none, none, none, none]
theorem f_sizes (q : GOk n g) (hn : n + 10 < 1000000000) : ∃ zs g', ev (callN T1 w (k + 1)) sizesE ⟨r0E, g⟩ = some (.inr (zD zs), true, ⟨r0E, g'⟩) ∧ (zs.length = 1 ∨ zs.length = 2 ∨ zs.length = 3) ∧ (∀ z ∈ zs, z = 1 ∨ z = 2 ∨ z = 3) ∧ GOk (n + 4) g' := by
  obtain ⟨r, g1, d1, d2, d3, q1⟩ := draw_ok (w := w) (k := k) (m := 3) q (by omega) (by decide) (by decide)
  obtain ⟨c, hc⟩ : ∃ c : Nat, 1 + r = (c : Int) := ⟨(1 + r).toNat, by omega⟩
  obtain ⟨acc, g', e, zs, h1, h2, h3, h4⟩ := lc_st (C := callN T1 w (k + 1)) (e := (.b .add (.c (.int 1)) (.call ("_law_draw" : Str) [(.v 0), (.c (.int 3))]))) (kd := 1) (t := .n 11) (a := [(.b .add (.c (.int 1)) (.call ("_law_draw" : Str) [(.v 0), (.c (.int 3))]))]) (own := [10, 11]) (st := ⟨r0E, g⟩) (ds := [.int (1 + r)]) (g1 := g1) ((List.range c).map fun (n : Nat) => D.int (n : Int))
    (fun rest acc g => ∃ zs : List Nat, acc = zs.map (fun (z : Nat) => D.int (z : Int)) ∧ zs.length + rest.length = c ∧ (∀ z ∈ zs, z = 1 ∨ z = 2 ∨ z = 3) ∧ GOk (n + 1 + zs.length) g) (by simp [d1]) (by
      simp only [walk]
      rw [hc, if_pos (by omega), Int.toNat_natCast]) ⟨[], rfl, by simp, fun a ha => by simp at ha, q1⟩ (fun x rest acc g ⟨zs, h1, h2, h3, h4⟩ => by
      have hlen : zs.length < 3 := by rw [List.length_cons] at h2; omega
      obtain ⟨r, g', d1, d2, d3, d4⟩ := draw_ok (w := w) (k := k) (m := 3) h4 (by omega) (by decide) (by decide)
      obtain ⟨z, hz⟩ : ∃ z : Nat, 1 + r = (z : Int) := ⟨(1 + r).toNat, by omega⟩
      refine ⟨r0E.set 11 (some (x, false)), .int (1 + r), false, r0E.set 11 (some (x, false)), g', by simp [wip], by simp [d1], by simp [wip], zs ++ [z], by rw [h1, hz]; simp, by simp at h2 ⊢; omega, fun a ha => ?_, by rw [List.length_append]; exact d4⟩
      rcases List.mem_append.mp ha with ha | ha
      · exact h3 a ha
      · rw [List.mem_singleton.mp ha]; omega) (fun r h => back_own h (by simp [keepS])) (by simp; exact Nat.le_trans (show c ≤ 3 by omega) (by decide))
  rw [h1] at e
  rw [List.length_nil, Nat.add_zero] at h2
  exact ⟨zs, g', e, by omega, h3, h4.mono (by omega)⟩
theorem zsum (zs : List Nat) : sumD (zs.map fun (z : Nat) => D.int (z : Int)) 0 = some ((zs.sum : Nat) : Int) := by
  have : ∀ (zs : List Nat) (a : Int), sumD (zs.map fun (z : Nat) => D.int (z : Int)) a = some (a + (zs.sum : Nat)) := fun zs => by
    induction zs with
    | nil => intro a; simp [sumD]
    | cons z zs ih =>
      intro a
      show sumD (zs.map _) (a + z) = _
      rw [ih, List.sum_cons]
      push_cast
      rw [Int.add_assoc]
  rw [this, Int.zero_add]
abbrev argE : E := (.ite (.b .gt (.u .sum (.p 1)) (.c (.int 6))) (.b .slb (.p 1) (.c (.int 2))) (.v 1))
theorem f_arg {C : Cl} (zs : List Nat) : ∃ x1, evs C [argE] ⟨rE (some (zD zs, true)) [] [] 1 none none none none, g⟩ = some ([zD (if 6 < zs.sum then zs.take 2 else zs)], ⟨rE x1 [] [] 1 none none none none, g⟩) := by
  have e := zsum zs
  by_cases h : 6 < zs.sum
  · have h' : (6 : Int) < ((zs.sum : Nat) : Int) := by omega
    have cut : bF .slb (zD zs) (.int 2) = some (zD (zs.take 2), true) := by
      show some (D.lst (cutD (zs.map fun (z : Nat) => D.int (z : Int)) none (some ((2 : Nat) : Int))), true) = _
      by_cases hl : 2 ≤ zs.length
      · rw [cut_lo _ _ (by rw [List.length_map]; exact hl), ← List.map_take]
      · have : ∀ l : List D, l.length < 2 → cutD l none (some ((2 : Nat) : Int)) = l := fun l hl => by
          rcases l with _ | ⟨a, _ | ⟨b, l⟩⟩
          · rfl
          · rfl
          · simp only [List.length_cons] at hl; omega
        rw [this _ (by rw [List.length_map]; omega), List.take_of_length_le (by omega)]
    refine ⟨some (zD zs, true), ?_⟩
    rw [if_pos h]
    simp [-List.map_take, e, h', cut]
  · have h' : ¬ (6 : Int) < ((zs.sum : Nat) : Int) := by omega
    refine ⟨some (zD zs, false), ?_⟩
    rw [if_neg h]
    simp [e, h']
theorem law_rings_ok (q : GOk n g) (hn : n + 100 < 1000000000) : ∃ R s x f g', Shp R ∧ Bd R ∧ (callN T1 w (k + 2)).f "_law_rings" [.strm] g = some (.tup [cD R s (srt R x), .lst (R.map ringD)], f, g') ∧ GOk (n + 50) g' := by
  obtain ⟨zs, g1, e1, z1, z2, q1⟩ := f_sizes (w := w) (k := k) q (by omega)
  obtain ⟨x1, e2⟩ := f_arg (C := callN T1 w (k + 1)) (g := g1) zs
  generalize hzz : (if 6 < zs.sum then zs.take 2 else zs) = zz at e2
  have z3 : (∀ z ∈ zz, z = 1 ∨ z = 2 ∨ z = 3) ∧ (zz.length = 1 ∨ zz.length = 2 ∨ (zz.length = 3 ∧ zz.sum ≤ 6)) := by
    rw [← hzz]
    split
    · refine ⟨fun z hz => z2 z (List.mem_of_mem_take hz), ?_⟩
      rw [List.length_take]
      omega
    · exact ⟨z2, by omega⟩
  obtain ⟨R, y5, y6, y7, y8, g2, e3, r1, r2, r3, q2⟩ := rings_loop (w := w) (k := k) zz [] x1 none none none none (n + 4) g1 z3.1 (fun r hr => by simp at hr) (fun r hr => by simp at hr) (by rw [List.length_nil]; omega) q1 (by omega)
  have hR : R.length = zz.length := by
    have := congrArg List.length r1
    simpa using this
  have rsum : (R.map (·.length)).sum = zz.sum := by rw [r1]; simp
  have shp : Shp R := shp_of r2 (by rw [hR, rsum]; exact z3.2)
  obtain ⟨r, g3, d1, d2, d3, q3⟩ := draw_ok (w := w) (k := k) (m := 2) q2 (by omega) (by decide) (by decide)
  obtain ⟨s, g4, c1, c2, c3, q4⟩ := draw_ok (w := w) (k := k) (m := 5) q3 (by omega) (by decide) (by decide)
  refine ⟨R, s, 20 - 40 * r, false, g4, shp, r3, ?_, q4.mono (by omega)⟩
  have ml := mvR_len (R := R) (l := 0) (m := 1) r2
  have ul : (callN T1 w (k + 1)).f "_law_unlike" [dAs (mvs R (20 - 40 * r))] g4 = some (dAs (srt R (20 - 40 * r)), true, g4) := unlike_A (by unfold mvs; simp) (by unfold mvs; simp; omega) (srtM_perm _) (asc_srt shp r3)
  have s40 : small 40 = true := by decide
  have szm : (mvR R 0 1).length + 2 ≤ sizeLine := Nat.le_trans (show _ ≤ 100 by omega) (by decide)
  rw [c__law_rings]
  refine runF_of ⟨rfl, by decide⟩ ?_
  show evSs _ _ F__law_rings.body ⟨r0E, g⟩ = _
  have t1 : evS (callN T1 w (k + 1)) w (.par [1, 2, 3, 4] [sizesE, (.lst []), (.lst []), (.c (.int 1))]) ⟨r0E, g⟩ = some (.nx ⟨rE (some (zD zs, true)) [] [] 1 none none none none, g1⟩) := by
    simp [e1]
  have t2 : evS (callN T1 w (k + 1)) w (.for_ 2 (.t [(.n 5), (.n 6)]) [argE] rB) ⟨rE (some (zD zs, true)) [] [] 1 none none none none, g1⟩ = some (.nx ⟨rE x1 (mvR R 0 1) R (lostR R 1) y5 y6 y7 y8, g2⟩) := by
    rw [z_for, e2, Option.bind_some]
    dsimp only
    rw [wk2, Option.bind_some, List.zipIdx_map, List.map_map]
    exact e3
  have t3 : evS (callN T1 w (k + 1)) w (.asg (.n 9) (.v 4)) ⟨rE x1 (mvR R 0 1) R (lostR R 1) y5 y6 y7 y8, g2⟩ = some (.nx ⟨(rE x1 (mvR R 0 1) R (lostR R 1) y5 y6 y7 y8).set 9 (some (.int (lost R), false)), g2⟩) := by
    simp
  have t4 : evS (callN T1 w (k + 1)) w (.ext 2 (.lst [(.tup [(.c (.int 0)), (.c (.int 2)), (.c (.int 20)), (.v 9)]), (.tup [(.v 9), (.c (.int 0)), (.b .sub (.c (.int 20)) (.b .mul (.c (.int 40)) (.call ("_law_draw" : Str) [(.v 0), (.c (.int 2))]))), (.v 9)])])) ⟨(rE x1 (mvR R 0 1) R (lostR R 1) y5 y6 y7 y8).set 9 (some (.int (lost R), false)), g2⟩ =
      some (.nx ⟨(rE x1 (mvs R (20 - 40 * r)) R (lostR R 1) y5 y6 y7 y8).set 9 (some (.int (lost R), false)), g3⟩) := by
    rw [ext_step (st1 := ⟨(rE x1 (mvR R 0 1) R (lostR R 1) y5 y6 y7 y8).set 9 (some (.int (lost R), false)), g3⟩) (l0 := (mvR R 0 1).map dA) (l := (mvR R 0 1).map dA) (m := [dA (0, 2, 20, lost R), dA (lost R, 0, 20 - 40 * r, lost R)]) (f := true) rfl (by simp [d1, s40]) rfl (by rw [List.length_map]; exact szm)]
    have : (mvR R 0 1).map dA ++ [dA (0, 2, 20, lost R), dA (lost R, 0, 20 - 40 * r, lost R)] = (mvs R (20 - 40 * r)).map dA := by unfold mvs; rw [List.map_append]; rfl
    rw [this]
    rfl
  have t5 : evS (callN T1 w (k + 1)) w (.ret (.tup [(.tup [(.b .add (.p 4) (.c (.int 1))), (.c (.int 3)), (.lst [(.tup [(.c (.int 0)), (.call ("_law_draw" : Str) [(.v 0), (.c (.int 5))])])]), (.call ("_law_unlike" : Str) [(.v 2)]), (.lst [(.tup [(.c (.int 0)), (.c (.int 0))])])]), (.v 3)])) ⟨(rE x1 (mvs R (20 - 40 * r)) R (lostR R 1) y5 y6 y7 y8).set 9 (some (.int (lost R), false)), g3⟩ =
      some (.ret (.tup [cD R s (srt R (20 - 40 * r)), .lst (R.map ringD)]) false g4) := by
    simp [c1, ul, cD]
  unfold F__law_rings
  dsimp only
  rw [z_ss1, t1, Option.bind_some]
  dsimp only
  rw [z_ss1, t2, Option.bind_some]
  dsimp only
  rw [z_ss1, t3, Option.bind_some]
  dsimp only
  rw [z_ss1, t4, Option.bind_some]
  dsimp only
  rw [z_ss1, t5]
  rfl
end
end Hd
end
section
set_option maxHeartbeats 4000000
/-! the law -/
namespace Hd
open PySem WW MM
theorem frac_trans {x y z p q s : Int} (hp : 0 < p) (hq : 0 < q) (hs : 0 < s) (h1 : x * q ≤ y * p) (h2 : y * s ≤ z * q) : x * s ≤ z * p := by
  have a1 := Int.mul_le_mul_of_nonneg_right h1 (Int.le_of_lt hs)
  have a2 := Int.mul_le_mul_of_nonneg_right h2 (Int.le_of_lt hp)
  refine Int.le_of_mul_le_mul_right (a := q) ?_ hq
  have e1 : x * s * q = x * q * s := by rw [Int.mul_assoc, Int.mul_comm s, ← Int.mul_assoc]
  have e2 : y * p * s = y * s * p := by rw [Int.mul_assoc, Int.mul_comm p, ← Int.mul_assoc]
  have e3 : z * p * q = z * q * p := by rw [Int.mul_assoc, Int.mul_comm p, ← Int.mul_assoc]
  omega
theorem l3_len {r : List Int} (h : L3 r) : 0 < (r.length : Int) ∧ (r.length : Int) ≤ 3 := by
  rcases h with ⟨a, rfl⟩ | ⟨a, b, rfl⟩ | ⟨a, b, c, rfl⟩ <;> simp
theorem l3_small {r : List Int} (h : L3 r) : small (r.length : Int) = true := by
  have := l3_len h
  simp only [small, Bool.and_eq_true, decide_eq_true_eq]
  omega
theorem shp_l3 {R : List (List Int)} (h : Shp R) : (∀ r ∈ R, L3 r) ∧ R ≠ [] := by
  cases h <;> refine ⟨?_, by simp⟩ <;> intro r hr <;> simp at hr <;> first | (subst hr; exact l3_of (by simp)) | (rcases hr with rfl | rfl <;> exact l3_of (by simp)) | (rcases hr with rfl | rfl | rfl <;> exact l3_of (by simp))
section
variable {k n : Nat} {g : G}
abbrev lwE (ns : List Int) (x2 x3 x4 x5 x6 x7 x8 x9 : Option (D × Bool)) : WW.Env := [some (.scr ns, false), some (.strm, false), x2, x3, x4, x5, x6, x7, x8, x9, none, none]
abbrev mmB : List S := [.asg (.n 5) (.ite (.b .lt (.b .mul (.b .idx (.p 7) (.c (.int 0))) (.b .idx (.p 5) (.c (.int 1)))) (.b .mul (.b .idx (.p 5) (.c (.int 0))) (.b .idx (.p 7) (.c (.int 1))))) (.v 7) (.v 5)),
    .asg (.n 6) (.ite (.b .gt (.b .mul (.b .idx (.p 7) (.c (.int 0))) (.b .idx (.p 6) (.c (.int 1)))) (.b .mul (.b .idx (.p 6) (.c (.int 0))) (.b .idx (.p 7) (.c (.int 1))))) (.v 7) (.v 6))]
theorem mm_loop {C : Cl} {w : Nat} {ns : List Int} {x2 x3 x4 x8 x9 : Option (D × Bool)} : ∀ (todo : List (List Int)) (a b : List Int) (x7 : Option (D × Bool)), (∀ r ∈ todo, L3 r) → L3 a → L3 b →
    ∃ a' b' y7, forL (evSs C w mmB) (.n 7) (todo.map ringD) ⟨lwE ns x2 x3 x4 (some (ringD a, false)) (some (ringD b, false)) x7 x8 x9, g⟩ = some (.nx ⟨lwE ns x2 x3 x4 (some (ringD a', false)) (some (ringD b', false)) y7 x8 x9, g⟩) ∧ IsMin (a :: todo) a' ∧ IsMax (b :: todo) b'
  | [], a, b, x7, _, ha, hb => ⟨a, b, x7, rfl, ⟨by simp, fun q hq => by rw [List.mem_singleton.mp hq]; exact Int.le_refl _⟩, ⟨by simp, fun q hq => by rw [List.mem_singleton.mp hq]; exact Int.le_refl _⟩⟩
  | r :: todo, a, b, x7, h, ha, hb => by
    have hr := h r (by simp)
    obtain ⟨a1, ea⟩ : ∃ a1, a1 = if r.sum * a.length < a.sum * r.length then r else a := ⟨_, rfl⟩
    obtain ⟨b1, eb⟩ : ∃ b1, b1 = if b.sum * r.length < r.sum * b.length then r else b := ⟨_, rfl⟩
    have ha1 : L3 a1 := by rw [ea]; split; exact hr; exact ha
    have hb1 : L3 b1 := by rw [eb]; split; exact hr; exact hb
    obtain ⟨a', b', y7, e, m1, m2⟩ := mm_loop (C := C) (w := w) (ns := ns) (x2 := x2) (x3 := x3) (x4 := x4) (x8 := x8) (x9 := x9) todo a1 b1 (some (ringD r, false)) (fun q hq => h q (by simp [hq])) ha1 hb1
    have la := l3_len ha
    have lb := l3_len hb
    have lr := l3_len hr
    have la1 := l3_len ha1
    have lb1 := l3_len hb1
    have all : ∀ q ∈ a1 :: todo, L3 q := fun q hq => by
      rcases List.mem_cons.mp hq with rfl | hq
      · exact ha1
      · exact h q (by simp [hq])
    have all2 : ∀ q ∈ b1 :: todo, L3 q := fun q hq => by
      rcases List.mem_cons.mp hq with rfl | hq
      · exact hb1
      · exact h q (by simp [hq])
    have la' := l3_len (all a' m1.1)
    have lb' := l3_len (all2 b' m2.1)
    refine ⟨a', b', y7, ?_, ⟨?_, fun q hq => ?_⟩, ⟨?_, fun q hq => ?_⟩⟩
    · rw [List.map_cons]
      unfold forL
      show (evSs C w mmB ⟨lwE ns x2 x3 x4 (some (ringD a, false)) (some (ringD b, false)) (some (ringD r, false)) x8 x9, g⟩).bind _ = _
      have sa := l3_small ha
      have sb := l3_small hb
      have sr := l3_small hr
      have e1 : evSs C w mmB ⟨lwE ns x2 x3 x4 (some (ringD a, false)) (some (ringD b, false)) (some (ringD r, false)) x8 x9, g⟩ = some (.nx ⟨lwE ns x2 x3 x4 (some (ringD a1, false)) (some (ringD b1, false)) (some (ringD r, false)) x8 x9, g⟩) := by
        rw [ea, eb]
        by_cases c1 : r.sum * a.length < a.sum * r.length <;> by_cases c2 : b.sum * r.length < r.sum * b.length <;> simp [mmB, ringD, sa, sb, sr, c1, c2]
      rw [e1]
      exact e
    · have := m1.1
      rcases List.mem_cons.mp this with e0 | e0
      · rw [e0, ea]; split <;> simp
      · simp [e0]
    · have h1 : a1.sum * a.length ≤ a.sum * a1.length ∧ a1.sum * r.length ≤ r.sum * a1.length := by
        rw [ea]; split <;> (constructor <;> omega)
      have key := m1.2 a1 (by simp)
      rcases List.mem_cons.mp hq with rfl | hq
      · exact frac_trans la'.1 la1.1 la.1 key h1.1
      · rcases List.mem_cons.mp hq with rfl | hq
        · exact frac_trans la'.1 la1.1 lr.1 key h1.2
        · exact m1.2 q (by simp [hq])
    · have := m2.1
      rcases List.mem_cons.mp this with e0 | e0
      · rw [e0, eb]; split <;> simp
      · simp [e0]
    · have h1 : b.sum * b1.length ≤ b1.sum * b.length ∧ r.sum * b1.length ≤ b1.sum * r.length := by
        rw [eb]; split <;> (constructor <;> omega)
      have key := m2.2 b1 (by simp)
      rcases List.mem_cons.mp hq with rfl | hq
      · exact frac_trans lb.1 lb1.1 lb'.1 h1.1 key
      · rcases List.mem_cons.mp hq with rfl | hq
        · exact frac_trans lr.1 lb1.1 lb'.1 h1.2 key
        · exact m2.2 q (by simp [hq])
end
end Hd
end
section
set_option maxHeartbeats 4000000
/-! the law's turns -/
namespace Hd
open PySem WW MM
section
variable {k n : Nat} {g : G}
abbrev lawB : List S := [.asg (.t [(.n 3), (.n 4)]) (.call ("_law_rings" : Str) [(.v 1)]),
    .par [5, 6] [(.b .idx (.p 4) (.c (.int 0))), (.b .idx (.p 4) (.c (.int 0)))],
    .for_ 0 (.n 7) [(.b .sla (.p 4) (.c (.int 1)))] mmB,
    .asg (.n 8) (.lst [(.call ("_law_lowest" : Str) [(.b .idx (.p 5) (.c (.int 0))), (.b .idx (.p 5) (.c (.int 1)))]), (.call ("_law_lowest" : Str) [(.b .idx (.p 6) (.c (.int 0))), (.b .idx (.p 6) (.c (.int 1)))])]),
    .ite (.not (.u .tru (.call ("_law_same" : Str) [(.lst [(.call ("means" : Str) [(.call ("_law_loose" : Str) [(.v 1), (.v 3)])]), (.call ("counted_stands" : Str) [(.v 3)])]), (.lst [(.v 8), (.u .rng (.b .sub (.b .idx (.p 3) (.c (.int 0))) (.c (.int 1))))])]))) [.ret (.c (.bl false))] [],
    .ite (.or (.not (.u .tru (.call ("_law_paper_right" : Str) [(.v 1), (.v 3), (.c (.bl true)), (.b .idx (.p 8) (.c (.int 0)))]))) (.not (.u .tru (.call ("_law_paper_right" : Str) [(.v 1), (.v 3), (.c (.bl false)), (.b .idx (.p 8) (.c (.int 1)))])))) [.ret (.c (.bl false))] [],
    .asg (.n 9) (.tup [(.b .idx (.p 3) (.c (.int 0))), (.c (.int 3)), (.b .idx (.p 3) (.c (.int 2))), (.lc (.v 11) 0 (.n 11) [(.b .idx (.p 3) (.c (.int 3)))] [(.and (.b .eq (.b .idx (.p 11) (.c (.int 0))) (.c (.int 0))) (.b .gt (.b .idx (.p 11) (.c (.int 3))) (.c (.int 0))))] [10, 11]), (.b .idx (.p 3) (.c (.int 4)))]),
    .ite (.or (.not (.u .tru (.call ("_law_same" : Str) [(.call ("means" : Str) [(.v 9)]), (.lst [])]))) (.not (.u .tru (.call ("_law_paper_right" : Str) [(.v 1), (.v 9), (.b .eq (.call ("_law_draw" : Str) [(.v 1), (.c (.int 2))]) (.c (.int 0))), (.c .non)])))) [.ret (.c (.bl false))] []]
section
variable {R : List (List Int)} {s : Int} {ms : List Ar} {r : List Int} {G0 : WW.Env}
@[simp] theorem cp_c : isPend (cD R s ms) = false := rfl
@[simp] theorem cn_c : norm (cD R s ms) = cD R s ms := rfl
@[simp] theorem ci_0 : bF .idx (cD R s ms) (.int 0) = some (.int (lost R + 1), false) := rfl
@[simp] theorem ci_2 : bF .idx (cD R s ms) (.int 2) = some (.lst [.tup [.int 0, .int s]], false) := rfl
@[simp] theorem ci_3 : bF .idx (cD R s ms) (.int 3) = some (dAs ms, false) := rfl
@[simp] theorem ci_4 : bF .idx (cD R s ms) (.int 4) = some (.lst [.tup [.int 0, .int 0]], false) := rfl
@[simp] theorem rp_r : isPend (ringD r) = false := rfl
@[simp] theorem rn_r : norm (ringD r) = ringD r := rfl
@[simp] theorem ri_0 : bF .idx (ringD r) (.int 0) = some (.int r.sum, false) := rfl
@[simp] theorem ri_1 : bF .idx (ringD r) (.int 1) = some (.int r.length, false) := rfl
@[simp] theorem uF_not {b : Bool} : uF .tru (.bl b) = some (.bl b, false) := rfl
end
theorem turn_ok {ns : List Int} {x2 x3 x4 x5 x6 x7 x8 x9 : Option (D × Bool)} (q : GOk n g) (hn : n + 300000 < 1000000000) :
    ∃ y3 y4 y5 y6 y7 y8 y9 g', evSs (callN T1 W0 (k + 9)) W0 lawB ⟨lwE ns x2 x3 x4 x5 x6 x7 x8 x9, g⟩ = some (.nx ⟨lwE ns x2 y3 y4 y5 y6 y7 y8 y9, g'⟩) ∧ GOk (n + 30000) g' := by
  obtain ⟨R, s, x, f0, g1, h, hb, e1, q1⟩ := law_rings_ok (w := W0) (k := k + 7) q (by omega)
  have e1 : (callN T1 W0 (k + 9)).f "_law_rings" [.strm] g = some (.tup [cD R s (srt R x), .lst (R.map ringD)], f0, g1) := e1
  obtain ⟨l3, hne⟩ := shp_l3 h
  obtain ⟨r0, Rs, hR⟩ := List.exists_cons_of_ne_nil hne
  obtain ⟨a, b, y7, e2, m1, m2⟩ := mm_loop (C := callN T1 W0 (k + 9)) (w := W0) (g := g1) (ns := ns) (x2 := x2) (x3 := some (cD R s (srt R x), false)) (x4 := some (.lst (R.map ringD), false)) (x8 := x8) (x9 := x9) Rs r0 r0 x7 (fun r hr => l3 r (by rw [hR]; simp [hr])) (l3 r0 (by rw [hR]; simp)) (l3 r0 (by rw [hR]; simp))
  rw [← hR] at m1 m2
  have la := l3_len (l3 a m1.1)
  have lb := l3_len (l3 b m2.1)
  have e3 : (callN T1 W0 (k + 9)).f "_law_lowest" [.int a.sum, .int a.length] g1 = some (lw a.sum a.length, false, g1) := law_lowest_ok la.1 (by omega) (by show _ < 10000000; omega)
  have e4 : (callN T1 W0 (k + 9)).f "_law_lowest" [.int b.sum, .int b.length] g1 = some (lw b.sum b.length, false, g1) := law_lowest_ok lb.1 (by omega) (by show _ < 10000000; omega)
  obtain ⟨mine, g2, e5, hd, q2⟩ := loose_counter (w := W0) (k := k + 5) (c := lost R + 1) (s := s) (ms := srt R x) q1 (by omega) (ctr_srt (x := x) h hb).l
  have e5 : (callN T1 W0 (k + 9)).f "_law_loose" [.strm, cD R s (srt R x)] g1 = some (mine, false, g2) := e5
  have e6 := means_ok (k := k + 2) (g := g2) h hb hd m1 m2
  have e7 : (callN T1 W0 (k + 9)).f "counted_stands" [cD R s (srt R x)] g2 = some (dI (us R), true, g2) := counted_ok (k := k + 2) (g := g2) h hb (loc_self (lost R + 1) s (srt R x))
  obtain ⟨u1, u2, u3⟩ := us_ok h
  have ul : (us R).length = (lost R).toNat := by unfold us; rw [List.length_map, List.length_range]
  have hrng : uF .rng (.int (lost R + 1 - 1)) = some (dI (us R), true) := by
    rw [Int.add_sub_cancel]
    show (if -16777216 ≤ lost R ∧ lost R ≤ 16777216 then some (D.lst ((List.range (lost R).toNat).map fun (m : Nat) => .int (m : Int)), true) else none) = _
    rw [if_pos (by omega)]
    unfold us dI
    rw [List.map_map]
    rfl
  have sdl : ∀ (a b : Int), SD 1 (lw a b) := fun a b => .inr ⟨_, .inl rfl, by show 2 ≤ 1000; decide, fun x hx => by
    simp only [List.mem_cons, List.not_mem_nil, or_false] at hx
    rcases hx with rfl | rfl <;> exact .inl ⟨_, rfl⟩⟩
  have e8 : (callN T1 W0 (k + 9)).f "_law_same" [.lst [.lst [lw a.sum a.length, lw b.sum b.length], dI (us R)], .lst [.lst [lw a.sum a.length, lw b.sum b.length], dI (us R)]] g2 = some (.bl true, false, g2) := same_self (m := 3) (k := k + 5) (.inr ⟨_, .inr rfl, by show 2 ≤ 1000; decide, fun x hx => by
    simp only [List.mem_cons, List.not_mem_nil, or_false] at hx
    rcases hx with rfl | rfl
    · refine .inr ⟨_, .inr rfl, by show 2 ≤ 1000; decide, fun x hx => ?_⟩
      simp only [List.mem_cons, List.not_mem_nil, or_false] at hx
      rcases hx with rfl | rfl <;> exact sdl _ _
    · exact .inr ⟨_, .inr rfl, by rw [List.length_map]; omega, fun x hx => by
        obtain ⟨i, _, rfl⟩ := List.mem_map.mp hx
        exact .inl (.inl ⟨i, rfl⟩)⟩⟩)
  obtain ⟨f3, g3, e9, q3⟩ := paper_right (k := k + 1) (s := s) (x := x) h hb q2 (by omega) (fl := true) (a := a.sum / lwg a.sum a.length) (b := a.length / lwg a.sum a.length) fun t h' le => by
    obtain ⟨p1, p2⟩ := min_mean h m1 le
    exact ⟨by rw [p1]; simp [sgn], p2⟩
  obtain ⟨f4, g4, e10, q4⟩ := paper_right (k := k + 1) (s := s) (x := x) h hb q3 (by omega) (fl := false) (a := b.sum / lwg b.sum b.length) (b := b.length / lwg b.sum b.length) fun t h' le => by
    obtain ⟨p1, p2⟩ := max_mean h m2 le
    exact ⟨by rw [← p1]; simp [sgn, Int.neg_mul], p2⟩
  have e11 := lc_enc (C := callN T1 W0 (k + 9)) (e := .v 11) (k := 0) (t := .n 11) (a := [(.b .idx (.p 3) (.c (.int 3)))]) (ifs := [(.and (.b .eq (.b .idx (.p 11) (.c (.int 0))) (.c (.int 0))) (.b .gt (.b .idx (.p 11) (.c (.int 3))) (.c (.int 0))))]) (own := [10, 11]) (st := ⟨lwE ns x2 (some (cD R s (srt R x), false)) (some (.lst (R.map ringD), false)) (some (ringD a, false)) (some (ringD b, false)) y7 (some (.lst [lw a.sum a.length, lw b.sum b.length], false)) x9, g4⟩) (ds := [dAs (srt R x)]) (srt R x) dA (fun a => decide (a.1 = 0) && decide (0 < a.2.2.2)) dA (by simp [cD]) (by simp)
    (fun m _ => ⟨(lwE ns x2 (some (cD R s (srt R x), false)) (some (.lst (R.map ringD), false)) (some (ringD a, false)) (some (ringD b, false)) y7 (some (.lst [lw a.sum a.length, lw b.sum b.length], false)) x9).set 11 (some (dA m, false)), by simp [wip], by simp [wip], by
      by_cases c1 : m.1 = 0 <;> by_cases c2 : 0 < m.2.2.2 <;> simp [c1, c2], fun _ => ⟨false, by simp⟩⟩) (fun r h => back_own h (by simp [keepS, cD, ringD])) (Nat.le_trans (ctr_srt (x := x) h hb).l (by decide))
  have e12 : (callN T1 W0 (k + 9)).f "means" [cD R s (alo (srt R x))] g4 = some (.lst [], true, g4) := ameans_ok (k := k + 2) (g := g4) h hb (loc_self (lost R + 1) s (alo (srt R x)))
  have e13 : (callN T1 W0 (k + 9)).f "_law_same" [.lst [], .lst []] g4 = some (.bl true, false, g4) := same_self (m := 1) (k := k + 7) (.inr ⟨[], .inr rfl, Nat.zero_le _, fun x hx => by simp at hx⟩)
  obtain ⟨r, g5, d1, d2, d3, q5⟩ := draw_ok (w := W0) (k := k + 8) (m := 2) q4 (by omega) (by decide) (by decide)
  obtain ⟨f6, g6, e14, q6⟩ := apaper_right (k := k + 1) (s := s) (x := x) h hb q5 (by omega) (fl := decide (r = 0))
  have c0 : cD R s (alo (srt R x)) = .tup [.int (lost R + 1), .int 3, .lst [.tup [.int 0, .int s]], dAs (alo (srt R x)), .lst [.tup [.int 0, .int 0]]] := rfl
  have a00 : L2.atI (R.map ringD) 0 = some (ringD r0) := by rw [hR, List.map_cons]; exact a_0
  have cut : bF .sla (.lst (R.map ringD)) (.int 1) = some (.lst (Rs.map ringD), true) := by
    show some (D.lst (cutD (R.map ringD) (some 1) none), true) = _
    rw [cut1, hR]
    rfl
  have t1 : evS (callN T1 W0 (k + 9)) W0 (.asg (.t [(.n 3), (.n 4)]) (.call ("_law_rings" : Str) [(.v 1)])) ⟨lwE ns x2 x3 x4 x5 x6 x7 x8 x9, g⟩ = some (.nx ⟨lwE ns x2 (some (cD R s (srt R x), false)) (some (.lst (R.map ringD), false)) x5 x6 x7 x8 x9, g1⟩) := by
    simp [-List.map_map, e1]
  have t2 : evS (callN T1 W0 (k + 9)) W0 (.par [5, 6] [(.b .idx (.p 4) (.c (.int 0))), (.b .idx (.p 4) (.c (.int 0)))]) ⟨lwE ns x2 (some (cD R s (srt R x), false)) (some (.lst (R.map ringD), false)) x5 x6 x7 x8 x9, g1⟩ = some (.nx ⟨lwE ns x2 (some (cD R s (srt R x), false)) (some (.lst (R.map ringD), false)) (some (ringD r0, false)) (some (ringD r0, false)) x7 x8 x9, g1⟩) := by
    simp [a00]
  have t3 : evS (callN T1 W0 (k + 9)) W0 (.for_ 0 (.n 7) [(.b .sla (.p 4) (.c (.int 1)))] mmB) ⟨lwE ns x2 (some (cD R s (srt R x), false)) (some (.lst (R.map ringD), false)) (some (ringD r0, false)) (some (ringD r0, false)) x7 x8 x9, g1⟩ = some (.nx ⟨lwE ns x2 (some (cD R s (srt R x), false)) (some (.lst (R.map ringD), false)) (some (ringD a, false)) (some (ringD b, false)) y7 x8 x9, g1⟩) := by
    rw [z_for]
    have : evs (callN T1 W0 (k + 9)) [(.b .sla (.p 4) (.c (.int 1)))] ⟨lwE ns x2 (some (cD R s (srt R x), false)) (some (.lst (R.map ringD), false)) (some (ringD r0, false)) (some (ringD r0, false)) x7 x8 x9, g1⟩ = some ([.lst (Rs.map ringD)], ⟨lwE ns x2 (some (cD R s (srt R x), false)) (some (.lst (R.map ringD), false)) (some (ringD r0, false)) (some (ringD r0, false)) x7 x8 x9, g1⟩) := by simp [cut]
    rw [this, Option.bind_some]
    exact e2
  have t4 : evS (callN T1 W0 (k + 9)) W0 (.asg (.n 8) (.lst [(.call ("_law_lowest" : Str) [(.b .idx (.p 5) (.c (.int 0))), (.b .idx (.p 5) (.c (.int 1)))]), (.call ("_law_lowest" : Str) [(.b .idx (.p 6) (.c (.int 0))), (.b .idx (.p 6) (.c (.int 1)))])])) ⟨lwE ns x2 (some (cD R s (srt R x), false)) (some (.lst (R.map ringD), false)) (some (ringD a, false)) (some (ringD b, false)) y7 x8 x9, g1⟩ = some (.nx ⟨lwE ns x2 (some (cD R s (srt R x), false)) (some (.lst (R.map ringD), false)) (some (ringD a, false)) (some (ringD b, false)) y7 (some (.lst [lw a.sum a.length, lw b.sum b.length], true)) x9, g1⟩) := by
    simp [e3, e4]
  have t5 : evS (callN T1 W0 (k + 9)) W0 (.ite (.not (.u .tru (.call ("_law_same" : Str) [(.lst [(.call ("means" : Str) [(.call ("_law_loose" : Str) [(.v 1), (.v 3)])]), (.call ("counted_stands" : Str) [(.v 3)])]), (.lst [(.v 8), (.u .rng (.b .sub (.b .idx (.p 3) (.c (.int 0))) (.c (.int 1))))])]))) [.ret (.c (.bl false))] []) ⟨lwE ns x2 (some (cD R s (srt R x), false)) (some (.lst (R.map ringD), false)) (some (ringD a, false)) (some (ringD b, false)) y7 (some (.lst [lw a.sum a.length, lw b.sum b.length], true)) x9, g1⟩ = some (.nx ⟨lwE ns x2 (some (cD R s (srt R x), false)) (some (.lst (R.map ringD), false)) (some (ringD a, false)) (some (ringD b, false)) y7 (some (.lst [lw a.sum a.length, lw b.sum b.length], false)) x9, g2⟩) := by
    simp [-Int.add_sub_cancel, e5, e6, e7, hrng, e8]
  have t6 : evS (callN T1 W0 (k + 9)) W0 (.ite (.or (.not (.u .tru (.call ("_law_paper_right" : Str) [(.v 1), (.v 3), (.c (.bl true)), (.b .idx (.p 8) (.c (.int 0)))]))) (.not (.u .tru (.call ("_law_paper_right" : Str) [(.v 1), (.v 3), (.c (.bl false)), (.b .idx (.p 8) (.c (.int 1)))])))) [.ret (.c (.bl false))] []) ⟨lwE ns x2 (some (cD R s (srt R x), false)) (some (.lst (R.map ringD), false)) (some (ringD a, false)) (some (ringD b, false)) y7 (some (.lst [lw a.sum a.length, lw b.sum b.length], false)) x9, g2⟩ = some (.nx ⟨lwE ns x2 (some (cD R s (srt R x), false)) (some (.lst (R.map ringD), false)) (some (ringD a, false)) (some (ringD b, false)) y7 (some (.lst [lw a.sum a.length, lw b.sum b.length], false)) x9, g4⟩) := by
    simp [e9, e10]
  have t7 : evS (callN T1 W0 (k + 9)) W0 (.asg (.n 9) (.tup [(.b .idx (.p 3) (.c (.int 0))), (.c (.int 3)), (.b .idx (.p 3) (.c (.int 2))), (.lc (.v 11) 0 (.n 11) [(.b .idx (.p 3) (.c (.int 3)))] [(.and (.b .eq (.b .idx (.p 11) (.c (.int 0))) (.c (.int 0))) (.b .gt (.b .idx (.p 11) (.c (.int 3))) (.c (.int 0))))] [10, 11]), (.b .idx (.p 3) (.c (.int 4)))])) ⟨lwE ns x2 (some (cD R s (srt R x), false)) (some (.lst (R.map ringD), false)) (some (ringD a, false)) (some (ringD b, false)) y7 (some (.lst [lw a.sum a.length, lw b.sum b.length], false)) x9, g4⟩ = some (.nx ⟨lwE ns x2 (some (cD R s (srt R x), false)) (some (.lst (R.map ringD), false)) (some (ringD a, false)) (some (ringD b, false)) y7 (some (.lst [lw a.sum a.length, lw b.sum b.length], false)) (some (cD R s (alo (srt R x)), false)), g4⟩) := by
    rw [c0]
    have e11 : ev (callN T1 W0 (k + 9)) (.lc (.v 11) 0 (.n 11) [(.b .idx (.p 3) (.c (.int 3)))] [(.and (.b .eq (.b .idx (.p 11) (.c (.int 0))) (.c (.int 0))) (.b .gt (.b .idx (.p 11) (.c (.int 3))) (.c (.int 0))))] [10, 11]) ⟨lwE ns x2 (some (cD R s (srt R x), false)) (some (.lst (R.map ringD), false)) (some (ringD a, false)) (some (ringD b, false)) y7 (some (.lst [lw a.sum a.length, lw b.sum b.length], false)) x9, g4⟩ = some (.inr (dAs (alo (srt R x))), true, ⟨lwE ns x2 (some (cD R s (srt R x), false)) (some (.lst (R.map ringD), false)) (some (ringD a, false)) (some (ringD b, false)) y7 (some (.lst [lw a.sum a.length, lw b.sum b.length], false)) x9, g4⟩) := e11
    simp [e11]
  have t8 : evS (callN T1 W0 (k + 9)) W0 (.ite (.or (.not (.u .tru (.call ("_law_same" : Str) [(.call ("means" : Str) [(.v 9)]), (.lst [])]))) (.not (.u .tru (.call ("_law_paper_right" : Str) [(.v 1), (.v 9), (.b .eq (.call ("_law_draw" : Str) [(.v 1), (.c (.int 2))]) (.c (.int 0))), (.c .non)])))) [.ret (.c (.bl false))] []) ⟨lwE ns x2 (some (cD R s (srt R x), false)) (some (.lst (R.map ringD), false)) (some (ringD a, false)) (some (ringD b, false)) y7 (some (.lst [lw a.sum a.length, lw b.sum b.length], false)) (some (cD R s (alo (srt R x)), false)), g4⟩ = some (.nx ⟨lwE ns x2 (some (cD R s (srt R x), false)) (some (.lst (R.map ringD), false)) (some (ringD a, false)) (some (ringD b, false)) y7 (some (.lst [lw a.sum a.length, lw b.sum b.length], false)) (some (cD R s (alo (srt R x)), false)), g6⟩) := by
    simp [e12, e13, d1, e14]
  refine ⟨some (cD R s (srt R x), false), some (.lst (R.map ringD), false), some (ringD a, false), some (ringD b, false), y7, some (.lst [lw a.sum a.length, lw b.sum b.length], false), some (cD R s (alo (srt R x)), false), g6, ?_, q6.mono (by omega)⟩
  rw [z_ss1, t1, Option.bind_some]
  dsimp only
  rw [z_ss1, t2, Option.bind_some]
  dsimp only
  rw [z_ss1, t3, Option.bind_some]
  dsimp only
  rw [z_ss1, t4, Option.bind_some]
  dsimp only
  rw [z_ss1, t5, Option.bind_some]
  dsimp only
  rw [z_ss1, t6, Option.bind_some]
  dsimp only
  rw [z_ss1, t7, Option.bind_some]
  dsimp only
  rw [z_ss1, t8]
  rfl
end
end Hd
end
section
set_option maxHeartbeats 0
/-! the table of the text -/
namespace Hd
open PySem WW
inductive Tab2 (f : Str → Nat → Option Fn) : List (Str × Nat) → List (Str × Fn) → Prop
  | nil : Tab2 f [] []
  | skip (x : Str) (i : Nat) (idx : List (Str × Nat)) (L : List (Str × Fn)) : (x = "_law_draw" ∨ x = "_law_stream") → Tab2 f idx L → Tab2 f ((x, i) :: idx) L
  | cons (x : Str) (i : Nat) (F : Fn) (idx : List (Str × Nat)) (L : List (Str × Fn)) : f x i = some F → Tab2 f idx L → Tab2 f ((x, i) :: idx) ((x, F) :: L)
theorem Tab2.ok {f : Str → Nat → Option Fn} {idx : List (Str × Nat)} {L : List (Str × Fn)} (h : Tab2 f idx L) {x : Str} (h1 : x ≠ "_law_draw") (h2 : x ≠ "_law_stream") : ((idx.lookup x).bind fun i => f x i) = L.lookup x := by
  induction h with
  | nil => rfl
  | skip y i idx L hx _ ih =>
    rw [List.lookup_cons]
    have : (x == y) = false := by
      rw [beq_eq_false_iff_ne]
      intro e
      rcases hx with hx | hx
      · exact h1 (e.trans hx)
      · exact h2 (e.trans hx)
    rw [this]
    exact ih
  | cons y i F idx L hx _ ih =>
    rw [List.lookup_cons, List.lookup_cons]
    cases e : x == y with
    | true =>
      have := eq_of_beq e
      subst this
      exact hx
    | false => exact ih
abbrev tf (x : Str) (i : Nat) : Option Fn := cFn tx.n tx.glo tx.fre (tx.sl x) ⟨L2.defArgs (topOf P i), L2.defBody (topOf P i), L2.defScope (topOf P i)⟩
theorem tab2 : Tab2 tf idx tabL := by
  unfold idx tabL
  repeat' first | exact Tab2.nil | refine Tab2.skip _ _ _ _ (by first | (left; rfl) | (right; rfl)) ?_ | refine Tab2.cons _ _ _ _ _ (by kernel_rfl) ?_
theorem tab_f {x : Str} (h1 : x ≠ "_law_draw") (h2 : x ≠ "_law_stream") : tx.tab.f x = T1.f x := by
  have := tab2.ok h1 h2
  show ((idx.lookup x).map _).bind _ = tabL.lookup x
  rw [← this]
  cases idx.lookup x <;> rfl
theorem tab_call {w : Nat} : ∀ k, callN tx.tab w k = callN T1 w k
  | 0 => rfl
  | k + 1 => by
    have ih := tab_call (w := w) k
    unfold callN
    rw [ih]
    congr 1
    funext x ds g
    by_cases h1 : x = "_law_draw"
    · subst h1; rfl
    by_cases h2 : x = "_law_stream"
    · subst h2; rfl
    rw [prim_none h1 h2]
    dsimp only
    rw [tab_f h1 h2]
end Hd
end
section
set_option maxHeartbeats 4000000
/-! the law tells True -/
namespace Hd
open PySem WW MM
theorem turns {k : Nat} {ns : List Int} : ∀ (xs : List D) (n : Nat) (g : G) (x2 x3 x4 x5 x6 x7 x8 x9 : Option (D × Bool)), GOk n g → n + 30000 * xs.length + 300000 < 1000000000 →
    ∃ y2 y3 y4 y5 y6 y7 y8 y9 g', forL (evSs (callN T1 W0 (k + 9)) W0 lawB) (.n 2) xs ⟨lwE ns x2 x3 x4 x5 x6 x7 x8 x9, g⟩ = some (.nx ⟨lwE ns y2 y3 y4 y5 y6 y7 y8 y9, g'⟩)
  | [], n, g, x2, x3, x4, x5, x6, x7, x8, x9, _, _ => ⟨x2, x3, x4, x5, x6, x7, x8, x9, g, rfl⟩
  | x :: xs, n, g, x2, x3, x4, x5, x6, x7, x8, x9, q, hn => by
    rw [List.length_cons] at hn
    obtain ⟨y3, y4, y5, y6, y7, y8, y9, g', e, q'⟩ := turn_ok (k := k) (ns := ns) (x2 := some (x, false)) (x3 := x3) (x4 := x4) (x5 := x5) (x6 := x6) (x7 := x7) (x8 := x8) (x9 := x9) q (by omega)
    obtain ⟨z2, z3, z4, z5, z6, z7, z8, z9, g2, e2⟩ := turns xs (n + 30000) g' (some (x, false)) y3 y4 y5 y6 y7 y8 y9 q' (by omega)
    refine ⟨z2, z3, z4, z5, z6, z7, z8, z9, g2, ?_⟩
    unfold forL
    show (evSs (callN T1 W0 (k + 9)) W0 lawB ⟨lwE ns (some (x, false)) x3 x4 x5 x6 x7 x8 x9, g⟩).bind _ = _
    rw [e]
    exact e2
theorem law_ok {k : Nat} (ns : List Int) : ∃ f g', (callN T1 W0 (k + 10)).f "law" [.scr ns] ⟨none⟩ = some (.bl true, f, g') := by
  have e0 : (callN T1 W0 (k + 9)).f "_law_stream" [.scr ns] ⟨none⟩ = some (.strm, false, ⟨some ⟨ns, 0, 0, 17⟩⟩) := rfl
  obtain ⟨y2, y3, y4, y5, y6, y7, y8, y9, g', e⟩ := turns (k := k) (ns := ns) [.int 0, .int 1, .int 2, .int 3, .int 4, .int 5] 0 ⟨some ⟨ns, 0, 0, 17⟩⟩ none none none none none none none none ⟨⟨ns, 0, 0, 17⟩, rfl, Int.le_refl 0, Int.le_refl 0, show (0 : Int) ≤ 17 by decide, show (17 : Int) < 2147483647 by decide, Int.le_refl 0⟩ (by decide)
  refine ⟨false, g', ?_⟩
  rw [c_law]
  refine runF_of ⟨rfl, by decide⟩ ?_
  show evSs _ _ F_law.body ⟨[some (.scr ns, false), none, none, none, none, none, none, none, none, none, none, none], ⟨none⟩⟩ = _
  have t1 : evS (callN T1 W0 (k + 9)) W0 (.asg (.n 1) (.call ("_law_stream" : Str) [(.v 0)])) ⟨[some (.scr ns, false), none, none, none, none, none, none, none, none, none, none, none], ⟨none⟩⟩ = some (.nx ⟨lwE ns none none none none none none none none, ⟨some ⟨ns, 0, 0, 17⟩⟩⟩) := by
    simp [e0]
  have t2 : evS (callN T1 W0 (k + 9)) W0 (.for_ 1 (.n 2) [(.c (.int 6))] lawB) ⟨lwE ns none none none none none none none none, ⟨some ⟨ns, 0, 0, 17⟩⟩⟩ = some (.nx ⟨lwE ns y2 y3 y4 y5 y6 y7 y8 y9, g'⟩) := by
    rw [z_for]
    exact e
  unfold F_law
  dsimp only
  rw [z_ss1, t1, Option.bind_some]
  dsimp only
  rw [z_ss1, t2]
  rfl
end Hd
end
section
set_option maxHeartbeats 0
namespace Hd
open PySem PySem.Spec PyProof.Rows L2 L2.DX WW
/-! ### the draws -/
abbrev sDraw : Stmt := topOf P 37
abbrev sStr : Stmt := topOf P 36
abbrev sLaw : Stmt := topOf P 48
theorem draw_ps {X : Cx} (hu : X.A.units + 70 < cLine) (calm : X.calm = true) (hp : PassesOwn (model X.prog X.w) X.A X.env X.xe) (hN : X.N = [("stream" : Str), "many", "cell", "digit", "mixed"]) (hs : X.env.scope = defScope sDraw) (m1 : X.mg "abs" = none) (m2 : X.mg "int" = none) : PSs X (defBody sDraw) (tDraw X) := by
  have nd : X.N.Nodup := by rw [hN]; decide
  have loc : ∀ (i : Nat) (x : Str), [("stream" : Str), "many", "cell", "digit", "mixed"][i]? = some x → (defScope sDraw).names.lookup x = some .local → X.N[i]? = some x ∧ X.env.scope.names.lookup x = some .local := fun i x h1 h2 => ⟨by rw [hN]; exact h1, by rw [hs]; exact h2⟩
  have s0 := loc 0 "stream" rfl rfl
  have s1 := loc 1 "many" rfl rfl
  have s2 := loc 2 "cell" rfl rfl
  have s3 := loc 3 "digit" rfl rfl
  have s4 := loc 4 "mixed" rfl rfl
  have g1 : Gl X "abs" := by show X.env.scope.names.lookup ("abs" : Str) = _; rw [hs]; rfl
  have g2 : Gl X "int" := by show X.env.scope.names.lookup ("int" : Str) = _; rw [hs]; rfl
  have v0 : ∀ p, PE X (.Name "stream" p) (tVar 0) := fun p => pe_var s0.1 (.inl s0.2)
  have v1 : ∀ p, PE X (.Name "many" p) (tVar 1) := fun p => pe_var s1.1 (.inl s1.2)
  have v2 : ∀ p, PE X (.Name "cell" p) (tVar 2) := fun p => pe_var s2.1 (.inl s2.2)
  have v3 : ∀ p, PE X (.Name "digit" p) (tVar 3) := fun p => pe_var s3.1 (.inl s3.2)
  have v4 : ∀ p, PE X (.Name "mixed" p) (tVar 4) := fun p => pe_var s4.1 (.inl s4.2)
  have ix : ∀ (i : Int) p1 k p2 p3, PE X (.Subscript (.Name "stream" p1) (.Constant (.int i) k p2) p3) (ixS X.K i) := fun i p1 k p2 p3 => pe_ix ix_list (v0 p1) pe_int fun _ _ => rfl
  have st : ∀ (i : Int) p1 k p2 p3, PG X (.Subscript (.Name "stream" p1) (.Constant (.int i) k p2) p3) (gS i) := fun i p1 k p2 p3 => pg_sub (v0 p1) pe_int set_list
  refine pss_cons (ps_asg (pe_op op_add (ix 2 _ _ _ _) pe_int) (st 2 _ _ _ _)) (pss_cons (ps_while hp (PW.pt (pw_and (pt_cmpR op_eq (ix 1 _ _ _ _) pe_int (nomark _)) (pw_and1 (pt_cmpR (op_neD (by omega)) (ix 0 _ _ _ _) (pe_lst pa_nil) (nomark _))))) ?body) (pss_cons (ps_if (pt_cmpR op_gt (ix 1 _ _ _ _) pe_int (nomark _)) ?thn pss_nil) ?rest))
  case body =>
    refine pss_cons (ps_set (i := 2) nd s2.1 (.inl s2.2) (pe_callB call_abs g1 m1 rfl (pa_cons (pe_m F.plainAttrs_list F.slot_list_pop F.type_list_pop mt_popAt (ix 0 _ _ _ _) (pa_cons pe_int pa_nil) (attrBase rfl _ _ _) rfl rfl rfl rfl) pa_nil)) rfl (.inr s2.2))
      (pss_cons (ps_asg (pe_op op_mod (pe_callTy call_int1 g2 m2 rfl (pa_cons (pe_op op_add (pe_op op_add (pe_op op_mul (ix 3 _ _ _ _) pe_int) (v2 _)) pe_int) pa_nil)) pe_int) (st 3 _ _ _ _))
      (pss_one (ps_asg (pe_ifExp (pt_cmpR op_ge (v2 _) (pe_op op_pow pe_int pe_int) (nomark _)) (v2 _) pe_int) (st 1 _ _ _ _))))
  case thn =>
    exact pss_cons (ps_set (i := 3) nd s3.1 (.inl s3.2) (pe_op op_mod (pe_callTy call_int1 g2 m2 rfl (pa_cons (ix 1 _ _ _ _) pa_nil)) (v1 _)) rfl (.inr s3.2)) (pss_cons (ps_asg (pe_op op_fdiv (ix 1 _ _ _ _) (v1 _)) (st 1 _ _ _ _)) (pss_one (ps_ret (v3 _))))
  case rest =>
    exact pss_cons (ps_set (i := 4) nd s4.1 (.inl s4.2) (pe_op op_mod (pe_callTy call_int1 g2 m2 rfl (pa_cons (pe_op op_pow (pe_op op_add (pe_op op_add (ix 3 _ _ _ _) (pe_op op_mul pe_int (ix 2 _ _ _ _))) pe_int) pe_int) pa_nil)) pe_int) rfl (.inr s4.2))
      (pss_one (ps_ret (pe_op op_mod (pe_op op_mod (pe_callTy call_int1 g2 m2 rfl (pa_cons (pe_op op_pow (pe_op op_add (pe_op op_add (pe_op op_mul (v4 _) pe_int) (pe_op op_mul pe_int (ix 2 _ _ _ _))) pe_int) pe_int) pa_nil)) pe_int) (v1 _))))
theorem prims {K : PySem.W.Frag} {w : World} {mg : Str → Option Value} {base : Heap} {n : Nat} (ok : TxtOk (kOf K w mg) tx) (k : Nat) (X : Cx) (e1 : X.prog = P) (e2 : X.w = w) (e3 : X.K = K) (e4 : X.mg = mg) (e5 : X.base = base) (y : Str) (hy : y ∈ tx.glo) (h : y = "_law_draw" ∨ y = "_law_stream") : DefOk X (kOf K w mg) (callN tx.tab n k) k y := by
  rcases h with rfl | rfl
  · refine prim_ok (N := [("stream" : Str), "many", "cell", "digit", "mixed"]) (t := ⟨defArgs sDraw, defBody sDraw, defScope sDraw⟩) ok rfl rfl (by decide +kernel) ⟨rfl, rfl, rfl, by decide +kernel, rfl, by decide +kernel, by decide +kernel⟩ (fun ds g r hr => ?_) (fun hk f cdv A outer s H vs Q E h hu => ?_) X e1 e2 e3 e4 e5
    · cases k with
      | zero => cases hr
      | succ k =>
        rw [call_draw] at hr
        unfold drawG at hr
        split at hr
        · rfl
        · cases hr
    · cases k with
      | zero => cases hk
      | succ k => exact draw_walk (draw_ps hu rfl (passes_of rfl) rfl rfl (ok.fre "abs" (by decide +kernel)) (ok.fre "int" (by decide +kernel))) h
  · refine prim_ok (N := [("script" : Str)]) (t := ⟨defArgs sStr, defBody sStr, defScope sStr⟩) ok rfl rfl (by decide +kernel) ⟨rfl, rfl, rfl, by decide +kernel, rfl, by decide +kernel, by decide +kernel⟩ (fun ds g r hr => ?_) (fun hk f cdv A outer s H vs Q E h hu => ?_) X e1 e2 e3 e4 e5
    · cases k with
      | zero => cases hr
      | succ k =>
        rw [call_str] at hr
        unfold strF at hr
        split at hr
        · rfl
        · cases hr
    · cases k with
      | zero => cases hk
      | succ k => exact stream_walk rfl rfl rfl rfl rfl (ok.fre "list" (by decide +kernel)) h
/-- what the evaluator has to tell of the law -/
def Plain (n k : Nat) : Prop := ∀ ns : List Int, ns.length ≤ 63 → ∃ f g', (callN tx.tab n k).f "law" [.scr ns] ⟨none⟩ = some (.bl true, f, g')
theorem law_facts {w : World} {K : PySem.W.Frag} {h : Heap} {mg : Str → Option Value} {f : Addr} {n k : Nat} (X : K.In h) (G : h.Ns mainGlobals mg) (hfa : mg ("law" : Str) = some (.ref f)) (c : He.SaysD (faOf idx fre) (idx.map (ddOf P)) K) :
    ∃ fd : FuncData, (∀ (s : Shared) (v : Value), BindsTo s fd ⟨[v], []⟩ [("script", v)]) ∧ ∀ base : Heap, K.In base → base.Ns mainGlobals mg → FnOk P w K mg base CXN (k + 1) f fd ["script"] (spV (kOf K w mg) ((callN tx.tab n (k + 1)).f "law")) := by
  have ok : TxtOk (kOf K w mg) tx := txt_ok X G c tx_all
  obtain ⟨fd, F⟩ := c.def_ (idx.length - 1) (d := ddOf P ("law", 48)) rfl
  have e := hfa.symm.trans (He.glo_ok X G (c.fact (idx.length - 1) (f := .glo "law") rfl))
  cases e
  have b := FunD.bindsA (ps := ["script"]) F fun _ _ _ _ _ _ us hl => match us, hl with | [_], _ => rfl
  refine ⟨fd, fun s v => b s [v] rfl, fun base _ _ => ?_⟩
  obtain ⟨Fn, hF⟩ := Option.isSome_iff_exists.mp (show (cFn tx.n tx.glo tx.fre (tx.sl "law") ⟨defArgs sLaw, defBody sLaw, defScope sLaw⟩).isSome = true by decide +kernel)
  exact (def_fn ok (x := "law") (t := ⟨defArgs sLaw, defBody sLaw, defScope sLaw⟩) rfl hF (by decide) (by decide) (fun X e1 e2 e3 e4 e5 y hy => def_all ok (fun k X e1 e2 e3 e4 e5 y hy hd => prims ok k X e1 e2 e3 e4 e5 y hy hd) k X e1 e2 e3 e4 e5 y hy) F).1
theorem facts {w : World} {K : PySem.W.Frag} {h : Heap} {mg : Str → Option Value} {f : Addr} {n k : Nat} (pl : Plain n (k + 1)) (X : K.In h) (G : h.Ns mainGlobals mg) (hfa : mg ("law" : Str) = some (.ref f)) (c : He.SaysD (faOf idx fre) (idx.map (ddOf P)) K) :
    ∃ (fd : FuncData) (sp : Sp), (∀ (s : Shared) (v : Value), BindsTo s fd ⟨[v], []⟩ [("script", v)]) ∧ (∀ (H : Hp) (a : Addr) (ns : List Int), ns.length ≤ 63 → SqL K H a (ns.map V.int) → sp [.ref a] H (fun v _ => v = .bl true) fun _ _ _ => False) ∧ ∀ base : Heap, K.In base → base.Ns mainGlobals mg → FnOk P w K mg base CXN (k + 1) f fd ["script"] sp := by
  obtain ⟨fd, hb, hF⟩ := law_facts (n := n) (k := k) X G hfa c
  refine ⟨fd, _, hb, fun H a ns hl hS => ?_, hF⟩
  obtain ⟨fl, g', hr⟩ := pl ns hl
  exact sp_law hS hr
end Hd
open PySem PySem.W PySem.Calls PyProof.Rows
theorem law_end {n k : Nat} (pl : Hd.Plain n (k + 1)) (hk : k ≤ 100) : PySem.Challenge.rw_wordforword_k18_whole_means.Holds := by
  w_on; o_law
  refine HandSHeadRun.head_any (r := OpenLaw.row PySem.Challenge.rw_wordforword_k18_whole_means) (q := view (OpenLaw.row PySem.Challenge.rw_wordforword_k18_whole_means).prog [48]) (H := Hd.hk) (ob := Hd.ob) (M := 6000) (loose := Hd.lo) (d := HandSHeadRun.topDef (OpenLaw.row PySem.Challenge.rw_wordforword_k18_whole_means).prog 48) (kwd := []) Hd.ob_eq
    (by kernel_rfl) (fun s => by kernel_rfl) Hd.run (by kernel_rfl) (by kernel_rfl) (by kernel_rfl) (by rfl) (by first | assumption | decide +kernel) (by decide +kernel) ⟨rfl, rfl, rfl, rfl, rfl, by decide +kernel⟩ ?hw ?hc
  case hw => w_witness2
  case hc =>
    refine L2.walk_ofE (l := PySem.Challenge.rw_wordforword_k18_whole_means) (n := 63) (k := k + 1) (x := "script") (CX := WW.CXN) rfl (by decide) (by kernel_rfl) ((⟨rfl, by decide, by decide⟩ : L2.Room 101 callerA).mono (by omega)) ?F (fun _ _ _ _ z => z)
    intro w mg fa h Y G hmg0
    obtain ⟨K, KX, c⟩ := Y
    have hmg : mg ("law" : PySem.Str) = some (.ref fa) := by
      have e : (HandSHeadRun.topDef (OpenLaw.row PySem.Challenge.rw_wordforword_k18_whole_means).prog 48).name = ("law" : PySem.Str) := by kernel_rfl
      rw [← e]
      exact hmg0
    obtain ⟨fd, sp, hb, hs, hF⟩ := Hd.facts (w := w) pl KX G hmg c
    exact ⟨K, fd, sp, KX, hb, fun H a ns hl _ hS => hs H a ns hl hS, hF⟩
end
theorem PySem.Challenge.cw_wordforword_k18_whole_means_holds : PySem.Challenge.rw_wordforword_k18_whole_means.Holds := by
  refine law_end (n := Hd.W0) (k := 9) (fun ns _ => ?_) (by decide)
  rw [Hd.tab_call]
  exact Hd.law_ok (k := 0) ns
