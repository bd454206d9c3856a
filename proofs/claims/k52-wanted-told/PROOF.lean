import PyProof.Rows.All
import Wide.All
import OpenK.AllK
import Wide.FinOn
import KE.KStateDown
import HandS.ForMost
import HandS.ForExc
import HandS.Flow
import HandS.TupAny
import HandS.ExcOwn
import HandS.TryOnly
import HandS.TryMany
import HandS.ExcIs
import HandS.IsInst
import HandS.SetFor
import HandS.Strs
import HandS.SetKeys
import HandS.TupSets
import HandS.SortInts
import HandS.SortOrd
import HandS.Deep
import HandS.DeepEq
import HandS.DictEq
import HandS.Conv
import HandS.Small
import HandS.Zip
import HandS.Rev
import HandS.AnyAll
import HandS.Steps
import HandS.DictTup
import HandS.TupMul
import HandS.Finally
import HandS.WordsDict
import KE.GoesNew
import KE.GoesMore
import HandS.Head0
import HandS.Head1
import HandS.Head2
import HandS.HeadEnd
import HandS.HeadHook1
import HandS.HeadHook2
import HandS.HeadHook3
import HandS.HeadHook4
import PyProof.ReprReads
import PyProof.ReprRoads
import PyProof.CallFns
import HandS.Style
import HandS.More
import HandS.Remove
import KE.KIndexOf
import PyProof.Seq
import HandS.RevRange
import KE.KDictZip
import PySem.Challenge.RW_askthrough_k52_wanted_told
set_option Elab.async false
set_option linter.all false
set_option maxRecDepth 100000
/-! MI1: values, the small language, its evaluator, the compiler from the syntax tree. -/
namespace MI
open PySem
abbrev Nm := PySem.Str
abbrev LN : Nat := 16777216
inductive W where
  | non | bl (b : Bool) | int (i : Int) | str (s : List Nat) | tup (xs : List W) | loc (n : Nat) | gl (x : Nm)
  deriving Inhabited
inductive O where
  | lst (xs : List W) | frl (xs : List W) | dct (kvs : List (W × W)) | frd (kvs : List (W × W)) | ins (c : Nm) (fs : List (Nm × W)) | exn (c : Nm)
  deriving Inhabited
abbrev AH := List O
inductive R (α : Type) where
  | ok (a : α) (h : AH) | ex (c : Nm) (h : AH) | bad
abbrev Mo (α : Type) := AH → R α
def ret {α : Type} (a : α) : Mo α := fun h => .ok a h
def bad {α : Type} : Mo α := fun _ => .bad
def bnd {α β : Type} (m : Mo α) (f : α → Mo β) : Mo β := fun h => match m h with
  | .ok a h' => f a h'
  | .ex c h' => .ex c h'
  | .bad => .bad
def ofO {α : Type} : Option α → Mo α
  | some a => ret a
  | none => bad
def alloc (o : O) : Mo W := fun h => .ok (.loc h.length) (h ++ [o])
def rdO {α : Type} (f : AH → Option α) : Mo α := fun h => match f h with
  | some a => .ok a h
  | none => .bad
def wr (n : Nat) (o : O) : Mo W := fun h => .ok .non (h.set n o)
inductive Bop where
  | add | sub | mul | fdiv | mod | pow
  deriving DecidableEq
inductive Cop where
  | eq | ne | lt | le | gt | ge | in_ | nin | is_ | isn
  deriving DecidableEq
/-- a part of a target: a name, a tuple of names -/
inductive Tt where
  | nm (i : Nat) | tp (is : List Nat)
  deriving DecidableEq
inductive TN where
  | one (i : Nat) | many (is : List Nat) | tr (ts : List Tt)
  deriving DecidableEq
inductive BI where
  | len | abs | min | max | list | tuple | dict | int | bool | str | all | any | sum | sorted | sset | lset | repr | listr | dicte
  deriving DecidableEq
inductive ME where
  | append | pop | get | clear | index | count | extend | items | insert | remove | keys | values
  deriving DecidableEq
mutual
inductive E where
  | var (i : Nat) | non | bl (b : Bool) | int (i : Int) | str (s : List Nat) | gl (x : Nm)
  | tup (es : Es) | lst (es : Es) | dct (es : Es)
  | bin (op : Bop) (a b : E) | neg (a : E) | nt (a : E) | cmp (op : Cop) (a b : E) | chn (o1 o2 : Cop) (a b c : E)
  | and_ (a b : E) | or_ (a b : E) | ite (c a b : E)
  | idx (a i : E) | slc (a : E) (lo hi : E)
  | call (f : Nm) (as : Es) | bi (b : BI) (as : Es) | me (m : ME) (o : E) (as : Es)
  | isi (a : E) (ts : List Nm)
  | comp (elt : E) (t : TN) (it : I) (cs : Es) (own : List Nat)
inductive Es where
  | nil | cons (e : E) (r : Es)
inductive I where
  | val (e : E) | rng (es : Es) | enu (e : E) | zip (es : Es) | rev (e : E)
end
mutual
inductive S where
  | expr (e : E) | asg (t : TN) (e : E) | asgI (o i e : E) | asgL (o lo hi e : E) | aug (i : Nat) (op : Bop) (e : E)
  | if_ (c : E) (a b : Ss) | for_ (t : TN) (it : I) (b : Ss) | while_ (c : E) (b : Ss)
  | ret (e : E) | retN | raise_ (c : Nm) | try_ (b : Ss) (c : Nm) (v : Option Nat) (hd : Ss) | pass | brk | cont
inductive Ss where
  | nil | cons (s : S) (r : Ss)
end
structure Def where
  np : Nat
  nl : Nat
  body : Ss
/-! ### values -/
abbrev st_ (s : List Nat) : PySem.Str := ⟨s.toArray⟩
mutual
def W.toD : W → PyData
  | .non => .none
  | .bl b => .bool b
  | .int i => .int i
  | .str s => .str (st_ s)
  | .tup xs => .tuple (toDs xs)
  | .loc _ => .none
  | .gl _ => .none
def toDs : List W → List PyData
  | [] => []
  | x :: r => x.toD :: toDs r
end
mutual
def W.gr : W → Bool
  | .loc _ => false
  | .gl _ => false
  | .tup xs => grs xs
  | _ => true
def grs : List W → Bool
  | [] => true
  | x :: r => x.gr && grs r
end
mutual
/-- how deep the tuples go -/
def W.dp : W → Nat
  | .tup xs => dps xs + 1
  | _ => 0
def dps : List W → Nat
  | [] => 0
  | x :: r => max x.dp (dps r)
end
def okS (s : List Nat) : Bool := s.all fun c => decide (c < 1114112)
mutual
def W.eqv : W → W → Bool
  | .non, .non => true
  | .bl a, .bl b => a == b
  | .bl a, .int j => (if a then 1 else 0) == j
  | .int i, .bl b => i == (if b then 1 else 0)
  | .int i, .int j => i == j
  | .str a, .str b => a == b
  | .tup xs, .tup ys => eqvs xs ys
  | _, _ => false
def eqvs : List W → List W → Bool
  | [], [] => true
  | x :: r, y :: q => x.eqv y && eqvs r q
  | _, _ => false
end
def isKey : W → Bool
  | .int _ => true
  | .str _ => true
  | _ => false
def dget : List (W × W) → W → Option W
  | [], _ => none
  | (a, v) :: r, k => if a.eqv k then some v else dget r k
def dput : List (W × W) → W → W → List (W × W)
  | [], k, v => [(k, v)]
  | (a, x) :: r, k, v => if a.eqv k then (a, v) :: r else (a, x) :: dput r k v
def lstAt (h : AH) (n : Nat) : Option (List W) := match h[n]? with
  | some (.lst xs) => some xs
  | some (.frl xs) => some xs
  | _ => none
def lstM (h : AH) (n : Nat) : Option (List W) := match h[n]? with
  | some (.lst xs) => some xs
  | _ => none
def dctAt (h : AH) (n : Nat) : Option (List (W × W)) := match h[n]? with
  | some (.dct kvs) => some kvs
  | _ => none
/-- the items of a list or tuple -/
def seqAt (h : AH) : W → Option (List W)
  | .tup xs => some xs
  | .loc n => lstAt h n
  | _ => none
def tru (h : AH) : W → Option Bool
  | .non => some false
  | .bl b => some b
  | .int i => some (i != 0)
  | .str s => if s.length ≤ LN then some (!s.isEmpty) else none
  | .tup xs => some (!xs.isEmpty)
  | .loc n => match h[n]? with
    | some (.lst xs) => some (!xs.isEmpty)
    | some (.frl xs) => some (!xs.isEmpty)
    | some (.dct kvs) => some (!kvs.isEmpty)
    | _ => none
  | .gl _ => none
/-- every value of a's stands equal in b -/
def dsub : List (W × W) → List (W × W) → Bool
  | [], _ => true
  | (k, v) :: r, b => (match dget b k with | some w => v.eqv w | none => false) && dsub r b
def grd : List (W × W) → Bool
  | [] => true
  | (k, v) :: r => isKey k && (v.gr && decide (v.dp ≤ 60)) && grd r
/-- two values that may be compared as data -/
def eqW (x y : W) : Option Bool := if (x.gr && y.gr) && (decide (x.dp ≤ 60) || decide (y.dp ≤ 60)) then some (x.eqv y) else none
def eqL (xs ys : List W) : Option Bool := if (grs xs && grs ys) && (decide (dps xs ≤ 60) || decide (dps ys ≤ 60)) then some (eqvs xs ys) else none
def noL (xs : List W) (y : W) : Option Bool := if (grs xs && y.gr) && (decide (dps xs ≤ 60) || decide (y.dp ≤ 60)) then some false else none
def eqD (xs ys : List (W × W)) : Option Bool := if grd xs && grd ys then some (xs.length == ys.length && dsub xs ys) else none
def eqH (h : AH) : W → W → Option Bool
  | .loc a, .loc b => match dctAt h a, dctAt h b with
    | some xs, some ys => eqD xs ys
    | _, _ => match lstAt h a, lstAt h b with
      | some xs, some ys => eqL xs ys
      | _, _ => none
  | .loc a, y => match lstAt h a with
    | some xs => noL xs y
    | none => none
  | x, .loc b => match lstAt h b with
    | some ys => noL ys x
    | none => none
  | x, y => eqW x y
def inL (x : W) : List W → Bool
  | [] => false
  | y :: r => y.eqv x || inL x r
def inSq (x : W) (xs : List W) : Option Bool := if (grs xs && x.gr) && (decide (dps xs ≤ 60) || decide (x.dp ≤ 60)) then some (inL x xs) else none
def inH (h : AH) (x : W) : W → Option Bool
  | .tup xs => inSq x xs
  | .str s => match x with
    | .str [c] => some (s.contains c)
    | _ => none
  | .loc n => match dctAt h n with
    | some kvs => if isKey x then some (dget kvs x).isSome else none
    | none => match lstAt h n with
      | some xs => inSq x xs
      | none => none
  | _ => none
def isNon : W → Bool
  | .non => true
  | _ => false
def cmpH (h : AH) : Cop → W → W → Option Bool
  | .eq, x, y => eqH h x y
  | .ne, x, y => (eqH h x y).map (!·)
  | .lt, .int i, .int j => some (decide (i < j))
  | .le, .int i, .int j => some (decide (i ≤ j))
  | .gt, .int i, .int j => some (decide (j < i))
  | .ge, .int i, .int j => some (decide (j ≤ i))
  | .in_, x, y => inH h x y
  | .nin, x, y => (inH h x y).map (!·)
  | .is_, x, .non => some (isNon x)
  | .isn, x, .non => some (!isNon x)
  | .is_, .bl a, .bl b => some (decide (a = b))
  | .isn, .bl a, .bl b => some (!decide (a = b))
  | _, _, _ => none
def P64 : Int := 18446744073709551616
def mulOk (i j : Int) : Bool := (decide (-P64 < i) && decide (i < P64)) || (decide (-P64 < j) && decide (j < P64))
def binH (h : AH) : Bop → W → W → Option (Sum W O)
  | .add, .int i, .int j => some (.inl (.int (i + j)))
  | .sub, .int i, .int j => some (.inl (.int (i - j)))
  | .mul, .int i, .int j => if mulOk i j then some (.inl (.int (i * j))) else none
  | .mul, .tup a, .int k => if a.isEmpty = false ∧ 2 ≤ k ∧ k ≤ 1000 ∧ a.length ≤ 1000 then some (.inl (.tup (List.replicate k.toNat a).flatten)) else none
  | .mul, .loc a, .int k => match lstM h a with
    | some xs => if 0 ≤ k ∧ k ≤ 1000 ∧ xs.length ≤ 1000 then some (.inr (.lst (List.replicate k.toNat xs).flatten)) else none
    | none => none
  | .fdiv, .int i, .int j => if 0 < j ∧ j < 1073741824 then some (.inl (.int (i / j))) else none
  | .mod, .int i, .int j => if 0 < j then some (.inl (.int (i % j))) else none
  | .pow, .int i, .int j => if 0 ≤ j ∧ j ≤ 1000 ∧ -P64 < i ∧ i < P64 then some (.inl (.int (i ^ j.toNat))) else none
  | .add, .str a, .str b => if a.length + b.length ≤ LN then some (.inl (.str (a ++ b))) else none
  | .add, .tup a, .tup b => if a.length + b.length ≤ LN then some (.inl (.tup (a ++ b))) else none
  | .add, .loc a, .loc b => match lstM h a, lstM h b with
    | some xs, some ys => if xs.length + ys.length ≤ LN then some (.inr (.lst (xs ++ ys))) else none
    | _, _ => none
  | _, _, _ => none
def ixN (n : Nat) (i : Int) : Option Nat := if 0 ≤ i then (if i < n then some i.toNat else none) else if -(n : Int) ≤ i then some (i + n).toNat else none
def atI {α : Type} (xs : List α) (i : Int) : Option α := (ixN xs.length i).bind fun j => xs[j]?
def idxH (h : AH) : W → W → Option W
  | .tup xs, .int i => atI xs i
  | .str s, .int i => if s.length ≤ LN then (atI s i).map fun c => .str [c] else none
  | .loc n, k => match h[n]? with
    | some (.lst xs) => match k with
      | .int i => atI xs i
      | _ => none
    | some (.frl xs) => match k with
      | .int i => atI xs i
      | _ => none
    | some (.dct kvs) => if isKey k then dget kvs k else none
    | _ => none
  | _, _ => none
/-- a slice's bound -/
def sIx (n : Nat) (d : Nat) : Option Int → Nat
  | none => d
  | some i => if 0 ≤ i then min i.toNat n else (i + n).toNat
def cutL {α : Type} (xs : List α) (lo hi : Option Int) : List α := (xs.drop (sIx xs.length 0 lo)).take (sIx xs.length xs.length hi - sIx xs.length 0 lo)
/-- a slice's bound: none where it isn't written -/
def partM (e : E) (m : Mo W) : Mo (Option Int) := match e with
  | .non => ret none
  | _ => bnd m fun x => match x with
    | .int i => ret (some i)
    | _ => bad
def slcH (h : AH) (lo hi : Option Int) : W → Option (Sum W O)
  | .tup xs => some (.inl (.tup (cutL xs lo hi)))
  | .str s => if s.length ≤ LN then some (.inl (.str (cutL s lo hi))) else none
  | .loc n => match lstAt h n with
    | some xs => some (.inr (.lst (cutL xs lo hi)))
    | none => none
  | _ => none
def outM : Option (Sum W O) → Mo W
  | some (.inl w) => ret w
  | some (.inr o) => alloc o
  | none => bad
/-! ### walked things -/
/-- one side of a zip: a tuple, or a list where it lies -/
inductive Za where
  | t (ws : List W) | l (n : Nat)
def Za.get (h : AH) : Za → Option (List W)
  | .t ws => some ws
  | .l n => lstAt h n
inductive It where
  | seq (ws : List W) | lst (l : Nat) | enu (l : Nat) | zip (a b : Za)
def It.item (h : AH) (i : Nat) : It → Option (Option W)
  | .seq ws => some ws[i]?
  | .lst l => (lstAt h l).map fun ws => ws[i]?
  | .enu l => (lstAt h l).map fun ws => ws[i]?.map fun w => .tup [.int i, w]
  | .zip a b => match a.get h, b.get h with
    | some xs, some ys => if i ≤ xs.length ∧ i ≤ ys.length then some (match xs[i]?, ys[i]? with
      | some x, some y => some (.tup [x, y])
      | _, _ => none) else none
    | _, _ => none
def It.fuel : It → Nat
  | .seq ws => ws.length + 1
  | _ => LN + 1
def zaH (h : AH) : W → Option Za
  | .tup ws => some (.t ws)
  | .loc n => (lstAt h n).map fun _ => .l n
  | _ => none
def zipM : List W → Mo It
  | [x, y] => bnd (rdO fun h => zaH h x) fun a => bnd (rdO fun h => zaH h y) fun b => ret (.zip a b)
  | _ => bad
/-- what is walked; a dict is only read from then on -/
def dkyM (n : Nat) : Mo It := fun h => match h[n]? with
  | some (.dct kvs) => .ok (.seq (kvs.map fun kv => kv.1)) (h.set n (.frd kvs))
  | some (.frd kvs) => .ok (.seq (kvs.map fun kv => kv.1)) h
  | some (.lst _) => .ok (.lst n) h
  | some (.frl _) => .ok (.lst n) h
  | _ => .bad
def rngL (lo : Int) (n : Nat) : List W := (List.range n).map fun (k : Nat) => W.int (lo + k)
def enumL (n : Nat) : List W → List W
  | [] => []
  | w :: r => .tup [.int n, w] :: enumL (n + 1) r
def zipL : List W → List W → List W
  | x :: r, y :: q => .tup [x, y] :: zipL r q
  | _, _ => []
def smallR (i : Int) : Bool := decide (-4611686018427387904 ≤ i) && decide (i < 4611686018427387904)
def rngH : List W → Option It
  | [.int j] => if smallR j then some (.seq (rngL 0 j.toNat)) else none
  | [.int i, .int j] => if smallR i && smallR j then some (.seq (rngL i (j - i).toNat)) else none
  | _ => none
/-- reversed(range(n)) -/
def revH : W → Option It
  | .int j => if smallR j then some (.seq (rngL 0 j.toNat).reverse) else none
  | _ => none
def itM : W → Mo It
  | .tup xs => ret (.seq xs)
  | .str s => ret (.seq (s.map fun c => .str [c]))
  | .loc n => dkyM n
  | _ => bad
/-! ### the environment -/
abbrev Env := List (Option W)
def setAll : Env → List Nat → List W → Option Env
  | s, [], [] => some s
  | s, i :: is, w :: ws => setAll (s.set i (some w)) is ws
  | _, _, _ => none
def setTr : Env → List Tt → List W → Option Env
  | s, [], [] => some s
  | s, .nm i :: ts, w :: ws => setTr (s.set i (some w)) ts ws
  | s, .tp is :: ts, .tup xs :: ws => (setAll s is xs).bind fun s2 => setTr s2 ts ws
  | _, _, _ => none
def bindT (h : AH) (t : TN) (w : W) (s : Env) : Option Env := match t with
  | .one i => some (s.set i (some w))
  | .many is => match seqT h w with
    | some ws => setAll s is ws
    | none => none
  | .tr ts => match seqT h w with
    | some ws => setTr s ts ws
    | none => none
where seqT (h : AH) : W → Option (List W)
  | .tup xs => some xs
  | .loc n => lstAt h n
  | _ => none
def wipeE : Env → List Nat → Env
  | s, [] => s
  | s, v :: vs => (wipeE s vs).set v none
inductive Fl where
  | nx (s : Env) | rt (w : W) | bk (s : Env) | ct (s : Env) | xn (c : Nm) (s : Env)
/-- an expression within a statement: what it raises leaves with the names as they stand -/
def eb {α : Type} (m : Mo α) (s : Env) (k : α → Mo Fl) : Mo Fl := fun h => match m h with
  | .ok w h' => k w h'
  | .ex c h' => .ok (.xn c s) h'
  | .bad => .bad
/-! ### built-ins -/
def pairsOf : List W → Option (List (W × W))
  | [] => some []
  | .tup [k, v] :: r => if isKey k then (pairsOf r).map ((k, v) :: ·) else none
  | _ :: _ => none
/-- keys and values by turns -/
def pairUp : List W → Option (List (W × W))
  | [] => some []
  | k :: v :: r => if isKey k then (pairUp r).map ((k, v) :: ·) else none
  | [_] => none
/-- places as keys -/
def enumD (n : Nat) : List W → List (W × W)
  | [] => []
  | w :: r => (.int n, w) :: enumD (n + 1) r
def mergeD (kvs more : List (W × W)) : List (W × W) := more.foldl (fun acc kv => dput acc kv.1 kv.2) kvs
def ltN : List Nat → List Nat → Bool
  | [], [] => false
  | [], _ :: _ => true
  | _ :: _, [] => false
  | a :: r, b :: q => if a < b then true else if b < a then false else ltN r q
def insI (i : Int) : List Int → List Int
  | [] => [i]
  | j :: r => if i ≤ j then i :: j :: r else j :: insI i r
def sortI : List Int → List Int
  | [] => []
  | i :: r => insI i (sortI r)
def insS (a : List Nat) : List (List Nat) → List (List Nat)
  | [] => [a]
  | b :: r => if ltN b a then b :: insS a r else a :: b :: r
def sortS : List (List Nat) → List (List Nat)
  | [] => []
  | a :: r => insS a (sortS r)
def intsOf : List W → Option (List Int)
  | [] => some []
  | .int i :: r => (intsOf r).map (i :: ·)
  | _ :: _ => none
def strsOf : List W → Option (List (List Nat))
  | [] => some []
  | .str s :: r => (strsOf r).map (s :: ·)
  | _ :: _ => none
def sortW (ws : List W) : Option (List W) := (intsOf ws).map fun is => (sortI is).map .int
def dedupI : List Int → List Int
  | [] => []
  | i :: r => if r.contains i then dedupI r else i :: dedupI r
def ssetW (ws : List W) : Option (List W) := (intsOf ws).bind fun is => if is.length ≤ 4000 ∧ (dedupI is).length ≤ 62 then some ((sortI (dedupI is)).map .int) else none
/-- a text of a value, where it can be told -/
def reprD (d : PyData) : Option (Sum W O) := if d.showable = true ∧ d.depth ≤ 60 ∧ d.shown.length ≤ LN ∧ okS d.shown.cps.toList = true then some (.inl (.str d.shown.cps.toList)) else none
def minI : Int → List Int → Int
  | m, [] => m
  | m, i :: r => minI (if i < m then i else m) r
def maxI : Int → List Int → Int
  | m, [] => m
  | m, i :: r => maxI (if i > m then i else m) r
def blsOf : List W → Option (List Bool)
  | [] => some []
  | .bl i :: r => (blsOf r).map (i :: ·)
  | _ :: _ => none
def biH (h : AH) : BI → List W → Option (Sum W O)
  | .len, [.str s] => if s.length ≤ LN then some (.inl (.int s.length)) else none
  | .len, [.tup xs] => some (.inl (.int xs.length))
  | .len, [.loc n] => match h[n]? with
    | some (.lst xs) => some (.inl (.int xs.length))
    | some (.frl xs) => some (.inl (.int xs.length))
    | some (.dct kvs) => some (.inl (.int kvs.length))
    | _ => none
  | .abs, [.int i] => some (.inl (.int (if i < 0 then -i else i)))
  | .min, [.int i, .int j] => some (.inl (.int (if j < i then j else i)))
  | .max, [.int i, .int j] => some (.inl (.int (if j > i then j else i)))
  | .min, [.loc n] => match lstAt h n with
    | some xs => match intsOf xs with
      | some (i :: r) => some (.inl (.int (minI i r)))
      | _ => none
    | none => none
  | .max, [.loc n] => match lstAt h n with
    | some xs => match intsOf xs with
      | some (i :: r) => some (.inl (.int (maxI i r)))
      | _ => none
    | none => none
  | .sum, [.loc n] => match lstAt h n with
    | some xs => match intsOf xs with
      | some is => some (.inl (.int is.sum))
      | none => none
    | none => none
  | .int, [.int i] => some (.inl (.int i))
  | .int, [.bl b] => some (.inl (.int (if b then 1 else 0)))
  | .listr, ws => match rngH ws with
    | some (.seq xs) => if xs.length ≤ LN then some (.inr (.lst xs)) else none
    | _ => none
  | .list, [.tup xs] => some (.inr (.lst xs))
  | .list, [.loc n] => match lstAt h n with
    | some xs => some (.inr (.lst xs))
    | none => none
  | .tuple, [.tup xs] => some (.inl (.tup xs))
  | .tuple, [.loc n] => match lstAt h n with
    | some xs => some (.inl (.tup xs))
    | none => none
  | .dict, [.loc n] => match h[n]? with
    | some (.dct kvs) => some (.inr (.dct kvs))
    | some (.lst xs) => match pairsOf xs with
      | some kvs => some (.inr (.dct (mergeD [] kvs)))
      | none => none
    | _ => none
  | .dicte, [.tup xs] => some (.inr (.dct (mergeD [] (enumD 0 xs))))
  | .dicte, [.loc n] => match lstAt h n with
    | some xs => some (.inr (.dct (mergeD [] (enumD 0 xs))))
    | none => none
  | .sorted, [.loc n] => match lstAt h n with
    | some xs => match sortW xs with
      | some ys => some (.inr (.lst ys))
      | none => none
    | none => match dctAt h n with
      | some kvs => if kvs.length < 4096 then (match sortW (kvs.map (·.1)) with
        | some ys => some (.inr (.lst ys))
        | none => none) else none
      | none => none
  | .sset, [.loc n] => match lstAt h n with
    | some xs => match ssetW xs with
      | some ys => some (.inr (.lst ys))
      | none => none
    | none => none
  | .repr, [.loc n] => match lstAt h n with
    | some xs => if grs xs then reprD (.list (toDs xs)) else none
    | none => none
  | .repr, [w] => if w.gr then reprD w.toD else none
  | .all, [.loc n] => match lstAt h n with
    | some xs => match blsOf xs with
      | some bs => some (.inl (.bl (bs.all id)))
      | none => none
    | none => none
  | .any, [.loc n] => match lstAt h n with
    | some xs => match blsOf xs with
      | some bs => some (.inl (.bl (bs.any id)))
      | none => none
    | none => none
  | _, _ => none
inductive Kd where
  | lst | dct | tup
  deriving DecidableEq
/-- of what kind a method's owner is -/
def kndH (h : AH) : W → Option Kd
  | .loc n => match h[n]? with
    | some (.lst _) => some .lst
    | some (.dct _) => some .dct
    | _ => none
  | .tup _ => some .tup
  | _ => none
def meHas : ME → Kd → Bool
  | .append, .lst => true
  | .extend, .lst => true
  | .pop, .lst => true
  | .clear, .lst => true
  | .clear, .dct => true
  | .index, .lst => true
  | .index, .tup => true
  | .remove, .lst => true
  | .get, .dct => true
  | _, _ => false
def kndM (h : AH) (m : ME) (x : W) : Option Kd := (kndH h x).bind fun k => if meHas m k then some k else none
def idxL (x : W) : List W → Option Nat
  | [] => none
  | y :: r => if y.eqv x then some 0 else (idxL x r).map (· + 1)
/-- a method of a list or dict: the value, what stands there then -/
def meH (m : ME) (k : Kd) (x : W) (ws : List W) : Mo W := match m, k, x, ws with
  | .append, .lst, .loc n, [w] => fun h => match lstM h n with
    | some xs => if xs.length < LN then .ok .non (h.set n (.lst (xs ++ [w]))) else .bad
    | none => .bad
  | .extend, .lst, .loc n, [.loc m] => fun h => match lstM h n, lstM h m with
    | some xs, some ys => if xs.length + ys.length ≤ LN then .ok .non (h.set n (.lst (xs ++ ys))) else .bad
    | _, _ => .bad
  | .pop, .lst, .loc n, [] => fun h => match lstM h n with
    | some xs => match xs[xs.length - 1]? with
      | some w => .ok w (h.set n (.lst xs.dropLast))
      | none => .bad
    | none => .bad
  | .pop, .lst, .loc n, [.int i] => fun h => match lstM h n with
    | some xs => if -9223372036854775808 ≤ i ∧ i < 9223372036854775808 then (match ixN xs.length i with
      | some k => match xs[k]? with
        | some w => .ok w (h.set n (.lst (xs.eraseIdx k)))
        | none => .bad
      | none => .bad) else .bad
    | none => .bad
  | .clear, .lst, .loc n, [] => fun h => match lstM h n with
    | some _ => .ok .non (h.set n (.lst []))
    | none => .bad
  | .index, .lst, .loc n, [w] => fun h => match lstM h n with
    | some xs => if grs xs ∧ w.gr ∧ dps xs ≤ 60 ∧ w.dp ≤ 60 then (match idxL w xs with
      | some i => .ok (.int i) h
      | none => .bad) else .bad
    | none => .bad
  | .remove, .lst, .loc n, [.int i] => fun h => match lstM h n with
    | some xs => match intsOf xs with
      | some is => if is.contains i then .ok .non (h.set n (.lst ((is.erase i).map .int))) else .bad
      | none => .bad
    | none => .bad
  | .index, .tup, .tup xs, [.int i] => match intsOf xs with
    | some is => if is.contains i then ret (.int ((is.idxOf i : Nat) : Int)) else bad
    | none => bad
  | .clear, .dct, .loc n, [] => fun h => match dctAt h n with
    | some _ => .ok .non (h.set n (.dct []))
    | none => .bad
  | .get, .dct, .loc n, [k, d] => fun h => match dctAt h n with
    | some kvs => if isKey k then .ok ((dget kvs k).getD d) h else .bad
    | none => .bad
  | _, _, _, _ => bad
/-! ### the evaluator -/
def six : List Nm := ["int", "str", "bool", "tuple", "list", "dict"]
def tyNm (s : Nm) : W → AH → Option Bool := fun w h =>
  if six.contains s = false then none else
  match w with
  | .non => some false
  | .bl _ => some (s == "bool" || s == "int")
  | .int _ => some (s == "int")
  | .str _ => some (s == "str")
  | .tup _ => some (s == "tuple")
  | .loc n => match h[n]? with
    | some (.lst _) => some (s == "list")
    | some (.frl _) => some (s == "list")
    | some (.dct _) => some (s == "dict")
    | _ => none
  | .gl _ => none
/-- the classes of exceptions: each with those it stands under -/
abbrev Sub := Nm → Nm → Option Bool
def tyAny (sub : Sub) (h : AH) (w : W) : List Nm → Option Bool
  | [] => some false
  | t :: r => match (match w with
      | .loc n => match h[n]? with
        | some (.exn c) => sub c t
        | _ => tyNm t w h
      | _ => tyNm t w h), tyAny sub h w r with
    | some a, some b => some (a || b)
    | _, _ => none
def truM (w : W) : Mo Bool := rdO fun h => tru h w
def compN (test : Env → Mo Bool) (elt : Env → Mo W) (t : TN) (J : It) : Nat → Nat → List W → Env → Mo (List W)
  | 0, _, _, _ => bad
  | f + 1, i, acc, s => bnd (rdO (J.item · i)) fun x => match x with
    | none => ret acc
    | some w => bnd (rdO (bindT · t w s)) fun s' => bnd (test s') fun b => match b with
      | true => bnd (elt s') fun y => if acc.length < LN then compN test elt t J f (i + 1) (acc ++ [y]) s else bad
      | false => compN test elt t J f (i + 1) acc s
def forN (body : Env → Mo Fl) (t : TN) (J : It) : Nat → Nat → Env → Mo Fl
  | 0, _, _ => bad
  | f + 1, i, s => bnd (rdO (J.item · i)) fun x => match x with
    | none => ret (.nx s)
    | some w => bnd (rdO (bindT · t w s)) fun s' => bnd (body s') fun o => match o with
      | .nx s2 => forN body t J f (i + 1) s2
      | .ct s2 => forN body t J f (i + 1) s2
      | .bk s2 => ret (.nx s2)
      | .rt w => ret (.rt w)
      | .xn c s2 => ret (.xn c s2)
def whileN (test : Env → Mo Bool) (body : Env → Mo Fl) : Nat → Env → Mo Fl
  | 0, _ => bad
  | f + 1, s => eb (test s) s fun b => match b with
    | false => ret (.nx s)
    | true => bnd (body s) fun o => match o with
      | .nx s2 => whileN test body f s2
      | .ct s2 => whileN test body f s2
      | .bk s2 => ret (.nx s2)
      | .rt w => ret (.rt w)
      | .xn c s2 => ret (.xn c s2)
def WF : Nat := 1000000000
/-- what the evaluator takes from around: calls, the classes, the module's constants -/
structure Cfg where
  cf : Nm → List W → Mo W
  sub : Sub
  gl : Nm → Option W
def noEx {α : Type} (m : Mo α) : Mo α := fun h => match m h with
  | .ex _ _ => .bad
  | r => r
mutual
def evE (c : Cfg) : E → Env → Mo W
  | .var i, s => rdO fun _ => (s[i]?).join
  | .non, _ => ret .non
  | .bl b, _ => ret (.bl b)
  | .int i, _ => ret (.int i)
  | .str x, _ => ret (.str x)
  | .gl x, _ => ofO (c.gl x)
  | .tup es, s => bnd (evEs c es s) fun ws => if ws.length ≤ LN then ret (.tup ws) else bad
  | .lst es, s => bnd (evEs c es s) fun ws => if ws.length ≤ LN then alloc (.lst ws) else bad
  | .dct es, s => bnd (evEs c es s) fun ws => bnd (ofO (pairUp ws)) fun kvs => alloc (.dct (mergeD [] kvs))
  | .bin op a b, s => bnd (evE c a s) fun x => bnd (evE c b s) fun y => bnd (rdO fun h => binH h op x y) fun r => outM (some r)
  | .neg a, s => bnd (evE c a s) fun x => match x with
    | .int i => ret (.int (-i))
    | _ => bad
  | .nt a, s => bnd (evE c a s) fun x => bnd (truM x) fun b => ret (.bl (!b))
  | .cmp op a b, s => bnd (evE c a s) fun x => bnd (evE c b s) fun y => bnd (rdO fun h => cmpH h op x y) fun r => ret (.bl r)
  | .chn o1 o2 a b d, s => bnd (evE c a s) fun x => bnd (evE c b s) fun y => bnd (rdO fun h => cmpH h o1 x y) fun r => match r with
    | false => ret (.bl false)
    | true => bnd (evE c d s) fun z => bnd (rdO fun h => cmpH h o2 y z) fun r => ret (.bl r)
  | .and_ a b, s => bnd (evE c a s) fun x => bnd (truM x) fun k => match k with
    | true => evE c b s
    | false => ret x
  | .or_ a b, s => bnd (evE c a s) fun x => bnd (truM x) fun k => match k with
    | true => ret x
    | false => evE c b s
  | .ite d a b, s => bnd (evE c d s) fun x => bnd (truM x) fun k => match k with
    | true => evE c a s
    | false => evE c b s
  | .idx a i, s => bnd (evE c a s) fun x => bnd (evE c i s) fun y => rdO fun h => idxH h x y
  | .slc a lo hi, s => bnd (evE c a s) fun x => bnd (partM lo (evE c lo s)) fun l => bnd (partM hi (evE c hi s)) fun u => bnd (rdO fun h => slcH h l u x) fun r => outM (some r)
  | .call f as, s => bnd (evEs c as s) fun ws => c.cf f ws
  | .bi b as, s => bnd (evEs c as s) fun ws => bnd (rdO fun h => biH h b ws) fun r => outM (some r)
  | .me m o as, s => bnd (evE c o s) fun x => bnd (rdO fun h => kndM h m x) fun k => bnd (evEs c as s) fun ws => meH m k x ws
  | .isi a ts, s => bnd (evE c a s) fun x => bnd (rdO fun h => tyAny c.sub h x ts) fun b => ret (.bl b)
  | .comp elt t it cs own, s => noEx (bnd (evI c it s) fun J => bnd (compN (evT c cs) (evE c elt) t J J.fuel 0 [] (wipeE s own)) fun acc => alloc (.lst acc))
def evEs (c : Cfg) : Es → Env → Mo (List W)
  | .nil, _ => ret []
  | .cons e r, s => bnd (evE c e s) fun x => bnd (evEs c r s) fun xs => ret (x :: xs)
/-- a clause's tests -/
def evT (c : Cfg) : Es → Env → Mo Bool
  | .nil, _ => ret true
  | .cons e _, s => bnd (evE c e s) fun x => truM x
def evI (c : Cfg) : I → Env → Mo It
  | .val e, s => bnd (evE c e s) itM
  | .rng es, s => bnd (evEs c es s) fun ws => ofO (rngH ws)
  | .enu e, s => bnd (evE c e s) fun x => match x with
    | .tup xs => ret (.seq (enumL 0 xs))
    | .loc n => bnd (rdO fun h => lstAt h n) fun _ => ret (.enu n)
    | _ => bad
  | .zip es, s => bnd (evEs c es s) zipM
  | .rev e, s => bnd (evE c e s) fun x => ofO (revH x)
end
/-- a clause's name goes; no exception leaves it -/
def goneF (i : Nat) : Fl → Mo Fl
  | .nx s => ret (.nx (s.set i none))
  | .bk s => ret (.bk (s.set i none))
  | .ct s => ret (.ct (s.set i none))
  | .rt w => ret (.rt w)
  | .xn _ _ => bad
def noXn : Fl → Mo Fl
  | .xn _ _ => bad
  | o => ret o
def setI (n : Nat) (k w : W) : Mo W := fun h => match h[n]? with
  | some (.lst xs) => match k with
    | .int i => match ixN xs.length i with
      | some j => .ok .non (h.set n (.lst (xs.set j w)))
      | none => .bad
    | _ => .bad
  | some (.dct kvs) => if isKey k ∧ kvs.length < LN then .ok .non (h.set n (.dct (dput kvs k w))) else .bad
  | _ => .bad
/-- x op= y in place for lists -/
def augH (op : Bop) (x y : W) : Mo W := bnd (rdO fun h => binH h op x y) fun r => outM (some r)
/-- xs[a:c] = ys -/
def setSl (n : Nat) (lo hi : Option Int) (w : W) : Mo W := fun h => match lo, hi, w with
  | some a, some c, .loc m => match lstM h n, lstM h m with
    | some xs, some ys => if n ≠ m ∧ 0 ≤ a ∧ a ≤ c ∧ c ≤ xs.length ∧ xs.length + ys.length ≤ LN then .ok .non (h.set n (.lst (xs.take a.toNat ++ ys ++ xs.drop c.toNat))) else .bad
    | _, _ => .bad
  | _, _, _ => .bad
/-- a name's op= : numbers, lists -/
def augM (op : Bop) (x y : W) : Mo W := match op, x, y with
  | .add, .int i, .int j => ret (.int (i + j))
  | .sub, .int i, .int j => ret (.int (i - j))
  | .add, .loc n, .loc m => fun h => match lstM h n, lstM h m with
    | some xs, some ys => if xs.length + ys.length ≤ LN then .ok (.loc n) (h.set n (.lst (xs ++ ys))) else .bad
    | _, _ => .bad
  | .add, .loc n, .tup ys => fun h => match lstM h n with
    | some xs => if xs.length + ys.length ≤ LN then .ok (.loc n) (h.set n (.lst (xs ++ ys))) else .bad
    | none => .bad
  | _, _, _ => bad
mutual
def evS (c : Cfg) : S → Env → Mo Fl
  | .expr e, s => eb (evE c e s) s fun _ => ret (.nx s)
  | .asg t e, s => eb (evE c e s) s fun w => bnd (rdO (bindT · t w s)) fun s' => ret (.nx s')
  | .asgI o i e, s => eb (bnd (evE c e s) fun w => bnd (evE c o s) fun x => bnd (evE c i s) fun k => match x with
    | .loc n => setI n k w
    | _ => bad) s fun _ => ret (.nx s)
  | .asgL o lo hi e, s => eb (bnd (evE c e s) fun w => bnd (evE c o s) fun x => bnd (partM lo (evE c lo s)) fun l => bnd (partM hi (evE c hi s)) fun u => match x with
    | .loc n => setSl n l u w
    | _ => bad) s fun _ => ret (.nx s)
  | .aug i op e, s => bnd (rdO fun _ => (s[i]?).join) fun x => eb (evE c e s) s fun y => bnd (augM op x y) fun w => ret (.nx (s.set i (some w)))
  | .if_ d a b, s => eb (bnd (evE c d s) truM) s fun k => match k with
    | true => evSs c a s
    | false => evSs c b s
  | .for_ t it b, s => eb (evI c it s) s fun J => forN (evSs c b) t J J.fuel 0 s
  | .while_ d b, s => whileN (fun s => bnd (evE c d s) truM) (evSs c b) WF s
  | .ret e, s => eb (evE c e s) s fun w => ret (.rt w)
  | .retN, _ => ret (.rt .non)
  | .raise_ x, s => ret (.xn x s)
  | .try_ b x v hd, s => bnd (evSs c b s) fun o => match o with
    | .xn y s2 => match c.sub y x with
      | some true => match v with
        | some i => fun h' => bnd (evSs c hd (s2.set i (some (.loc h'.length)))) (goneF i) (h' ++ [.exn y])
        | none => bnd (evSs c hd s2) noXn
      | some false => ret (.xn y s2)
      | none => bad
    | o => ret o
  | .pass, s => ret (.nx s)
  | .brk, s => ret (.bk s)
  | .cont, s => ret (.ct s)
def evSs (c : Cfg) : Ss → Env → Mo Fl
  | .nil, s => ret (.nx s)
  | .cons st r, s => bnd (evS c st s) fun o => match o with
    | .nx s2 => evSs c r s2
    | o => ret o
end
def startE (n : Nat) (ws : List W) : Env := ws.map some ++ List.replicate (n - ws.length) none
def runD (c : Cfg) (d : Def) (ws : List W) : Mo W := bnd (noEx (evSs c d.body (startE d.nl ws))) fun o => match o with
  | .nx _ => ret .non
  | .rt w => ret w
  | .xn c _ => fun h => .ex c h
  | _ => bad
/-- what a law's text gives: its defs, its classes, its constants -/
structure Gam where
  df : Nm → Option Def
  sub : Sub
  gl : Nm → Option W
def callF (Γ : Gam) : Nat → Nm → List W → Mo W
  | 0, _, _ => bad
  | n + 1, f, ws => match Γ.df f with
    | some d => if ws.length = d.np then runD ⟨callF Γ n, Γ.sub, Γ.gl⟩ d ws else bad
    | none => bad
/-! ### the compiler -/
structure Cc where
  N : List Nm
  df : Nm → Option Nat
  fb : Nm → Bool
  ec : Nm → Bool
  gl : Nm → Bool
  ca : Bool
def ixOf (x : Nm) : List Nm → Option Nat
  | [] => none
  | y :: r => if y = x then some 0 else (ixOf x r).map (· + 1)
def okNm (x : Nm) : Bool := !(x == "__debug__") && !(x == "__classdict__") && !(x == "__name__")
def isVis : Option NameKind → Bool
  | some .local => true
  | some .cell => true
  | some .free => true
  | _ => false
def slot (C : Cc) (sc : Scope) (x : Nm) : Option Nat := if isVis (sc.names.lookup x) && okNm x then ixOf x C.N else none
def isG (sc : Scope) (x : Nm) : Bool := decide (sc.names.lookup x = some .globalImplicit) && okNm x
/-- a built-in by its name -/
def isB (C : Cc) (sc : Scope) (x : Nm) : Bool := isG sc x && C.fb x
def mapEs (f : Expr → Option E) : List Expr → Option Es
  | [] => some .nil
  | e :: r => match f e, mapEs f r with
    | some x, some y => some (.cons x y)
    | _, _ => none
def E.isNon : E → Bool
  | .non => true
  | _ => false
def cP (f : Expr → Option E) : Option Expr → Option E
  | none => some .non
  | some l => (f l).bind fun x => if x.isNon then none else some x
def flatKV : List (Option Expr) → List Expr → Option (List Expr)
  | [], [] => some []
  | some k :: r, v :: q => (flatKV r q).map fun t => k :: v :: t
  | _, _ => none
def bopOf : Operator → Option Bop
  | .Add => some .add
  | .Sub => some .sub
  | .Mult => some .mul
  | .FloorDiv => some .fdiv
  | .Mod => some .mod
  | .Pow => some .pow
  | _ => none
def copOf : CmpOp → Cop
  | .Eq => .eq
  | .NotEq => .ne
  | .Lt => .lt
  | .LtE => .le
  | .Gt => .gt
  | .GtE => .ge
  | .In => .in_
  | .NotIn => .nin
  | .Is => .is_
  | .IsNot => .isn
def biOf (x : Nm) : Option BI := if x = "len" then some .len else if x = "abs" then some .abs else if x = "min" then some .min else if x = "max" then some .max else
  if x = "list" then some .list else if x = "tuple" then some .tuple else if x = "dict" then some .dict else if x = "int" then some .int else
  if x = "all" then some .all else if x = "any" then some .any else if x = "sum" then some .sum else if x = "sorted" then some .sorted else if x = "repr" then some .repr else none
def meOf (x : Nm) : Option ME := if x = "append" then some .append else if x = "pop" then some .pop else if x = "get" then some .get else if x = "clear" then some .clear else if x = "index" then some .index else if x = "extend" then some .extend else if x = "remove" then some .remove else none
def foldB (f : E → E → E) : Es → Option E
  | .nil => none
  | .cons e .nil => some e
  | .cons e r => (foldB f r).map (f e)
/-- may x be stored to -/
def stOk (sc : Scope) (fn : Nm → Bool) (x : Nm) : Bool := decide (sc.names.lookup x = some .local) || (decide (sc.names.lookup x = some .cell) && fn x)
def slots (C : Cc) (sc : Scope) (fn : Nm → Bool) : List Expr → Option (List Nat)
  | [] => some []
  | .Name x _ :: r => if stOk sc fn x then (match slot C sc x, slots C sc fn r with
    | some i, some is => some (i :: is)
    | _, _ => none) else none
  | _ => none
def slotsT (C : Cc) (sc : Scope) (fn : Nm → Bool) : List Expr → Option (List Tt)
  | [] => some []
  | .Name x _ :: r => if stOk sc fn x then (match slot C sc x, slotsT C sc fn r with
    | some i, some is => some (.nm i :: is)
    | _, _ => none) else none
  | .Tuple es _ _ :: r => match slots C sc fn es, slotsT C sc fn r with
    | some i, some is => some (.tp i :: is)
    | _, _ => none
  | _ => none
def cTN (C : Cc) (sc : Scope) (fn : Nm → Bool) : Expr → Option TN
  | .Name x _ => if stOk sc fn x then (slot C sc x).map .one else none
  | .Tuple es _ _ => if C.ca then (match slots C sc fn es with
    | some is => some (.many is)
    | none => (slotsT C sc fn es).map .tr) else none
  | _ => none
/-- a comprehension's own names with their slots -/
def ownOf (N : List Nm) : List (Nm × NameKind) → List (Nm × Nat)
  | [] => []
  | (x, .local) :: r => (match ixOf x N with | some i => [(x, i)] | none => []) ++ ownOf N r
  | (x, .cell) :: r => (match ixOf x N with | some i => [(x, i)] | none => []) ++ ownOf N r
  | _ :: r => ownOf N r
/-- a class by its name -/
def isC (C : Cc) (sc : Scope) (x : Nm) : Bool := (isB C sc x && (six.contains x || x == "ValueError")) || (isG sc x && C.ec x)
def tyNames (C : Cc) (sc : Scope) : List Expr → Option (List Nm)
  | [] => some []
  | .Name x _ :: r => if isC C sc x then (tyNames C sc r).map (x :: ·) else none
  | _ => none
/-- no call without arguments: what a method may stand behind -/
def notZC : Expr → Bool
  | .Call (.Name ..) [] [] _ => false
  | _ => true
abbrev Fe := Scope → Expr → Option E
abbrev Fi := Scope → Expr → Expr → Option I
def cName (C : Cc) (sc : Scope) (x : Nm) : Option E := match slot C sc x with
  | some i => some (.var i)
  | none => if isG sc x && C.gl x then some (.gl x) else none
def cConst : Const → Option E
  | .none => some .non
  | .bool b => some (.bl b)
  | .int i => some (.int i)
  | .str s => if okS s.cps.toList then some (.str s.cps.toList) else none
  | _ => none
def cCmp (f : Expr → Option E) (a : Expr) : List CmpOp → List Expr → Option E
  | [op], [b] => match f a, f b with
    | some x, some y => some (.cmp (copOf op) x y)
    | _, _ => none
  | [o1, o2], [b, d] => match f a, f b, f d with
    | some x, some y, some z => some (.chn (copOf o1) (copOf o2) x y z)
    | _, _, _ => none
  | _, _ => none
def cBool (f : Expr → Option E) : BoolOp → List Expr → Option E
  | .And, es => (mapEs f es).bind (foldB .and_)
  | .Or, es => (mapEs f es).bind (foldB .or_)
def cUn (f : Expr → Option E) (a : Expr) : UnaryOp → Option E
  | .USub => (f a).map .neg
  | .Not => (f a).map .nt
  | _ => none
def cSub (f : Expr → Option E) (a : Expr) : Expr → Option E
  | .Slice lo hi none _ => match f a, cP f lo, cP f hi with
    | some x, some l, some u => some (.slc x l u)
    | _, _, _ => none
  | .Slice .. => none
  | i => match f a, f i with
    | some x, some y => some (.idx x y)
    | _, _ => none
/-- the arguments of range(..) -/
def rngOf (C : Cc) (sc : Scope) : Expr → Option (List Expr)
  | .Call (.Name y _) as2 [] _ => if (y == "range" && isB C sc y) && (decide (as2.length = 1) || decide (as2.length = 2)) then some as2 else none
  | _ => none
def enuOf (C : Cc) (sc : Scope) : Expr → Option Expr
  | .Call (.Name y _) [a] [] _ => if y == "enumerate" && isB C sc y then some a else none
  | _ => none
/-- the argument of set(..) -/
def setOf (C : Cc) (sc : Scope) : Expr → Option Expr
  | .Call (.Name y _) [a] [] _ => if y == "set" && isB C sc y then some a else none
  | _ => none
def zipOf (C : Cc) (sc : Scope) : Expr → Option (List Expr)
  | .Call (.Name y _) [a, b] [] _ => if y == "zip" && isB C sc y then some [a, b] else none
  | _ => none
def revOf (C : Cc) (sc : Scope) : Expr → Option Expr
  | .Call (.Name y _) [.Call (.Name z _) [a] [] _] [] _ => if (y == "reversed" && isB C sc y) && (z == "range" && isB C sc z) then some a else none
  | _ => none
def isTupE : Expr → Bool
  | .Tuple .. => true
  | _ => false
/-- a tuple of three parts at most: python swaps these without building the tuple -/
def fewTup : Expr → Bool
  | .Tuple es _ _ => decide (es.length ≤ 3)
  | _ => false
def cBi (C : Cc) (f : Expr → Option E) (sc : Scope) (x : Nm) (args : List Expr) : Option E := match x == "isinstance", args with
  | true, [a, .Name y _] => if isC C sc y then (f a).map fun k => .isi k [y] else none
  | true, [a, .Tuple (e :: es) _ _] => match f a, tyNames C sc (e :: es) with
    | some k, some ts => if decide (ts.length ≤ 1000) then some (.isi k ts) else none
    | _, _ => none
  | true, _ => none
  | false, [] => none
  | false, a :: r => if C.ca then (match x == "list", r, rngOf C sc a with
    | true, [], some as2 => (mapEs f as2).map (.bi .listr)
    | _, _, _ => match x == "sorted", r, setOf C sc a with
      | true, [], some e => (f e).map fun k => .bi .sset (.cons k .nil)
      | _, _, _ => match x == "dict", r, enuOf C sc a with
        | true, [], some e => (f e).map fun k => .bi .dicte (.cons k .nil)
        | _, _, _ => match biOf x, mapEs f (a :: r) with
          | some b, some ks => some (.bi b ks)
          | _, _ => none) else none
def cCallN (C : Cc) (f : Expr → Option E) (sc : Scope) (x : Nm) (args : List Expr) : Option E :=
  if (isG sc x && decide (C.df x = some args.length)) && C.ca then (match args with
    | [] => none
    | a :: r => (mapEs f (a :: r)).map (.call x))
  else if isB C sc x then cBi C f sc x args else none
def cMeth (f : Expr → Option E) (o : Expr) (m : Nm) (apos : Pos) (args : List Expr) (cpos : Pos) : Option E :=
  if (apos.endLine == cpos.line && notZC o) && decide (args.length < 29) then (match meOf m, f o, mapEs f args with
    | some k, some x, some ys => some (.me k x ys)
    | _, _, _ => none) else none
def cCall (C : Cc) (f : Expr → Option E) (sc : Scope) (args : List Expr) (cpos : Pos) : Expr → Option E
  | .Name x _ => cCallN C f sc x args
  | .Attribute o m apos => cMeth f o m apos args cpos
  | _ => none
def ttS : List Tt → List Nat
  | [] => []
  | .nm i :: r => i :: ttS r
  | .tp is :: r => is ++ ttS r
def tnIn (t : TN) (own : List Nat) : Bool := match t with
  | .one i => own.contains i
  | .many is => is.all fun i => own.contains i
  | .tr ts => (ttS ts).all fun i => own.contains i
def cComp (C : Cc) (f : Fe) (g : Fi) (sc : Scope) (elt : Expr) (s2 : Scope) (tg it : Expr) (ifs : List Expr) : Option E :=
  if (C.ca && L2.blkC C.N sc s2 (ownOf C.N s2.names)) && decide (ifs.length ≤ 1) then (match cTN C (L2.relS s2 sc) (fun x => s2.names.lookup x == some .cell) tg, g sc tg it, f (L2.relS s2 sc) elt, mapEs (f (L2.relS s2 sc)) ifs with
    | some t, some i, some x, some cs => if tnIn t ((ownOf C.N s2.names).map fun (q : Nm × Nat) => q.2) then some (.comp x t i cs ((ownOf C.N s2.names).map fun (q : Nm × Nat) => q.2)) else none
    | _, _, _, _ => none) else none
def cGens (C : Cc) (f : Fe) (g : Fi) (sc : Scope) (elt : Expr) (s2 : Scope) : List Comprehension → Option E
  | [⟨tg, it, ifs, 0⟩] => cComp C f g sc elt s2 tg it ifs
  | _ => none
def cDict (f : Expr → Option E) (ks : List (Option Expr)) (vs : List Expr) : Option E := if vs.length ≤ 15 then (flatKV ks vs).bind fun es => (mapEs f es).map .dct else none
def cE1 (C : Cc) (f : Fe) (g : Fi) (sc : Scope) : Expr → Option E
  | .Name x _ => cName C sc x
  | .Constant c _ _ => cConst c
  | .Tuple es _ _ => (mapEs (f sc) es).map .tup
  | .List es _ => (mapEs (f sc) es).map .lst
  | .Dict ks vs _ => cDict (f sc) ks vs
  | .BinOp a op b _ => match bopOf op, f sc a, f sc b with
    | some o, some x, some y => some (.bin o x y)
    | _, _, _ => none
  | .UnaryOp op a _ => cUn (f sc) a op
  | .Compare a ops bs _ => cCmp (f sc) a ops bs
  | .BoolOp op es _ => cBool (f sc) op es
  | .IfExp d a b _ => match f sc d, f sc a, f sc b with
    | some x, some y, some z => some (.ite x y z)
    | _, _, _ => none
  | .Subscript a i _ => cSub (f sc) a i
  | .Call fn args kw p => match kw with
    | [] => cCall C (f sc) sc args p fn
    | _ => none
  | .ListComp elt gs s2 _ => cGens C f g sc elt s2 gs
  | _ => none
def cI1 (C : Cc) (f : Fe) (sc : Scope) (tg e : Expr) : Option I := match rngOf C sc e with
  | some as2 => (mapEs (f sc) as2).map .rng
  | none => match isTupE tg, enuOf C sc e with
    | true, some a => (f sc a).map .enu
    | _, _ => match isTupE tg, zipOf C sc e with
      | true, some as2 => (mapEs (f sc) as2).map .zip
      | _, _ => match revOf C sc e with
        | some a => (f sc a).map .rev
        | none => (f sc e).map .val
def cE (C : Cc) : Nat → Fe
  | 0 => fun _ _ => none
  | n + 1 => cE1 C (cE C n) (cI1 C (cE C n))
def isComp : Expr → Bool
  | .ListComp .. => true
  | .SetComp .. => true
  | .DictComp .. => true
  | _ => false
abbrev Fs := Scope → List Stmt → Option Ss
def isSlice : Expr → Bool
  | .Slice .. => true
  | _ => false
/-- two values for two names, such that python's order of the stores is known -/
def swapOk : List Expr → Expr → Bool
  | [.Name _ _, .Name _ _], .Tuple [a, b] _ _ => ([a, b].all (foldedForSure 8)) || !([a, b].all (constantsAlone 8))
  | _, _ => false
def cAsg (C : Cc) (f : Fe) (sc : Scope) : List Expr → Expr → Option S
  | [.Name x p], e => match cTN C sc (fun _ => true) (.Name x p), f sc e with
    | some t, some y => some (.asg t y)
    | _, _ => none
  | [.Tuple ts k p], e => if (fewTup e && !swapOk ts e) || isComp e then none else (match cTN C sc (fun _ => true) (.Tuple ts k p), f sc e with
    | some t, some y => some (.asg t y)
    | _, _ => none)
  | [.Subscript o (.Slice (some lo) (some hi) none _) _], e => if isComp e then none else (match f sc o, cP (f sc) (some lo), cP (f sc) (some hi), f sc e with
    | some x, some l, some u, some y => some (.asgL x l u y)
    | _, _, _, _ => none)
  | [.Subscript o i _], e => if isComp e || isSlice i then none else (match f sc o, f sc i, f sc e with
    | some x, some k, some y => some (.asgI x k y)
    | _, _, _ => none)
  | _, _ => none
def augOp : Operator → Option Bop
  | .Add => some .add
  | .Sub => some .sub
  | _ => none
def cAug (C : Cc) (f : Fe) (sc : Scope) (op : Operator) (e : Expr) : Expr → Option S
  | .Name x p => match augOp op, cTN C sc (fun _ => true) (.Name x p), f sc e with
    | some o, some (.one i), some y => some (.aug i o y)
    | _, _, _ => none
  | _ => none
def cRaise (C : Cc) (sc : Scope) : Option Expr → Option S
  | some (.Call (.Name x _) [.Constant (.str _) _ _] [] _) => if (isG sc x && C.ec x) && C.ca then some (.raise_ x) else none
  | _ => none
def cTry (C : Cc) (fs fh : Fs) (sc : Scope) (b : List Stmt) : List ExceptHandler → Option S
  | [.ExceptHandler (some (.Name x _)) nm (st :: rest) _] => if isC C sc x && !(six.contains x) then (match fs sc b, fh sc (st :: rest) with
    | some y, some z => match nm with
      | none => some (.try_ y x none z)
      | some n => if decide (sc.names.lookup n = some .local) then (slot C sc n).map fun i => .try_ y x (some i) z else none
    | _, _ => none) else none
  | _ => none
def cS1 (C : Cc) (f : Fe) (fs fh : Fs) (sc : Scope) : Stmt → Option S
  | .Expr e _ => if isComp e then none else (f sc e).map .expr
  | .Assign ts e _ => cAsg C f sc ts e
  | .AugAssign t op e _ => cAug C f sc op e t
  | .If d a b _ => match f sc d, fs sc a, fs sc b with
    | some x, some y, some z => some (.if_ x y z)
    | _, _, _ => none
  | .For tg it b oe _ => match oe with
    | [] => if C.ca then (match cTN C sc (fun _ => true) tg, cI1 C f sc tg it, fs sc b with
      | some t, some i, some y => some (.for_ t i y)
      | _, _, _ => none) else none
    | _ => none
  | .While d b oe _ => match oe with
    | [] => (match f sc d, fs sc b with
      | some x, some y => some (.while_ x y)
      | _, _ => none)
    | _ => none
  | .Return e _ => match e with
    | some e => (f sc e).map .ret
    | none => some .retN
  | .Raise e c _ => match c with
    | none => cRaise C sc e
    | _ => none
  | .Try b hs oe fb _ => match oe, fb with
    | [], [] => cTry C fs fh sc b hs
    | _, _ => none
  | .Pass _ => some .pass
  | .Break _ => some .brk
  | .Continue _ => some .cont
  | _ => none
def cSs : Nat → Cc → Fs
  | 0, _ => fun _ _ => none
  | n + 1, C => fun sc l => match l with
    | [] => some .nil
    | st :: r => match cS1 C (cE C n) (cSs n C) (cSs n { C with ca := false }) sc st, cSs n C sc r with
      | some x, some y => some (.cons x y)
      | _, _ => none
end MI
/-! MI2: how the small language's values and heap stand in the hand layer's; lifts. -/
namespace MI
open PySem PySem.Spec PyProof.Rows L2
/-- the written part, the module's values, the classes' addresses -/
structure Bs where
  K : PySem.W.Frag
  gv : Nm → Option V
  ca : Nm → Addr
/-- a tuple whose object holds nothing beside its items -/
def Dn (K : PySem.W.Frag) (H : Hp) (a : Addr) : Prop := (∃ (o : Obj) (xs : List V), H a = some (.frz o (.tup xs)) ∧ o.cls = .type "tuple" ∧ o.dict = none) ∨ ∃ o : Obj, K.lookup a = some o ∧ o.cls = .type "tuple" ∧ o.dict = none
section
variable (B : Bs) (ρ : Nat → Addr) (L : Nat) (H : Hp)
mutual
def Rp : W → V → Prop
  | .non, x => x = .non
  | .bl b, x => x = .bl b
  | .int i, x => x = .int i
  | .str s, x => x = .str (st_ s) ∧ okS s = true
  | .tup ws, x => ∃ a xs, x = .ref a ∧ (SqT B.K H a xs ∧ Dn B.K H a) ∧ Rps ws xs
  | .loc n, x => n < L ∧ x = .ref (ρ n)
  | .gl y, x => B.gv y = some x ∧ x ≠ .non
def Rps : List W → List V → Prop
  | [], [] => True
  | w :: r, x :: q => Rp w x ∧ Rps r q
  | _, _ => False
end
def KyR : W → Key → Prop
  | .int i, .inl j => j = i
  | .str s, .inr x => x = st_ s ∧ okS s = true
  | _, _ => False
def RpD : List (W × W) → List (Key × V) → Prop
  | [], [] => True
  | (k, v) :: r, (y, x) :: q => KyR k y ∧ Rp B ρ L H v x ∧ RpD r q
  | _, _ => False
def RpO (o : O) (a : Addr) : Prop := match o with
  | .lst ws => ∃ xs, H a = some (.lst xs) ∧ Rps B ρ L H ws xs
  | .frl ws => ∃ xs, ((∃ ob, H a = some (.frz ob (.lst xs))) ∨ ∃ (o : Obj) (its : Array Value) (n : Nat), B.K.lookup a = some o ∧ o.cls = .type "list" ∧ o.dict = none ∧ o.data = .seq its n ∧ its.size ≤ sizeLine ∧ Vals xs its.toList) ∧ Rps B ρ L H ws xs
  | .dct kvs => ∃ ks, H a = some (.dK ks) ∧ RpD B ρ L H kvs ks ∧ (ks.map fun p => p.1).Nodup
  | .frd kvs => ∃ ks o, H a = some (.frz o (.dK ks)) ∧ RpD B ρ L H kvs ks ∧ (ks.map fun p => p.1).Nodup
  | .ins _ _ => False
  | .exn c => ∃ φ, H a = some (.ext φ) ∧ ∀ h : Heap, φ h → ∃ o, h.get? a = some o ∧ o.cls = .ref (B.ca c) ∧ o.dict = none ∧ ∃ vs, o.data = .fields vs
end
/-- a list that is only read -/
def isF (h : AH) (n : Nat) : Bool := match h[n]? with
  | some (.frl _) => true
  | _ => false
structure Sim (B : Bs) (ρ : Nat → Addr) (h : AH) (H : Hp) : Prop where
  inj : ∀ m n, m < h.length → n < h.length → isF h m = false → isF h n = false → ρ m = ρ n → m = n
  obj : ∀ n o, h[n]? = some o → RpO B ρ h.length H o (ρ n)
structure Ext (ρ : Nat → Addr) (h : AH) (H : Hp) (ρ' : Nat → Addr) (h' : AH) (H' : Hp) : Prop where
  len : h.length ≤ h'.length
  knd : ∀ n, n < h.length → isF h' n = isF h n
  old : ∀ n, n < h.length → ρ' n = ρ n
  fr : ∀ a o, H a = some o → (∀ n, n < h.length → isF h n = false → ρ n ≠ a) → H' a = some o
  new : ∀ n, h.length ≤ n → n < h'.length → isF h' n = false → H (ρ' n) = none
  frz : ∀ n kvs, h[n]? = some (.frd kvs) → h'[n]? = some (.frd kvs) ∧ H' (ρ n) = H (ρ n)
section
variable {B : Bs} {ρ ρ' ρ1 ρ2 : Nat → Addr} {h h' h1 h2 : AH} {H H' H1 H2 : Hp} {L L' : Nat}
theorem Ext.refl : Ext ρ h H ρ h H := ⟨Nat.le_refl _, fun _ _ => rfl, fun _ _ => rfl, fun _ _ e _ => e, fun n h1 h2 => absurd h2 (Nat.not_lt.mpr h1), fun _ _ e => ⟨e, rfl⟩⟩
theorem Ext.trans (a : Ext ρ h H ρ1 h1 H1) (b : Ext ρ1 h1 H1 ρ2 h2 H2) (s : Sim B ρ2 h2 H2) : Ext ρ h H ρ2 h2 H2 := by
  have old : ∀ n, n < h.length → ρ2 n = ρ n := fun n hn => (b.old n (Nat.lt_of_lt_of_le hn a.len)).trans (a.old n hn)
  have knd : ∀ n, n < h.length → isF h2 n = isF h n := fun n hn => (b.knd n (Nat.lt_of_lt_of_le hn a.len)).trans (a.knd n hn)
  refine ⟨Nat.le_trans a.len b.len, knd, old, fun c o e hc => ?_, fun n h1n h2n hf => ?_, fun n kvs e => ?_⟩
  rotate_left 2
  · obtain ⟨a1, a2⟩ := a.frz n kvs e
    obtain ⟨b1, b2⟩ := b.frz n kvs a1
    rw [a.old n (List.getElem?_eq_some_iff.mp e).1] at b2
    exact ⟨b1, b2.trans a2⟩
  · have e1 := a.fr c o e hc
    refine b.fr c o e1 fun n hn hf z => ?_
    by_cases hl : n < h.length
    · exact hc n hl ((a.knd n hl).symm.trans hf) ((a.old n hl).symm.trans z)
    · have q := a.new n (Nat.not_lt.mp hl) hn hf
      rw [z, e] at q; cases q
  · by_cases hl : n < h1.length
    · rw [b.old n hl]; exact a.new n h1n hl ((b.knd n hl).symm.trans hf)
    · have q := b.new n (Nat.not_lt.mp hl) h2n hf
      cases e : H (ρ2 n) with
      | none => rfl
      | some o =>
        by_cases hc : ∀ m, m < h.length → isF h m = false → ρ m ≠ ρ2 n
        · rw [a.fr _ o e hc] at q; cases q
        · exfalso
          apply hc
          intro m hm hfm z
          have := s.inj m n (Nat.lt_of_lt_of_le hm (Nat.le_trans a.len b.len)) h2n ((knd m hm).trans hfm) hf ((old m hm).trans z)
          omega
theorem isF_of {n : Nat} {o : O} (e : h[n]? = some o) (hf : ∀ ws, o ≠ .frl ws) : isF h n = false := by
  unfold isF
  rw [e]
  cases o <;> first | rfl | exact absurd rfl (hf _)
theorem img_ne {a : Addr} {o : HO} (s : Sim B ρ h H) (e : H a = some o) (hl : ∀ xs, o ≠ .lst xs) (hd : ∀ ks, o ≠ .dK ks) (hx : ∀ φ, o ≠ .ext φ) (hz : ∀ ob ks, o ≠ .frz ob (.dK ks)) : ∀ n, n < h.length → isF h n = false → ρ n ≠ a := fun n hn hf z => by
  have ho := List.getElem?_eq_getElem hn
  have q := s.obj n _ ho
  rw [z] at q
  cases hh : h[n] with
  | lst ws => rw [hh] at q; obtain ⟨xs, e1, _⟩ := q; rw [e] at e1; exact hl xs (Option.some.inj e1)
  | frl ws =>
    unfold isF at hf
    rw [ho, hh] at hf
    cases hf
  | dct kvs => rw [hh] at q; obtain ⟨ks, e1, _⟩ := q; rw [e] at e1; exact hd ks (Option.some.inj e1)
  | frd kvs => rw [hh] at q; obtain ⟨ks, ob, e1, _⟩ := q; rw [e] at e1; exact hz ob ks (Option.some.inj e1)
  | ins c fs => rw [hh] at q; exact q
  | exn c => rw [hh] at q; obtain ⟨φ, e1, _⟩ := q; rw [e] at e1; exact hx φ (Option.some.inj e1)
theorem sqT_ext {a : Addr} {xs : List V} (x : Ext ρ h H ρ' h' H') (s : Sim B ρ h H) (q : SqT B.K H a xs) : SqT B.K H' a xs := by
  rcases q with q | q
  · rcases q with e | ⟨o, e⟩
    · exact .inl (.inl (x.fr _ _ e (img_ne s e (fun _ z => by cases z) (fun _ z => by cases z) (fun _ z => by cases z) (fun _ _ z => by cases z))))
    · exact .inl (.inr ⟨o, x.fr _ _ e (img_ne s e (fun _ z => by cases z) (fun _ z => by cases z) (fun _ z => by cases z) (fun _ _ z => by cases z))⟩)
  · exact .inr q
theorem dn_ext {a : Addr} (x : Ext ρ h H ρ' h' H') (s : Sim B ρ h H) (q : Dn B.K H a) : Dn B.K H' a := by
  rcases q with ⟨o, xs, e, q⟩ | q
  · exact .inl ⟨o, xs, x.fr _ _ e (img_ne s e (fun _ z => by cases z) (fun _ z => by cases z) (fun _ z => by cases z) (fun _ _ z => by cases z)), q⟩
  · exact .inr q
mutual
theorem Rp.ext (x : Ext ρ h H ρ' h' H') (s : Sim B ρ h H) : ∀ (w : W) {y : V}, Rp B ρ h.length H w y → Rp B ρ' h'.length H' w y
  | .non, _, q => by unfold Rp at *; exact q
  | .bl b, _, q => by unfold Rp at *; exact q
  | .int i, _, q => by unfold Rp at *; exact q
  | .str i, _, q => by unfold Rp at *; exact q
  | .tup ws, _, q => by
    unfold Rp at *
    obtain ⟨a, xs, e, t, r⟩ := q
    exact ⟨a, xs, e, ⟨sqT_ext x s t.1, dn_ext x s t.2⟩, Rps.ext x s ws r⟩
  | .loc n, _, q => by
    unfold Rp at *
    exact ⟨Nat.lt_of_lt_of_le q.1 x.len, by rw [x.old n q.1]; exact q.2⟩
  | .gl y, _, q => by unfold Rp at *; exact q
theorem Rps.ext (x : Ext ρ h H ρ' h' H') (s : Sim B ρ h H) : ∀ (ws : List W) {ys : List V}, Rps B ρ h.length H ws ys → Rps B ρ' h'.length H' ws ys
  | [], [], q => by unfold Rps at *; trivial
  | [], _ :: _, q => by unfold Rps at q; exact q.elim
  | _ :: _, [], q => by unfold Rps at q; exact q.elim
  | w :: r, y :: ys, q => by
    unfold Rps at *
    exact ⟨Rp.ext x s w q.1, Rps.ext x s r q.2⟩
end
theorem RpD.ext (x : Ext ρ h H ρ' h' H') (s : Sim B ρ h H) : ∀ (ws : List (W × W)) {ys : List (Key × V)}, RpD B ρ h.length H ws ys → RpD B ρ' h'.length H' ws ys
  | [], [], q => by unfold RpD at *; trivial
  | [], _ :: _, q => by unfold RpD at q; exact q.elim
  | _ :: _, [], q => by unfold RpD at q; exact q.elim
  | (k, w) :: r, (y, z) :: ys, q => by
    unfold RpD at *
    exact ⟨q.1, Rp.ext x s w q.2.1, RpD.ext x s r q.2.2⟩
theorem Rps.len : ∀ {ws : List W} {ys : List V}, Rps B ρ L H ws ys → ys.length = ws.length
  | [], [], q => rfl
  | [], _ :: _, q => by unfold Rps at q; exact q.elim
  | _ :: _, [], q => by unfold Rps at q; exact q.elim
  | w :: r, y :: ys, q => by unfold Rps at q; rw [List.length_cons, List.length_cons, Rps.len q.2]
theorem Rps.nil_ {ys : List V} (q : Rps B ρ L H [] ys) : ys = [] := by
  cases ys with
  | nil => rfl
  | cons _ _ => unfold Rps at q; exact q.elim
theorem Rps.cons_ {w : W} {r : List W} {ys : List V} (q : Rps B ρ L H (w :: r) ys) : ∃ y q', ys = y :: q' ∧ Rp B ρ L H w y ∧ Rps B ρ L H r q' := by
  cases ys with
  | nil => unfold Rps at q; exact q.elim
  | cons y q' => unfold Rps at q; exact ⟨y, q', rfl, q.1, q.2⟩
theorem Rps.get : ∀ {ws : List W} {ys : List V} {i : Nat} {w : W}, Rps B ρ L H ws ys → ws[i]? = some w → ∃ y, ys[i]? = some y ∧ Rp B ρ L H w y
  | [], _, i, w, _, e => by simp at e
  | v :: r, ys, 0, w, q, e => by
    obtain ⟨y, q', rfl, a, _⟩ := q.cons_
    simp at e; subst e
    exact ⟨y, rfl, a⟩
  | v :: r, ys, i + 1, w, q, e => by
    obtain ⟨y, q', rfl, _, b⟩ := q.cons_
    obtain ⟨z, e1, e2⟩ := Rps.get (i := i) b (by simpa using e)
    exact ⟨z, by simpa using e1, e2⟩
theorem Rps.append : ∀ {ws vs : List W} {ys zs : List V}, Rps B ρ L H ws ys → Rps B ρ L H vs zs → Rps B ρ L H (ws ++ vs) (ys ++ zs)
  | [], vs, ys, zs, q, p => by rw [q.nil_]; exact p
  | w :: r, vs, ys, zs, q, p => by
    obtain ⟨y, q', rfl, a, b⟩ := q.cons_
    show Rps B ρ L H (w :: (r ++ vs)) (y :: (q' ++ zs))
    unfold Rps
    exact ⟨a, Rps.append b p⟩
theorem Rps.take : ∀ {ws : List W} {ys : List V} (n : Nat), Rps B ρ L H ws ys → Rps B ρ L H (ws.take n) (ys.take n)
  | [], ys, n, q => by rw [q.nil_]; simp [Rps]
  | w :: r, ys, 0, q => by simp [Rps]
  | w :: r, ys, n + 1, q => by
    obtain ⟨y, q', rfl, a, b⟩ := q.cons_
    show Rps B ρ L H (w :: r.take n) (y :: q'.take n)
    unfold Rps
    exact ⟨a, Rps.take n b⟩
theorem Rps.drop : ∀ {ws : List W} {ys : List V} (n : Nat), Rps B ρ L H ws ys → Rps B ρ L H (ws.drop n) (ys.drop n)
  | [], ys, n, q => by rw [q.nil_]; simp [Rps]
  | w :: r, ys, 0, q => by simpa using q
  | w :: r, ys, n + 1, q => by
    obtain ⟨y, q', rfl, a, b⟩ := q.cons_
    exact Rps.drop n b
theorem Rps.set : ∀ {ws : List W} {ys : List V} (i : Nat) {w : W} {y : V}, Rps B ρ L H ws ys → Rp B ρ L H w y → Rps B ρ L H (ws.set i w) (ys.set i y)
  | [], ys, n, _, _, q, _ => by rw [q.nil_]; simp [Rps]
  | v :: r, ys, 0, _, _, q, p => by
    obtain ⟨y, q', rfl, a, b⟩ := q.cons_
    show Rps B ρ L H (_ :: r) (_ :: q')
    unfold Rps
    exact ⟨p, b⟩
  | v :: r, ys, n + 1, w, y, q, p => by
    obtain ⟨z, q', rfl, a, b⟩ := q.cons_
    show Rps B ρ L H (v :: r.set n w) (z :: q'.set n y)
    unfold Rps
    exact ⟨a, Rps.set n b p⟩
theorem Rps.erase : ∀ {ws : List W} {ys : List V} (i : Nat), Rps B ρ L H ws ys → Rps B ρ L H (ws.eraseIdx i) (ys.eraseIdx i)
  | [], ys, n, q => by rw [q.nil_]; simp [Rps]
  | v :: r, ys, 0, q => by
    obtain ⟨y, q', rfl, a, b⟩ := q.cons_
    exact b
  | v :: r, ys, n + 1, q => by
    obtain ⟨z, q', rfl, a, b⟩ := q.cons_
    show Rps B ρ L H (v :: r.eraseIdx n) (z :: q'.eraseIdx n)
    unfold Rps
    exact ⟨a, Rps.erase n b⟩
theorem Rps.dropLast {ws : List W} {ys : List V} (q : Rps B ρ L H ws ys) : Rps B ρ L H ws.dropLast ys.dropLast := by
  rw [List.dropLast_eq_take, List.dropLast_eq_take, q.len]
  exact q.take _
theorem Rps.rev {ws : List W} {ys : List V} (q : Rps B ρ L H ws ys) : Rps B ρ L H ws.reverse ys.reverse := by
  induction ws generalizing ys with
  | nil => rw [q.nil_]; simp [Rps]
  | cons w r ih =>
    obtain ⟨z, q', rfl, a, b⟩ := q.cons_
    rw [List.reverse_cons, List.reverse_cons]
    exact (ih b).append (by unfold Rps; exact ⟨a, by unfold Rps; trivial⟩)
end
/-! ### a new thing, a changed thing -/
section
variable {B : Bs} {ρ : Nat → Addr} {h : AH} {H : Hp}
def at_ (ρ : Nat → Addr) (n : Nat) (p : Addr) : Nat → Addr := fun m => if m = n then p else ρ m
theorem at_same {n : Nat} {p : Addr} : at_ ρ n p n = p := if_pos rfl
theorem at_ne {m n : Nat} {p : Addr} (z : m ≠ n) : at_ ρ n p m = ρ m := if_neg z
theorem RpO.some_ {L : Nat} {o : O} {a : Addr} (q : RpO B ρ L H o a) (hf : ∀ ws, o ≠ .frl ws) : ∃ u, H a = some u := by
  cases o with
  | lst ws => obtain ⟨xs, e, _⟩ := q; exact ⟨_, e⟩
  | frl ws => exact absurd rfl (hf ws)
  | dct kvs => obtain ⟨xs, e, _⟩ := q; exact ⟨_, e⟩
  | frd kvs => obtain ⟨xs, ob, e, _⟩ := q; exact ⟨_, e⟩
  | ins c fs => exact q.elim
  | exn c => obtain ⟨xs, e, _⟩ := q; exact ⟨_, e⟩
theorem isF_false {n : Nat} (hn : n < h.length) (hf : isF h n = false) : ∃ o, h[n]? = some o ∧ ∀ ws, o ≠ .frl ws := by
  refine ⟨_, List.getElem?_eq_getElem hn, fun ws z => ?_⟩
  unfold isF at hf
  rw [List.getElem?_eq_getElem hn, z] at hf
  cases hf
/-- what a part of the heap says stays, where Ext leads -/
theorem RpO.ext {ρ' : Nat → Addr} {h' : AH} {H' : Hp} (x : Ext ρ h H ρ' h' H') (s : Sim B ρ h H) {o : O} {a : Addr} (q : RpO B ρ h.length H o a) (e : (∀ ws, o ≠ .frl ws) → ∀ u, H a = some u → H' a = some u)
    (e' : ∀ ob xs, H a = some (.frz ob (.lst xs)) → H' a = some (.frz ob (.lst xs))) : RpO B ρ' h'.length H' o a := by
  cases o with
  | lst ws => obtain ⟨xs, e1, r⟩ := q; exact ⟨xs, e (fun _ z => by cases z) _ e1, r.ext x s⟩
  | frl ws =>
    obtain ⟨xs, e1, r⟩ := q
    rcases e1 with ⟨ob, e1⟩ | e1
    · exact ⟨xs, .inl ⟨ob, e' _ _ e1⟩, r.ext x s⟩
    · exact ⟨xs, .inr e1, r.ext x s⟩
  | dct kvs => obtain ⟨xs, e1, r, nd⟩ := q; exact ⟨xs, e (fun _ z => by cases z) _ e1, r.ext x s, nd⟩
  | frd kvs => obtain ⟨xs, ob, e1, r, nd⟩ := q; exact ⟨xs, ob, e (fun _ z => by cases z) _ e1, r.ext x s, nd⟩
  | ins c fs => exact q.elim
  | exn c => obtain ⟨φ, e1, r⟩ := q; exact ⟨φ, e (fun _ z => by cases z) _ e1, r⟩
theorem RpO.nofrz {L : Nat} {o : O} {a : Addr} {ob : Obj} {xs : List V} (q : RpO B ρ L H o a) (hf : ∀ ws, o ≠ .frl ws) (e : H a = some (.frz ob (.lst xs))) : False := by
  cases o with
  | lst ws => obtain ⟨_, e1, _⟩ := q; rw [e] at e1; cases e1
  | frl ws => exact hf ws rfl
  | dct kvs => obtain ⟨_, e1, _⟩ := q; rw [e] at e1; cases e1
  | frd kvs => obtain ⟨_, _, e1, _⟩ := q; rw [e] at e1; cases e1
  | ins c fs => exact q.elim
  | exn c => obtain ⟨_, e1, _⟩ := q; rw [e] at e1; cases e1
theorem alloc_ok {p : Addr} {o : O} {u : HO} (s : Sim B ρ h H) (hp : H p = none) (ho : ∀ ws, o ≠ .frl ws) (q : ∀ ρ' H', Ext ρ h H ρ' (h ++ [o]) H' → H' p = some u → RpO B ρ' (h ++ [o]).length H' o p) :
    Sim B (at_ ρ h.length p) (h ++ [o]) (upd H p u) ∧ Ext ρ h H (at_ ρ h.length p) (h ++ [o]) (upd H p u) := by
  have ll : (h ++ [o]).length = h.length + 1 := by rw [List.length_append, List.length_singleton]
  have gl : ∀ n, n < h.length → (h ++ [o])[n]? = h[n]? := fun n hn => List.getElem?_append_left hn
  have gn : (h ++ [o])[h.length]? = some o := by rw [List.getElem?_append_right (Nat.le_refl _), Nat.sub_self]; rfl
  have kn : ∀ n, n < h.length → isF (h ++ [o]) n = isF h n := fun n hn => by unfold isF; rw [gl n hn]
  have ne : ∀ n, n < h.length → isF h n = false → ρ n ≠ p := fun n hn hf z => by
    obtain ⟨o1, e1, f1⟩ := isF_false hn hf
    obtain ⟨u1, e2⟩ := (s.obj n o1 e1).some_ f1
    rw [z, hp] at e2; cases e2
  have X : Ext ρ h H (at_ ρ h.length p) (h ++ [o]) (upd H p u) := by
    refine ⟨by omega, kn, fun n hn => at_ne (Nat.ne_of_lt hn), fun a v e _ => ?_, fun n h1 h2 _ => ?_, fun n kvs e => ?_⟩
    rotate_left 2
    · obtain ⟨ks, ob, e1, _⟩ := s.obj n _ e
      exact ⟨by rw [gl n (List.getElem?_eq_some_iff.mp e).1]; exact e, by rw [upd_ne (ne_of_none e1 hp)]⟩
    · rw [upd_ne (ne_of_none e hp)]; exact e
    · have : n = h.length := by omega
      subst this
      rw [at_same]; exact hp
  refine ⟨⟨fun m n hm hn fm fn z => ?_, fun n o1 e => ?_⟩, X⟩
  · rw [ll] at hm hn
    by_cases h1 : m = h.length
    · by_cases h2 : n = h.length
      · omega
      · have hn' : n < h.length := by omega
        rw [h1, at_same, at_ne h2] at z
        rw [kn n hn'] at fn
        exact absurd z.symm (ne n hn' fn)
    · have hm' : m < h.length := by omega
      by_cases h2 : n = h.length
      · rw [h2, at_same, at_ne h1] at z
        rw [kn m hm'] at fm
        exact absurd z (ne m hm' fm)
      · have hn' : n < h.length := by omega
        rw [at_ne h1, at_ne h2] at z
        rw [kn m hm'] at fm
        rw [kn n hn'] at fn
        exact s.inj m n hm' hn' fm fn z
  · by_cases h1 : n = h.length
    · subst h1
      rw [gn] at e; cases e
      rw [at_same]
      exact q _ _ X upd_same
    · have hn : n < h.length := by
        have := (List.getElem?_eq_some_iff.mp e).1
        omega
      rw [gl n hn] at e
      rw [at_ne h1]
      refine (s.obj n o1 e).ext X s (fun _ v ev => ?_) fun ob xs ev => ?_
      · rw [upd_ne (ne_of_none ev hp)]; exact ev
      · rw [upd_ne (ne_of_none ev hp)]; exact ev
/-- the thing of number n is changed -/
theorem write_ok {n : Nat} {o o1 : O} {u : HO} (s : Sim B ρ h H) (hn : h[n]? = some o) (ho : ∀ ws, o ≠ .frl ws) (hz : ∀ kvs, o ≠ .frd kvs) (ho1 : ∀ ws, o1 ≠ .frl ws) (q : ∀ ρ' H', Ext ρ h H ρ' (h.set n o1) H' → H' (ρ n) = some u → RpO B ρ' (h.set n o1).length H' o1 (ρ n)) :
    Sim B ρ (h.set n o1) (upd H (ρ n) u) ∧ Ext ρ h H ρ (h.set n o1) (upd H (ρ n) u) := by
  have hl : n < h.length := (List.getElem?_eq_some_iff.mp hn).1
  have ll : (h.set n o1).length = h.length := List.length_set
  have gn : (h.set n o1)[n]? = some o1 := List.getElem?_set_self hl
  have gl : ∀ m, n ≠ m → (h.set n o1)[m]? = h[m]? := fun m hm => List.getElem?_set_ne hm
  have fn : isF h n = false := isF_of hn ho
  have kn : ∀ m, isF (h.set n o1) m = isF h m := fun m => by
    by_cases z : n = m
    · subst z
      rw [isF_of gn ho1, fn]
    · unfold isF; rw [gl m z]
  have X : Ext ρ h H ρ (h.set n o1) (upd H (ρ n) u) := by
    refine ⟨by omega, fun m _ => kn m, fun m _ => rfl, fun a v e hc => ?_, fun m h1 h2 => by omega, fun m kvs e => ?_⟩
    · rw [upd_ne (hc n hl fn).symm]; exact e
    · have hne : n ≠ m := fun z => by subst z; rw [hn] at e; exact hz kvs (Option.some.inj e)
      have hm : m < h.length := (List.getElem?_eq_some_iff.mp e).1
      exact ⟨by rw [gl m hne]; exact e, by rw [upd_ne fun z => hne (s.inj m n hm hl (isF_of e fun _ z => by cases z) fn z).symm]⟩
  refine ⟨⟨fun m k hm hk fm fk z => s.inj m k (by omega) (by omega) ((kn m).symm.trans fm) ((kn k).symm.trans fk) z, fun m o2 e => ?_⟩, X⟩
  by_cases z : n = m
  · subst z
    rw [gn] at e; cases e
    exact q _ _ X upd_same
  · rw [gl m z] at e
    have hm : m < h.length := (List.getElem?_eq_some_iff.mp e).1
    refine (s.obj m o2 e).ext X s (fun hf v ev => ?_) fun ob xs ev => ?_
    · rw [upd_ne fun y => z (s.inj m n hm hl (isF_of e hf) fn y).symm]; exact ev
    · rw [upd_ne fun y => (s.obj n o hn).nofrz ho (y ▸ ev)]; exact ev
end
/-! ### the environment -/
def REnv (B : Bs) (ρ : Nat → Addr) (L : Nat) (H : Hp) (s : Env) (σ : L2.St) : Prop := s.length = σ.length ∧ ∀ (i : Nat) (w : W), s[i]? = some (some w) → ∃ x, σ[i]? = some (some x) ∧ Rp B ρ L H w x
section
variable {B : Bs} {ρ ρ' : Nat → Addr} {h h' : AH} {H H' : Hp} {L : Nat} {s : Env} {σ : L2.St}
theorem REnv.ext (x : Ext ρ h H ρ' h' H') (m : Sim B ρ h H) (q : REnv B ρ h.length H s σ) : REnv B ρ' h'.length H' s σ :=
  ⟨q.1, fun i w e => let ⟨y, e1, e2⟩ := q.2 i w e; ⟨y, e1, e2.ext x m⟩⟩
theorem REnv.set (q : REnv B ρ L H s σ) (i : Nat) {w : W} {x : V} (r : Rp B ρ L H w x) : REnv B ρ L H (s.set i (some w)) (σ.set i (some x)) := by
  refine ⟨by rw [List.length_set, List.length_set]; exact q.1, fun j v e => ?_⟩
  by_cases hj : i = j
  · subst hj
    by_cases hl : i < s.length
    · rw [List.getElem?_set_self hl] at e
      cases e
      exact ⟨x, by rw [List.getElem?_set_self (by rw [← q.1]; exact hl)], r⟩
    · rw [List.getElem?_eq_none (by rw [List.length_set]; omega)] at e; cases e
  · rw [List.getElem?_set_ne hj] at e
    obtain ⟨y, e1, e2⟩ := q.2 j v e
    exact ⟨y, by rw [List.getElem?_set_ne hj]; exact e1, e2⟩
theorem REnv.wipe1 (q : REnv B ρ L H s σ) (i : Nat) : REnv B ρ L H (s.set i none) (σ.set i none) := by
  refine ⟨by rw [List.length_set, List.length_set]; exact q.1, fun j v e => ?_⟩
  by_cases hj : i = j
  · subst hj
    by_cases hl : i < s.length
    · rw [List.getElem?_set_self hl] at e; cases e
    · rw [List.getElem?_eq_none (by rw [List.length_set]; omega)] at e; cases e
  · rw [List.getElem?_set_ne hj] at e
    obtain ⟨y, e1, e2⟩ := q.2 j v e
    exact ⟨y, by rw [List.getElem?_set_ne hj]; exact e1, e2⟩
theorem REnv.wipe (q : REnv B ρ L H s σ) : ∀ vs : List Nat, REnv B ρ L H (wipeE s vs) (L2.wipe σ vs)
  | [] => q
  | v :: vs => by unfold wipeE L2.wipe; exact (q.wipe vs).wipe1 v
end
/-! ### lifts -/
section
variable (B : Bs) (W_ : WX)
/-- what is wanted of an outcome, from (ρ, h, H) on -/
def OutE {α : Type} (ρ : Nat → Addr) (h : AH) (H : Hp) (σ : L2.St) (r : R α) (Q : α → (Nat → Addr) → AH → Hp → Prop) : Prop := match r with
  | .ok a h' => ∀ ρ' H', Sim B ρ' h' H' → Ext ρ h H ρ' h' H' → Q a ρ' h' H'
  | .ex c h' => ∀ ρ' H', Sim B ρ' h' H' → Ext ρ h H ρ' h' H' → W_ (.ref (B.ca c)) none σ H'
  | .bad => False
/-- a start: heaps and names that stand for one another -/
def AtE (P : (Nat → Addr) → AH → Env → Prop) (σ : L2.St) (H : Hp) : Prop := ∃ ρ h s, Sim B ρ h H ∧ REnv B ρ h.length H s σ ∧ P ρ h s
def LE (m : Env → Mo W) : TE := fun σ H Q => ∃ ρ h s, Sim B ρ h H ∧ REnv B ρ h.length H s σ ∧ OutE B W_ ρ h H σ (m s h) fun w ρ' h' H' => ∀ x, Rp B ρ' h'.length H' w x → Q x H'
def LA (m : Env → Mo (List W)) : TA := fun σ H Q => ∃ ρ h s, Sim B ρ h H ∧ REnv B ρ h.length H s σ ∧ OutE B W_ ρ h H σ (m s h) fun ws ρ' h' H' => ∀ xs, Rps B ρ' h'.length H' ws xs → Q xs H'
def LT (m : Env → Mo Bool) : TT := fun σ H Q => ∃ ρ h s, Sim B ρ h H ∧ REnv B ρ h.length H s σ ∧ OutE B W_ ρ h H σ (m s h) fun b _ _ H' => Q b H'
/-- a walked thing and the hand layer's -/
def ItR (ρ : Nat → Addr) (h : AH) (H : Hp) (J : It) (JJ : L2.It) : Prop := ∀ ρ1 h1 H1, Ext ρ h H ρ1 h1 H1 → Sim B ρ1 h1 H1 → ∀ i, match J.item h1 i with
  | some (some w) => JJ.go i H1 ∧ ∀ x H2, JJ.yld i H1 x H2 → Sim B ρ1 h1 H2 ∧ Ext ρ1 h1 H1 ρ1 h1 H2 ∧ Rp B ρ1 h1.length H2 w x
  | some none => JJ.stop i H1
  | none => True
def LI (m : Env → Mo It) : TI := fun σ H R => ∃ ρ h s, Sim B ρ h H ∧ REnv B ρ h.length H s σ ∧ OutE B W_ ρ h H σ (m s h) fun J ρ' h' H' => ∀ JJ, ItR B ρ' h' H' J JJ → R JJ H'
def OutF (ρ : Nat → Addr) (h : AH) (H : Hp) (r : R Fl) (D : Ends) : Prop := match r with
  | .ok (.nx s') h' => ∀ ρ' H' σ', Sim B ρ' h' H' → Ext ρ h H ρ' h' H' → REnv B ρ' h'.length H' s' σ' → D.nx σ' H'
  | .ok (.rt w) h' => ∀ ρ' H' x, Sim B ρ' h' H' → Ext ρ h H ρ' h' H' → Rp B ρ' h'.length H' w x → D.rt x H'
  | .ok (.bk s') h' => ∀ ρ' H' σ', Sim B ρ' h' H' → Ext ρ h H ρ' h' H' → REnv B ρ' h'.length H' s' σ' → D.bk σ' H'
  | .ok (.ct s') h' => ∀ ρ' H' σ', Sim B ρ' h' H' → Ext ρ h H ρ' h' H' → REnv B ρ' h'.length H' s' σ' → D.ct σ' H'
  | .ok (.xn c s') h' => ∀ ρ' H' σ', Sim B ρ' h' H' → Ext ρ h H ρ' h' H' → REnv B ρ' h'.length H' s' σ' → W_ (.ref (B.ca c)) none σ' H'
  | .ex _ _ => False
  | .bad => False
def LS (m : Env → Mo Fl) : TS := fun D σ H => ∃ ρ h s, Sim B ρ h H ∧ REnv B ρ h.length H s σ ∧ OutF B W_ ρ h H (m s h) D
end
section
variable {B : Bs} {W_ : WX} {ρ ρ' : Nat → Addr} {h h' : AH} {H H' : Hp} {σ : L2.St}
theorem OutE.mono {α : Type} {r : R α} {Q Q' : α → (Nat → Addr) → AH → Hp → Prop} (x : OutE B W_ ρ h H σ r Q) (f : ∀ a ρ' h' H', Sim B ρ' h' H' → Ext ρ h H ρ' h' H' → Q a ρ' h' H' → Q' a ρ' h' H') : OutE B W_ ρ h H σ r Q' := by
  cases r with
  | ok a h' => exact fun ρ' H' s e => f a ρ' h' H' s e (x ρ' H' s e)
  | ex c h' => exact x
  | bad => exact x
/-- one after another -/
theorem OutE.bnd {α β : Type} {m : Mo α} {f : α → Mo β} {Q : β → (Nat → Addr) → AH → Hp → Prop} (x : OutE B W_ ρ h H σ (bnd m f h) Q) :
    OutE B W_ ρ h H σ (m h) fun a ρ' h' H' => Sim B ρ' h' H' → OutE B W_ ρ' h' H' σ (f a h') Q := by
  unfold MI.bnd at x
  cases hm : m h with
  | bad => rw [hm] at x; exact x
  | ex c h' => rw [hm] at x; exact x
  | ok a h' =>
    rw [hm] at x
    intro ρ' H' s e _
    have x : OutE B W_ ρ h H σ (f a h') Q := x
    cases hf : f a h' with
    | bad => rw [hf] at x; exact x
    | ex c h2 => rw [hf] at x; exact fun ρ2 H2 s2 e2 => x ρ2 H2 s2 (e.trans e2 s2)
    | ok b h2 => rw [hf] at x; exact fun ρ2 H2 s2 e2 => x ρ2 H2 s2 (e.trans e2 s2)
theorem OutE.pure {α : Type} {a : α} {Q : α → (Nat → Addr) → AH → Hp → Prop} (x : OutE B W_ ρ h H σ (ret a h) Q) (s : Sim B ρ h H) : Q a ρ h H := x ρ H s .refl
theorem OutE.rdO {α : Type} {f : AH → Option α} {Q : α → (Nat → Addr) → AH → Hp → Prop} (x : OutE B W_ ρ h H σ (rdO f h) Q) (s : Sim B ρ h H) : ∃ a, f h = some a ∧ Q a ρ h H := by
  unfold MI.rdO at x
  cases e : f h with
  | none => rw [e] at x; exact x.elim
  | some a => rw [e] at x; exact ⟨a, rfl, x ρ H s .refl⟩
end
end MI
/-! MD: new tuples, laid as exact objects. -/
namespace MI
open PySem PySem.Spec PyProof.Rows L2
/-- what is wanted of a new tuple -/
abbrev NewT (H : Hp) (xs : List V) (Q : VK) : Prop := ∀ p ob, H p = none → ob.cls = .type "tuple" → ob.dict = none → Q (.ref p) (upd H p (.frz ob (.tup xs)))
section
variable {X : Cx} {pins : List (Addr × Obj)} {σ : L2.St} {H : Hp} {s : Shared}
theorem newT_inv {its : List Value} {xs : List V} {t : Nat} (I : L2.Inv X pins σ H s) (r : Vals xs its) (hz : xs.length ≤ sizeLine) :
    L2.Inv X pins σ (upd H s.heap.objs.size (.frz { cls := .type "tuple", data := .seq its.toArray } (.tup xs))) { s with heap := s.heap.push { cls := .type "tuple", data := .seq its.toArray }, toks := t } := by
  refine I.laid (fun _ _ q => Heap.get?_push_of_some _ q) (Nat.le_refl _) ?_
  exact ⟨Heap.get?_push_size _ rfl, hz, its, r, IsTup.new _ _⟩
theorem newT_ep {its : List Value} {xs : List V} {Q : VK} (I : L2.Inv X pins σ H s) (r : Vals xs its) (hz : xs.length ≤ sizeLine) (q : NewT H xs Q) :
    EP X pins σ Q (.ref s.heap.objs.size) { s with heap := s.heap.push { cls := .type "tuple", data := .seq its.toArray } } :=
  ⟨.ref s.heap.objs.size, _, newT_inv (t := s.toks) I r hz, rfl, q _ _ (I.hok.fresh (Nat.le_refl _)) rfl rfl⟩
/-- a display -/
def tTupD (t : TA) : TE := fun σ H Q => t σ H fun xs H1 => xs.length ≤ sizeLine ∧ NewT H1 xs Q
theorem pe_tupD {es : List Expr} {t : TA} {pos : Pos} {x1} (h : PA X es t) : PE X (.Tuple es x1 pos) (tTupD t) := by
  refine ⟨fun ps s0 σ0 H0 Q I0 hq => wpAny_Tuple_spliced (thn (h.run pos ps s0 σ0 H0 _ I0 hq) fun us s1 hy => ?_)⟩
  obtain ⟨ys, H1, I1, r, z, q⟩ := hy
  exact ⟨by rw [← r.length]; exact z, newT_ep I1 r z q⟩
/-- t + u -/
def rCatD (K : PySem.W.Frag) : R2 := fun x y H Q => ∃ a b xs ys, x = .ref a ∧ y = .ref b ∧ SqT K H a xs ∧ SqT K H b ys ∧ xs.length + ys.length ≤ sizeLine ∧
  (xs = [] → Q (.ref b) H) ∧ (xs ≠ [] → ys = [] → Q (.ref a) H) ∧ (xs ≠ [] → ys ≠ [] → NewT H (xs ++ ys) Q)
theorem op_catD : OpR X (binaryOp .Add) (rCatD X.K) := by
  intro ps s0 σ0 H0 x y v u Q I0 rx ry hyp
  obtain ⟨a, b, xs, ys, rfl, rfl, ta, tb, z, q0, q1, q2⟩ := hyp
  cases rx
  cases ry
  by_cases hx : xs = []
  · exact op_catA ps s0 σ0 H0 (.ref a) (.ref b) _ _ Q I0 rfl rfl ⟨a, b, xs, ys, rfl, rfl, ta, tb, z, q0, fun w => absurd hx w, fun w => absurd hx w⟩
  · by_cases hy : ys = []
    · exact op_catA ps s0 σ0 H0 (.ref a) (.ref b) _ _ Q I0 rfl rfl ⟨a, b, xs, ys, rfl, rfl, ta, tb, z, q0, q1, fun _ w => absurd hy w⟩
    · obtain ⟨it1, r1, p1, _⟩ := I0.tuple ta
      obtain ⟨it2, r2, p2, _⟩ := I0.tuple tb
      refine HT.cat_tup p1 p2 (fun w => hx (r1.nil_iff.mp w)) (fun w => absurd (r2.nil_iff.mp w) hy) (fun _ => ?_) (by rw [← r1.length, ← r2.length]; exact z)
      exact newT_ep I0 (r1.append r2) (by rw [List.length_append]; exact z) (q2 hx hy)
/-- t[lo:hi] -/
def rSlD (K : PySem.W.Frag) : V → Option Int → Option Int → Hp → VK → Prop := fun x lo hi H Q => ∃ a xs, x = .ref a ∧ SqT K H a xs ∧
  (HT.sIx xs.length 0 lo = 0 ∧ HT.sIx xs.length xs.length hi = xs.length → Q (.ref a) H) ∧ (¬ (HT.sIx xs.length 0 lo = 0 ∧ HT.sIx xs.length xs.length hi = xs.length) → NewT H (cutV xs lo hi) Q)
theorem sl_tupD : SlR X (rSlD X.K) := by
  intro ps s0 σ0 H0 x v vl vu lo hi sl Q I0 rx hs pl pu hyp
  obtain ⟨a, xs, rfl, tx, q1, q2⟩ := hyp
  by_cases hw : HT.sIx xs.length 0 lo = 0 ∧ HT.sIx xs.length xs.length hi = xs.length
  · exact sl_tupA ps s0 σ0 H0 (.ref a) v vl vu lo hi sl Q I0 rx hs pl pu ⟨a, xs, rfl, tx, q1, fun w => absurd hw w⟩
  · cases rx
    obtain ⟨its, r, ht, hz⟩ := I0.tuple tx
    have el : its.toArray.size = xs.length := by rw [List.size_toArray, r.length]
    refine ⟨"tuple", _, slot_tuple_getitem.lookup, ht.typeIs, HT.getItem_tuple_cut ht hs pl pu (by rw [el]; exact hw) ?_ (by rw [el]; exact hz)⟩
    rw [el]
    exact newT_ep I0 ((r.drop _).take _) (Nat.le_trans (cutV_length xs lo hi) hz) (q2 hw)
/-- t * k -/
def rRepD (K : PySem.W.Frag) : R2 := fun x y H Q => ∃ l k xs, x = .ref l ∧ y = .int k ∧ SqT K H l xs ∧ xs ≠ [] ∧ 2 ≤ k ∧ k ≤ 1000 ∧ xs.length ≤ 1000 ∧ NewT H (List.replicate k.toNat xs).flatten Q
theorem op_repD : OpR X (binaryOp .Mult) (rRepD X.K) := by
  intro ps s0 σ0 H0 x y v u Q I0 rx ry hyp
  obtain ⟨l, k, xs, rfl, rfl, tx, ne, k1, k2, hz, q⟩ := hyp
  cases rx
  obtain ⟨tk, rfl⟩ := ry
  obtain ⟨its, r, ⟨⟨oc, od, dt, sl⟩, ho, hc, n, hd⟩, _⟩ := I0.tuple tx
  dsimp only at hc hd
  subst hc hd
  have el : its.length = xs.length := r.length.symm
  have pos : 1 ≤ its.length := by
    rw [el]
    cases xs with
    | nil => exact absurd rfl ne
    | cons _ _ => simp
  have hi : its.toArray.isEmpty = false := by
    cases its with
    | nil => simp at pos
    | cons _ _ => rfl
  have es : its.toArray.size = xs.length := by rw [List.size_toArray, el]
  have mz : ((its.toArray.size : Nat) : Int) * k ≤ 1000000 := by
    rw [es]
    have : ((xs.length : Nat) : Int) * k ≤ 1000 * k := Int.mul_le_mul_of_nonneg_right (by omega) (by omega)
    omega
  have fz : ∀ {α : Type} {l : List α}, l.length ≤ 1000 → (List.replicate k.toNat l).flatten.length ≤ sizeLine := fun {α l} hl => by
    rw [lm_len_rep_flat, sizeLine_eq]
    have : k.toNat * l.length ≤ 1000 * 1000 := Nat.mul_le_mul (by omega) hl
    omega
  have g0 : (decide (k < -(2 ^ 63)) || decide (k ≥ 2 ^ 63)) = false := by rw [Bool.or_eq_false_iff]; exact ⟨decide_eq_false (by omega), decide_eq_false (by omega)⟩
  have g1 : (its.toArray.isEmpty || k == 1) = false := by rw [Bool.or_eq_false_iff]; exact ⟨hi, beq_eq_false_iff_ne.mpr (by omega)⟩
  have g2 : (decide (k ≤ 0) || its.toArray.isEmpty) = false := by rw [Bool.or_eq_false_iff]; exact ⟨decide_eq_false (by omega), hi⟩
  have g4 : Builtin.Tuple.tupleTooMany (((its.toArray.size : Nat) : Int) * k) = false := decide_eq_false (by rw [sizeLine_eq]; omega)
  have ty : s0.TypeIs (.ref l) "tuple" := ⟨_, ho, rfl⟩
  have last := call_meets (A := X.A) (E := X.xe) (prog := X.prog) (w := X.w) (Q := EP X ps σ0 Q) (s := s0) F.slot_tuple_mul ty F.entry_tuple_mul (F.args_tuple_mul_2 _ _)
    (tuple_mulW l its.toArray n od sl k tk g0 g1 g2 (by omega) g4 (by rw [size_rep, List.size_toArray]; exact fz (by rw [el]; exact hz))) ⟨ho, by
      rw [size_rep]
      exact newT_ep I0 (r.rep k.toNat) (fz hz) q⟩
  exact wpAny_binaryOp_repeat_ref (T := "tuple") (U := "int") (by decide) ty (fun s' => typeIs_int s' k tk) noFill_tuple_mul F.fills_int_mul F.slot_int_rmul repeat_tuple F.slot_int_index.lookup
    (call_meets F.slot_int_rmul (typeIs_int s0 k tk) F.entry_int_rmul (F.args_int_rmul_2 _ _) (int_rmul_tuple k tk l its.toArray n od sl) ⟨ho, rfl, ty, last⟩)
/-- tuple(..) of a list or tuple -/
theorem call_tupleD : CallR X (.type "tuple") (fun xs H Q => ∃ p ys, xs = [.ref p] ∧ ((SqL X.K H p ys ∧ NewT H ys Q) ∨ (SqT X.K H p ys ∧ Q (.ref p) H))) := by
  intro ps s0 σ0 H0 xs us Q I0 r0 hyp
  obtain ⟨p, ys, rfl, hyp⟩ := hyp
  rcases hyp with ⟨hq, q⟩ | hyp
  · obtain ⟨u, rfl, ru⟩ := vals1 r0
    cases ru
    obtain ⟨its, r, pl, hz⟩ := I0.list hq
    refine call_tuple_list pl.isList (fun h1 kp => ?_) (by rw [List.size_toArray, ← r.length]; exact hz)
    exact newT_ep (s := { s0 with heap := h1 }) (I0.kept (t' := s0.toks) kp) r hz q
  · exact call_tuple_of ps s0 σ0 H0 _ us Q I0 r0 ⟨p, ys, rfl, .inr hyp⟩
end
end MI
/-! MI3: the expressions' constructs, one by one. -/
namespace MI
open PySem PySem.Spec PyProof.Rows L2
section
variable {X : Cx} {B : Bs} {W_ : WX} {e a b d : Expr} {pos : Pos} {ma mb md : Env → Mo W}
theorem PE.weak {t t' : TE} (p : PE X e t) (f : ∀ σ H Q, t' σ H Q → t σ H Q) : PE X e t' := ⟨fun pins s σ H Q I h => p.run pins s σ H Q I (f σ H Q h)⟩
theorem PT.weak {t t' : TT} (p : PT X e t) (f : ∀ σ H Q, t' σ H Q → t σ H Q) : PT X e t' := ⟨fun pins s σ H Q I h => p.run pins s σ H Q I (f σ H Q h)⟩
theorem snd_var {i : Nat} {x : Nm} (hN : X.N[i]? = some x) (hv : Vis X.env.scope x) (h1 : (x == ("__debug__" : Str)) = false) (h2 : (x == ("__classdict__" : Str)) = false) :
    PE X (.Name x pos) (LE B W_ fun s => rdO fun _ => (s[i]?).join) := by
  refine PE.weak (pe_var hN hv h1 h2) fun σ H Q ⟨ρ, h, s, S, E, o⟩ => ?_
  obtain ⟨w, ew, q⟩ := o.rdO S
  have es : s[i]? = some (some w) := by
    cases z : s[i]? with
    | none => rw [z] at ew; cases ew
    | some v => rw [z] at ew; exact congrArg some ew
  obtain ⟨y, e1, r⟩ := E.2 i w es
  exact ⟨y, e1, q y r⟩
theorem snd_const {v : V} {w : W} (p : PE X e (tC v)) (hw : ∀ ρ L H, Rp B ρ L H w v) : PE X e (LE B W_ fun _ => ret w) :=
  PE.weak p fun σ H Q ⟨ρ, h, s, S, E, o⟩ => o.pure S v (hw _ _ _)
theorem snd_gl {x : Nm} {u : Value} {v : V} {w : W} (hg : Gl X x) (hm : X.mg x = some u) (r : RelV v u) (hd : (x == ("__debug__" : Str)) = false) {g : Nm → Option W} (eg : g x = some w) (hw : ∀ ρ L H, Rp B ρ L H w v) :
    PE X (.Name x pos) (LE B W_ fun _ => ofO (g x)) := by
  rw [eg]
  exact snd_const (pe_glob hg hm r hd) hw
/-- two values, then something by values -/
theorem LE.two {m : Env → Mo W} {f : W → W → Mo W} {r : R2} (hm : ∀ s, m s = bnd (ma s) fun x => bnd (mb s) fun y => f x y)
    (hr : ∀ ρ h H σ x y xv yv (Q : VK), Sim B ρ h H → Rp B ρ h.length H x xv → Rp B ρ h.length H y yv → OutE B W_ ρ h H σ (f x y h) (fun w ρ' h' H' => ∀ v, Rp B ρ' h'.length H' w v → Q v H') → r xv yv H Q) :
    ∀ σ H Q, LE B W_ m σ H Q → tOp r (LE B W_ ma) (LE B W_ mb) σ H Q := by
  rintro σ H Q ⟨ρ, h, s, S, E, o⟩
  rw [hm s] at o
  refine ⟨ρ, h, s, S, E, o.bnd.mono fun x ρ1 h1 H1 s1 e1 k xv rx => ?_⟩
  refine ⟨ρ1, h1, s, s1, E.ext e1 S, (k s1).bnd.mono fun y ρ2 h2 H2 s2 e2 k2 yv ry => ?_⟩
  exact hr ρ2 h2 H2 σ x y xv yv Q s2 (rx.ext e2 s1) ry (k2 s2)
theorem LE.one {m : Env → Mo W} {f : W → Mo W} {r : V → Hp → VK → Prop} (hm : ∀ s, m s = bnd (ma s) fun x => f x)
    (hr : ∀ ρ h H σ x xv (Q : VK), Sim B ρ h H → Rp B ρ h.length H x xv → OutE B W_ ρ h H σ (f x h) (fun w ρ' h' H' => ∀ v, Rp B ρ' h'.length H' w v → Q v H') → r xv H Q) :
    ∀ σ H Q, LE B W_ m σ H Q → LE B W_ ma σ H fun x H1 => r x H1 Q := by
  rintro σ H Q ⟨ρ, h, s, S, E, o⟩
  rw [hm s] at o
  exact ⟨ρ, h, s, S, E, o.bnd.mono fun x ρ1 h1 H1 s1 e1 k xv rx => hr ρ1 h1 H1 σ x xv Q s1 rx (k s1)⟩
theorem rd_inl {α : Type} {ρ : Nat → Addr} {h : AH} {H : Hp} {σ : L2.St} {w : W} {Q : W → (Nat → Addr) → AH → Hp → Prop} (o : OutE B W_ ρ h H σ (outM (some (.inl w)) h) Q) (S : Sim B ρ h H) : Q w ρ h H := o.pure S
/-- an allocation's outcome -/
theorem outAlloc {ρ : Nat → Addr} {h : AH} {H : Hp} {σ : L2.St} {o : O} {u : HO} {Q : VK} (x : OutE B W_ ρ h H σ (alloc o h) fun w ρ' h' H' => ∀ v, Rp B ρ' h'.length H' w v → Q v H') (S : Sim B ρ h H) (ho : ∀ ws, o ≠ .frl ws) {p : Addr} (hp : H p = none)
    (q : ∀ ρ' H', Ext ρ h H ρ' (h ++ [o]) H' → H' p = some u → RpO B ρ' (h ++ [o]).length H' o p) : Q (.ref p) (upd H p u) := by
  obtain ⟨S', X'⟩ := alloc_ok S hp ho q
  refine x _ _ S' X' (.ref p) ?_
  unfold Rp
  exact ⟨by rw [List.length_append, List.length_singleton]; omega, by rw [at_same]⟩
/-- a new tuple -/
theorem outTup {ρ : Nat → Addr} {h : AH} {H : Hp} {ws : List W} {xs : List V} {Q : VK} (S : Sim B ρ h H) (r : Rps B ρ h.length H ws xs)
    (x : ∀ ρ' H', Sim B ρ' h H' → Ext ρ h H ρ' h H' → ∀ v, Rp B ρ' h.length H' (.tup ws) v → Q v H') : NewT H xs Q := by
  intro p ob hp hc hd
  have E : Ext ρ h H ρ h (upd H p (.frz ob (.tup xs))) := by
    refine ⟨Nat.le_refl _, fun _ _ => rfl, fun _ _ => rfl, fun a o e _ => ?_, fun n h1 h2 => by omega, fun n kvs e => ?_⟩
    · rw [upd_ne (ne_of_none e hp)]; exact e
    · obtain ⟨ks, ob, e1, _⟩ := S.obj n _ e
      exact ⟨e, by rw [upd_ne (ne_of_none e1 hp)]⟩
  refine x ρ _ ⟨S.inj, fun n o e => (S.obj n o e).ext E S (fun _ v ev => ?_) fun ob xs ev => ?_⟩ E (.ref p) ?_
  · rw [upd_ne (ne_of_none ev hp)]; exact ev
  · rw [upd_ne (ne_of_none ev hp)]; exact ev
  · unfold Rp
    exact ⟨p, xs, rfl, ⟨.inl (.inr ⟨ob, upd_same⟩), .inl ⟨ob, xs, upd_same, hc, hd⟩⟩, r.ext E S⟩
end
/-! ### what a value is, by the hand layer's words -/
section
variable {B : Bs} {ρ : Nat → Addr} {h : AH} {H : Hp}
theorem Rp.int_ {L : Nat} {i : Int} {v : V} (r : Rp B ρ L H (.int i) v) : v = .int i := by unfold Rp at r; exact r
theorem Rp.str_ {L : Nat} {i : List Nat} {v : V} (r : Rp B ρ L H (.str i) v) : v = .str (st_ i) ∧ okS i = true := by unfold Rp at r; exact r
theorem okS_app {s t : List Nat} (h1 : okS s = true) (h2 : okS t = true) : okS (s ++ t) = true := by unfold okS at *; rw [List.all_append, h1, h2]; rfl
theorem Rp.bl_ {L : Nat} {i : Bool} {v : V} (r : Rp B ρ L H (.bl i) v) : v = .bl i := by unfold Rp at r; exact r
theorem Rp.non_ {L : Nat} {v : V} (r : Rp B ρ L H .non v) : v = .non := by unfold Rp at r; exact r
theorem Rp.tup_ {L : Nat} {ws : List W} {v : V} (r : Rp B ρ L H (.tup ws) v) : ∃ a xs, v = .ref a ∧ SqT B.K H a xs ∧ Rps B ρ L H ws xs := by
  unfold Rp at r
  obtain ⟨a, xs, e, t, q⟩ := r
  exact ⟨a, xs, e, t.1, q⟩
theorem Rp.dn_ {L : Nat} {ws : List W} {v : V} (r : Rp B ρ L H (.tup ws) v) : ∃ a xs, v = .ref a ∧ SqT B.K H a xs ∧ Dn B.K H a ∧ Rps B ρ L H ws xs := by
  unfold Rp at r
  obtain ⟨a, xs, e, t, q⟩ := r
  exact ⟨a, xs, e, t.1, t.2, q⟩
theorem Rp.loc_ {L : Nat} {n : Nat} {v : V} (r : Rp B ρ L H (.loc n) v) : n < L ∧ v = .ref (ρ n) := by unfold Rp at r; exact r
theorem st_len {s : List Nat} : (st_ s).length = s.length := by show (s.toArray).size = _; rw [List.size_toArray]
theorem st_app {s t : List Nat} : st_ s ++ st_ t = st_ (s ++ t) := by
  show (⟨s.toArray ++ t.toArray⟩ : Str) = ⟨(s ++ t).toArray⟩
  rw [List.append_toArray]
theorem st_inj {s t : List Nat} (e : st_ s = st_ t) : s = t := by
  have := congrArg Str.cps e
  simpa using this
/-- the list at n -/
theorem lstM_ {n : Nat} {ws : List W} (S : Sim B ρ h H) (e : lstM h n = some ws) : h[n]? = some (.lst ws) ∧ ∃ xs, H (ρ n) = some (.lst xs) ∧ Rps B ρ h.length H ws xs := by
  unfold lstM at e
  cases q : h[n]? with
  | none => rw [q] at e; cases e
  | some o =>
    rw [q] at e
    cases o with
    | lst xs => cases e; exact ⟨rfl, S.obj n _ q⟩
    | _ => cases e
theorem lstAt_ {n : Nat} {ws : List W} (S : Sim B ρ h H) (e : lstAt h n = some ws) : n < h.length ∧ ∃ xs, SqL B.K H (ρ n) xs ∧ Rps B ρ h.length H ws xs := by
  unfold lstAt at e
  cases q : h[n]? with
  | none => rw [q] at e; cases e
  | some o =>
    rw [q] at e
    refine ⟨(List.getElem?_eq_some_iff.mp q).1, ?_⟩
    cases o with
    | lst xs => cases e; obtain ⟨xs, e1, r⟩ := S.obj n _ q; exact ⟨xs, SqL.of e1, r⟩
    | frl xs =>
      cases e
      obtain ⟨xs, e1, r⟩ := S.obj n _ q
      rcases e1 with ⟨ob, e1⟩ | e1
      · exact ⟨xs, .inl (.inr ⟨ob, e1⟩), r⟩
      · exact ⟨xs, .inr e1, r⟩
    | _ => cases e
theorem dct_ {n : Nat} {kvs : List (W × W)} (S : Sim B ρ h H) (e : h[n]? = some (.dct kvs)) : ∃ ks, H (ρ n) = some (.dK ks) ∧ RpD B ρ h.length H kvs ks ∧ (ks.map fun p => p.1).Nodup := S.obj n _ e
theorem sIx_eq {n d : Nat} {i : Option Int} : sIx n d i = HT.sIx n d i := by
  unfold sIx HT.sIx
  cases i with
  | none => rfl
  | some i =>
    show (if 0 ≤ i then min i.toNat n else (i + n).toNat) = if i < 0 then (i + n).toNat else min i.toNat n
    by_cases hi : 0 ≤ i
    · rw [if_pos hi, if_neg (by omega)]
    · rw [if_neg hi, if_pos (by omega)]
end
section
variable {X : Cx} {B : Bs} {W_ : WX} {e a b d : Expr} {pos : Pos} {ma mb md : Env → Mo W}
theorem LN_eq : (LN : Nat) = sizeLine := by rw [sizeLine_eq]
theorem Rps.repl {B : Bs} {ρ : Nat → Addr} {H : Hp} {L : Nat} {ws : List W} {xs : List V} (r : Rps B ρ L H ws xs) : ∀ n : Nat, Rps B ρ L H (List.replicate n ws).flatten (List.replicate n xs).flatten
  | 0 => by unfold Rps; trivial
  | n + 1 => by
    rw [List.replicate_succ, List.replicate_succ, List.flatten_cons, List.flatten_cons]
    exact r.append (r.repl n)
/-! ### operators -/
def rBinM (K : PySem.W.Frag) : Bop → R2
  | .add => fun x y H Q => rI0 (fun i j => .int (i + j)) x y H Q ∨ (∃ i j, x = .str i ∧ y = .str j ∧ i.length + j.length ≤ sizeLine ∧ Q (.str (i ++ j)) H) ∨ rCatD K x y H Q ∨ rCat x y H Q
  | .sub => rI0 fun i j => .int (i - j)
  | .mul => fun x y H Q => rI CMul (fun i j => .int (i * j)) x y H Q ∨ rRepD K x y H Q ∨ rRep x y H Q
  | .fdiv => rI CDiv fun i j => .int (i / j)
  | .mod => rI (fun _ j => 0 < j) fun i j => .int (i % j)
  | .pow => rI CPow fun i j => .int (i ^ j.toNat)
def oper : Bop → Operator
  | .add => .Add
  | .sub => .Sub
  | .mul => .Mult
  | .fdiv => .FloorDiv
  | .mod => .Mod
  | .pow => .Pow
theorem op_binM (op : Bop) : OpR X (binaryOp (oper op)) (rBinM X.K op) := by
  cases op with
  | add => exact op_add.or (op_add_str.or (op_catD.or op_cat))
  | sub => exact op_sub
  | mul => exact op_mul.or (op_repD.or op_rep)
  | fdiv => exact op_fdiv
  | mod => exact op_mod
  | pow => exact op_pow
theorem mulOk_ {i j : Int} (e : mulOk i j = true) : CMul i j := by
  have e64 : P64 = 2 ^ 64 := by decide
  unfold mulOk at e
  rw [Bool.or_eq_true, Bool.and_eq_true, Bool.and_eq_true, decide_eq_true_eq, decide_eq_true_eq, decide_eq_true_eq, decide_eq_true_eq, e64] at e
  exact e
theorem bin_ok (op : Bop) {ρ : Nat → Addr} {h : AH} {H : Hp} {σ : L2.St} {x y : W} {xv yv : V} {Q : VK} (S : Sim B ρ h H) (rx : Rp B ρ h.length H x xv) (ry : Rp B ρ h.length H y yv)
    (o : OutE B W_ ρ h H σ (bnd (rdO fun h => binH h op x y) (fun r => outM (some r)) h) fun w ρ' h' H' => ∀ v, Rp B ρ' h'.length H' w v → Q v H') : rBinM B.K op xv yv H Q := by
  obtain ⟨r, e, o⟩ := (OutE.bnd o).rdO S
  have o := o S
  have intc : ∀ {i j k : Int}, x = .int i → y = .int j → r = .inl (.int k) → xv = .int i ∧ yv = .int j ∧ Q (.int k) H := fun {i j k} e1 e2 e3 => by
    subst e1 e2 e3
    exact ⟨rx.int_, ry.int_, o.pure S _ (by unfold Rp; rfl)⟩
  cases op with
  | add =>
    cases x with
    | int i =>
      cases y with
      | int j => cases e; obtain ⟨h1, h2, q⟩ := intc rfl rfl rfl; exact .inl ⟨i, j, h1, h2, q⟩
      | _ => cases e
    | str s =>
      cases y with
      | str t =>
        unfold binH at e
        dsimp only at e
        split at e
        · rename_i hz
          cases e
          rw [LN_eq] at hz
          refine .inr (.inl ⟨_, _, rx.str_.1, ry.str_.1, by rw [st_len, st_len]; exact hz, ?_⟩)
          rw [st_app]
          exact o.pure S _ (by unfold Rp; exact ⟨rfl, okS_app rx.str_.2 ry.str_.2⟩)
        · cases e
      | _ => cases e
    | tup s =>
      cases y with
      | tup t =>
        unfold binH at e
        dsimp only at e
        split at e
        · rename_i hz
          cases e
          obtain ⟨a1, xs, e1, t1, d1, r1⟩ := rx.dn_
          obtain ⟨a2, ys, e2, t2, d2, r2⟩ := ry.dn_
          rw [LN_eq] at hz
          subst e1 e2
          have fin : ∀ ρ' H', Sim B ρ' h H' → Ext ρ h H ρ' h H' → ∀ v, Rp B ρ' h.length H' (.tup (s ++ t)) v → Q v H' := o
          refine .inr (.inr (.inl ⟨a1, a2, xs, ys, rfl, rfl, t1, t2, by rw [r1.len, r2.len]; exact hz, fun z => ?_, fun _ z => ?_, fun _ _ => outTup S (r1.append r2) fin⟩))
          · subst z
            refine fin ρ H S .refl _ ?_
            unfold Rp
            refine ⟨a2, ys, rfl, ⟨t2, d2⟩, ?_⟩
            cases s with
            | nil => exact r2
            | cons _ _ => unfold Rps at r1; exact r1.elim
          · subst z
            refine fin ρ H S .refl _ ?_
            unfold Rp
            refine ⟨a1, xs, rfl, ⟨t1, d1⟩, ?_⟩
            cases t with
            | nil => rw [List.append_nil]; exact r1
            | cons _ _ => unfold Rps at r2; exact r2.elim
        · cases e
      | _ => cases e
    | loc m =>
      cases y with
      | loc n =>
        unfold binH at e
        dsimp only at e
        cases em : lstM h m with
        | none => rw [em] at e; cases e
        | some s =>
          cases en : lstM h n with
          | none => rw [em, en] at e; cases e
          | some t =>
            rw [em, en] at e
            dsimp only at e
            split at e
            · rename_i hz
              cases e
              obtain ⟨_, xs, e1, r1⟩ := lstM_ S em
              obtain ⟨_, ys, e2, r2⟩ := lstM_ S en
              rw [LN_eq] at hz
              refine .inr (.inr (.inr ⟨ρ m, ρ n, xs, ys, rx.loc_.2, ry.loc_.2, e1, e2, by rw [r1.len, r2.len]; exact hz, fun p hp => ?_⟩))
              exact outAlloc (u := .lst (xs ++ ys)) o S (fun _ z => by cases z) hp fun ρ' H' x' z => ⟨_, z, (r1.append r2).ext x' S⟩
            · cases e
      | _ => cases e
    | _ => cases y <;> cases e
  | sub =>
    cases x <;> cases y <;> first | (cases e; done) | skip
    cases e; obtain ⟨h1, h2, q⟩ := intc rfl rfl rfl; exact ⟨_, _, h1, h2, q⟩
  | mul =>
    cases x with
    | int i =>
      cases y with
      | int j =>
        unfold binH at e
        dsimp only at e
        split at e
        · rename_i hz
          cases e; obtain ⟨h1, h2, q⟩ := intc rfl rfl rfl; exact .inl ⟨_, _, h1, h2, mulOk_ hz, q⟩
        · cases e
      | _ => cases e
    | tup ws =>
      cases y with
      | int k =>
        unfold binH at e
        dsimp only at e
        split at e
        · rename_i hz
          cases e
          obtain ⟨a1, xs, e1, t1, r1⟩ := rx.tup_
          have fin : ∀ ρ' H', Sim B ρ' h H' → Ext ρ h H ρ' h H' → ∀ v, Rp B ρ' h.length H' (.tup (List.replicate k.toNat ws).flatten) v → Q v H' := o
          refine .inr (.inl ⟨a1, k, xs, e1, ry.int_, t1, fun z => ?_, hz.2.1, hz.2.2.1, by rw [r1.len]; exact hz.2.2.2, outTup S (r1.repl _) fin⟩)
          subst z
          cases ws with
          | nil => exact absurd hz.1 (by decide)
          | cons _ _ => unfold Rps at r1; exact r1.elim
        · cases e
      | _ => cases e
    | loc n =>
      cases y with
      | int k =>
        unfold binH at e
        dsimp only at e
        cases em : lstM h n with
        | none => rw [em] at e; cases e
        | some ws =>
          rw [em] at e
          dsimp only at e
          split at e
          · rename_i hz
            cases e
            obtain ⟨_, zs, ev, r3⟩ := lstM_ S em
            have e3 := rx.loc_.2
            have e63 : (2 : Int) ^ 63 = 9223372036854775808 := by decide
            refine .inr (.inr ⟨ρ n, k, zs, e3, ry.int_, ev, by rw [e63]; omega, by rw [e63]; omega, ?_, fun p hp => ?_⟩)
            · have h1 : zs.length ≤ 1000 := by rw [r3.len]; exact hz.2.2
              have h2 : k.toNat ≤ 1000 := by omega
              exact Nat.le_trans (Nat.mul_le_mul h1 h2) (by decide)
            · exact outAlloc (u := .lst (List.replicate k.toNat zs).flatten) o S (fun _ z => by cases z) hp fun ρ' H' x' z => ⟨_, z, (r3.repl k.toNat).ext x' S⟩
          · cases e
      | _ => cases e
    | _ => cases y <;> cases e
  | fdiv =>
    cases x <;> cases y <;> first | (cases e; done) | skip
    unfold binH at e
    dsimp only at e
    split at e
    · rename_i hz
      cases e; obtain ⟨h1, h2, q⟩ := intc rfl rfl rfl; exact ⟨_, _, h1, h2, hz, q⟩
    · cases e
  | mod =>
    cases x <;> cases y <;> first | (cases e; done) | skip
    unfold binH at e
    dsimp only at e
    split at e
    · rename_i hz
      cases e; obtain ⟨h1, h2, q⟩ := intc rfl rfl rfl; exact ⟨_, _, h1, h2, hz, q⟩
    · cases e
  | pow =>
    cases x <;> cases y <;> first | (cases e; done) | skip
    unfold binH at e
    dsimp only at e
    split at e
    · rename_i hz
      have e64 : P64 = 18446744073709551616 := rfl
      cases e; obtain ⟨h1, h2, q⟩ := intc rfl rfl rfl
      refine ⟨_, _, h1, h2, ⟨hz.1, by omega, ?_⟩, q⟩
      have e65 : (2 : Nat) ^ 64 = 18446744073709551616 := by decide
      rw [e65]; omega
    · cases e
theorem snd_bin (op : Bop) (hK : X.K = B.K) (ha : PE X a (LE B W_ ma)) (hb : PE X b (LE B W_ mb)) : PE X (.BinOp a (oper op) b pos) (LE B W_ fun s => bnd (ma s) fun x => bnd (mb s) fun y => bnd (rdO fun h => binH h op x y) fun r => outM (some r)) :=
  PE.weak (pe_op (op_binM op) ha hb) (LE.two (fun _ => rfl) fun ρ h H σ x y xv yv Q S rx ry o => by rw [hK]; exact bin_ok op S rx ry o)
theorem snd_neg (ha : PE X a (LE B W_ ma)) : PE X (.UnaryOp .USub a pos) (LE B W_ fun s => bnd (ma s) fun x => match x with | .int i => ret (.int (-i)) | _ => bad) :=
  PE.weak (pe_un un_neg ha) (LE.one (fun _ => rfl) fun ρ h H σ x xv Q S rx o => by
    cases x with
    | int i => exact ⟨i, rx.int_, o.pure S _ (by unfold Rp; rfl)⟩
    | _ => exact o.elim)
end
end MI
/-! MI4: truth, comparisons, subscripts, slices, displays. -/
namespace MI
open PySem PySem.Spec PyProof.Rows L2
/-! ### truth -/
section
variable {X : Cx} {B : Bs} {W_ : WX} {e a b d : Expr} {pos : Pos} {ma mb md : Env → Mo W} {ρ : Nat → Addr} {h : AH} {H : Hp}
theorem isEmpty_Rps {L : Nat} {ws : List W} {xs : List V} (r : Rps B ρ L H ws xs) : xs.isEmpty = ws.isEmpty := by
  cases ws with
  | nil => rw [r.nil_]; rfl
  | cons _ _ => obtain ⟨y, q, rfl, _⟩ := r.cons_; rfl
theorem isEmpty_RpD {L : Nat} {ws : List (W × W)} {xs : List (Key × V)} (r : RpD B ρ L H ws xs) : xs.isEmpty = ws.isEmpty := by
  cases ws with
  | nil => cases xs with
    | nil => rfl
    | cons _ _ => unfold RpD at r; exact r.elim
  | cons p _ => cases xs with
    | nil => obtain ⟨k, v⟩ := p; unfold RpD at r; exact r.elim
    | cons _ _ => rfl
theorem tru_ {w : W} {v : V} {k : Bool} (S : Sim B ρ h H) (r : Rp B ρ h.length H w v) (e : tru h w = some k) : TruV B.K v H k := by
  cases w with
  | non => cases e; rw [r.non_]; exact rfl
  | bl b => cases e; rw [r.bl_]; exact rfl
  | int i => cases e; rw [r.int_]; exact rfl
  | str s =>
    unfold tru at e
    dsimp only at e
    split at e
    · rename_i hz
      cases e
      rw [r.str_.1]
      refine ⟨by rw [st_len, ← LN_eq]; exact hz, ?_⟩
      rw [st_len]
      cases s with
      | nil => rfl
      | cons c t =>
        show true = _
        symm
        rw [bne_iff_ne]
        simp only [List.length_cons]
        omega
    · cases e
  | tup ws =>
    cases e
    obtain ⟨a1, xs, e1, t1, r1⟩ := r.tup_
    rw [e1]
    exact .inr (.inl ⟨xs, t1, by rw [isEmpty_Rps r1]⟩)
  | loc n =>
    obtain ⟨hl, ev⟩ := r.loc_
    rw [ev]
    unfold tru at e
    dsimp only at e
    cases q : h[n]? with
    | none => rw [q] at e; cases e
    | some o =>
      rw [q] at e
      cases o with
      | lst ws =>
        cases e
        obtain ⟨xs, e1, r1⟩ := S.obj n _ q
        exact .inl ⟨xs, SqL.of e1, by rw [isEmpty_Rps r1]⟩
      | frl ws =>
        cases e
        obtain ⟨xs, e1, r1⟩ := S.obj n _ q
        refine .inl ⟨xs, ?_, by rw [isEmpty_Rps r1]⟩
        rcases e1 with ⟨ob, e1⟩ | e1
        · exact .inl (.inr ⟨ob, e1⟩)
        · exact .inr e1
      | dct kvs =>
        cases e
        obtain ⟨ks, e1, r1, _⟩ := S.obj n _ q
        exact .inr (.inr ⟨ks, e1, by rw [isEmpty_RpD r1]⟩)
      | _ => cases e
  | gl y => cases e
/-- what a test wants: its value, its truth -/
def TrO (B : Bs) (W_ : WX) (m : Env → Mo W) : Env → Mo Bool := fun s => bnd (m s) truM
theorem LT.val {σ : L2.St} {Q : Bool → Hp → Prop} (x : LT B W_ (TrO B W_ ma) σ H Q) : LE B W_ ma σ H fun v H' => ∃ k, TruV B.K v H' k ∧ Q k H' := by
  obtain ⟨ρ, h, s, S, E, o⟩ := x
  refine ⟨ρ, h, s, S, E, (OutE.bnd o).mono fun w ρ1 h1 H1 s1 e1 k v rv => ?_⟩
  obtain ⟨b, eb, q⟩ := (k s1).rdO s1
  exact ⟨b, tru_ s1 rv eb, q⟩
/-- an expression that is no and, or, not, comparison, if: its test is its value's truth -/
def plainT : Expr → Bool
  | .UnaryOp .Not _ _ => false
  | .BoolOp .. => false
  | .IfExp .. => false
  | .Compare .. => false
  | _ => true
theorem isTrue_of {env : PySem.Env} {e : Expr} (p : plainT e = true) (whole : Sem Value) : isTrue e env whole = (do let v ← whole; standAt e.pos; holding [v] (truthy v)) := by
  cases e with
  | UnaryOp op x q => cases op <;> first | rfl | cases p
  | BoolOp => cases p
  | IfExp => cases p
  | Compare => cases p
  | _ => rfl
theorem snd_test (hK : X.K = B.K) (p : plainT e = true) (ha : PE X e (LE B W_ ma)) : PT X e (LT B W_ (TrO B W_ ma)) :=
  PT.weak (pt_truth ha (isTrue_of p)) fun σ H Q x => by rw [hK]; exact x.val
theorem snd_not (hK : X.K = B.K) (ha : PE X a (LE B W_ ma)) : PE X (.UnaryOp .Not a pos) (LE B W_ fun s => bnd (ma s) fun x => bnd (truM x) fun b => ret (.bl (!b))) := by
  refine PE.weak (pe_notT ha) fun σ H Q ⟨ρ, h, s, S, E, o⟩ => ?_
  refine ⟨ρ, h, s, S, E, o.bnd.mono fun x ρ1 h1 H1 s1 e1 k v rv => ?_⟩
  obtain ⟨b, eb, q⟩ := ((k s1).bnd).rdO s1
  exact ⟨b, by rw [hK]; exact tru_ s1 rv eb, (q s1).pure s1 _ (by unfold Rp; rfl)⟩
theorem bnd_assoc {α β γ : Type} {m : Mo α} {f : α → Mo β} {g : β → Mo γ} : bnd (bnd m f) g = bnd m fun a => bnd (f a) g := by
  funext h
  unfold bnd
  cases m h <;> rfl
theorem bnd_ret {α β : Type} {a : α} {f : α → Mo β} : bnd (ret a) f = f a := rfl
theorem bnd_bad {α β : Type} {f : α → Mo β} : bnd (bad : Mo α) f = bad := rfl
theorem truM_bl {b : Bool} : truM (.bl b) = ret b := rfl
theorem bnd_congr {α β : Type} {m : Mo α} {f g : α → Mo β} (e : ∀ a, f a = g a) : bnd m f = bnd m g := by rw [funext e]
theorem tr_not : TrO B W_ (fun s => bnd (ma s) fun x => bnd (truM x) fun b => ret (.bl (!b))) = fun s => bnd (TrO B W_ ma s) fun b => ret (!b) := by
  funext s
  unfold TrO
  rw [bnd_assoc, bnd_assoc]
  refine bnd_congr fun x => ?_
  rw [bnd_assoc]
  exact bnd_congr fun b => rfl
theorem tr_and : TrO B W_ (fun s => bnd (ma s) fun x => bnd (truM x) fun k => match k with | true => mb s | false => ret x) = fun s => bnd (TrO B W_ ma s) fun k => match k with | true => TrO B W_ mb s | false => ret false := by
  funext s
  unfold TrO
  rw [bnd_assoc, bnd_assoc]
  refine bnd_congr fun x => ?_
  funext h
  unfold bnd truM rdO
  dsimp only
  cases e : tru h x with
  | none => rfl
  | some k => cases k with
    | false => simp only [ret, e]
    | true => rfl
theorem tr_or : TrO B W_ (fun s => bnd (ma s) fun x => bnd (truM x) fun k => match k with | true => ret x | false => mb s) = fun s => bnd (TrO B W_ ma s) fun k => match k with | true => ret true | false => TrO B W_ mb s := by
  funext s
  unfold TrO
  rw [bnd_assoc, bnd_assoc]
  refine bnd_congr fun x => ?_
  funext h
  unfold bnd truM rdO
  dsimp only
  cases e : tru h x with
  | none => rfl
  | some k => cases k with
    | false => rfl
    | true => simp only [ret, e]
theorem tr_ite : TrO B W_ (fun s => bnd (md s) fun x => bnd (truM x) fun k => match k with | true => ma s | false => mb s) = fun s => bnd (TrO B W_ md s) fun k => match k with | true => TrO B W_ ma s | false => TrO B W_ mb s := by
  funext s
  unfold TrO
  rw [bnd_assoc, bnd_assoc]
  refine bnd_congr fun x => ?_
  rw [bnd_assoc]
  exact bnd_congr fun k => by cases k <;> rfl
theorem snd_notT (ha : PT X a (LT B W_ (TrO B W_ ma))) : PT X (.UnaryOp .Not a pos) (LT B W_ (TrO B W_ fun s => bnd (ma s) fun x => bnd (truM x) fun b => ret (.bl (!b)))) := by
  rw [tr_not]
  refine PT.weak (pt_not ha) fun σ H Q ⟨ρ, h, s, S, E, o⟩ => ⟨ρ, h, s, S, E, (OutE.bnd o).mono fun b ρ1 h1 H1 s1 e1 k => (k s1).pure s1⟩
/-- the second part asked only where the first says so -/
theorem LT.cond {f : Env → Bool → Mo Bool} {t1 t2 : TT} (h1 : ∀ σ H Q, LT B W_ (fun s => f s true) σ H Q → t1 σ H Q) (h2 : ∀ σ H Q, LT B W_ (fun s => f s false) σ H Q → t2 σ H Q) {mt : Env → Mo Bool} {σ : L2.St} {H : Hp} {Q : Bool → Hp → Prop}
    (x : LT B W_ (fun s => bnd (mt s) (f s)) σ H Q) : LT B W_ mt σ H fun c H1 => if c = true then t1 σ H1 Q else t2 σ H1 Q := by
  obtain ⟨ρ, h, s, S, E, o⟩ := x
  refine ⟨ρ, h, s, S, E, (OutE.bnd o).mono fun b ρ1 h1' H1 s1 e1 k => ?_⟩
  cases b with
  | true => rw [if_pos rfl]; exact h1 _ _ _ ⟨ρ1, h1', s, s1, E.ext e1 S, k s1⟩
  | false => rw [if_neg Bool.false_ne_true]; exact h2 _ _ _ ⟨ρ1, h1', s, s1, E.ext e1 S, k s1⟩
theorem LT.ret_ {b : Bool} {σ : L2.St} {H : Hp} {Q : Bool → Hp → Prop} (x : LT B W_ (fun _ => ret b) σ H Q) : Q b H := by
  obtain ⟨ρ, h, s, S, E, o⟩ := x
  exact o.pure S
theorem snd_andW {rest : List Expr} (ha : PT X a (LT B W_ (TrO B W_ ma))) (hb : PW X (.BoolOp .And (b :: rest) pos) (LT B W_ (TrO B W_ mb))) :
    PW X (.BoolOp .And (a :: b :: rest) pos) (LT B W_ (TrO B W_ fun s => bnd (ma s) fun x => bnd (truM x) fun k => match k with | true => mb s | false => ret x)) := by
  rw [tr_and]
  refine ⟨fun wh pins s σ H Q I x => (pw_and ha hb).run wh pins s σ H Q I ?_⟩
  exact LT.cond (f := fun s k => match k with | true => TrO B W_ mb s | false => ret false) (t1 := LT B W_ (TrO B W_ mb)) (t2 := fun _ H Q => Q false H) (fun _ _ _ y => y) (fun _ _ _ y => y.ret_) x
theorem snd_orW {rest : List Expr} (ha : PT X a (LT B W_ (TrO B W_ ma))) (hb : PW X (.BoolOp .Or (b :: rest) pos) (LT B W_ (TrO B W_ mb))) :
    PW X (.BoolOp .Or (a :: b :: rest) pos) (LT B W_ (TrO B W_ fun s => bnd (ma s) fun x => bnd (truM x) fun k => match k with | true => ret x | false => mb s)) := by
  rw [tr_or]
  refine ⟨fun wh pins s σ H Q I x => (pw_or ha hb).run wh pins s σ H Q I ?_⟩
  exact LT.cond (f := fun s k => match k with | true => ret true | false => TrO B W_ mb s) (t1 := fun _ H Q => Q true H) (t2 := LT B W_ (TrO B W_ mb)) (fun _ _ _ y => y.ret_) (fun _ _ _ y => y) x
theorem snd_and1 (ha : PT X a (LT B W_ (TrO B W_ ma))) : PW X (.BoolOp .And [a] pos) (LT B W_ (TrO B W_ ma)) := pw_and1 ha
theorem snd_or1 (ha : PT X a (LT B W_ (TrO B W_ ma))) : PW X (.BoolOp .Or [a] pos) (LT B W_ (TrO B W_ ma)) := pw_or1 ha
theorem snd_andV {rest : List Expr} (hK : X.K = B.K) (ha : PE X a (LE B W_ ma)) (hb : PE X (.BoolOp .And (b :: rest) pos) (LE B W_ mb)) :
    PE X (.BoolOp .And (a :: b :: rest) pos) (LE B W_ fun s => bnd (ma s) fun x => bnd (truM x) fun k => match k with | true => mb s | false => ret x) := by
  refine PE.weak (pe_andT ha hb) fun σ H Q ⟨ρ, h, s, S, E, o⟩ => ?_
  refine ⟨ρ, h, s, S, E, o.bnd.mono fun x ρ1 h1 H1 s1 e1 k v rv => ?_⟩
  obtain ⟨b, eb, q⟩ := ((k s1).bnd).rdO s1
  refine ⟨b, by rw [hK]; exact tru_ s1 rv eb, ?_⟩
  cases b with
  | true => rw [if_pos rfl]; exact ⟨ρ1, h1, s, s1, E.ext e1 S, q s1⟩
  | false => rw [if_neg Bool.false_ne_true]; exact (q s1).pure s1 _ rv
theorem snd_orV {rest : List Expr} (hK : X.K = B.K) (ha : PE X a (LE B W_ ma)) (hb : PE X (.BoolOp .Or (b :: rest) pos) (LE B W_ mb)) :
    PE X (.BoolOp .Or (a :: b :: rest) pos) (LE B W_ fun s => bnd (ma s) fun x => bnd (truM x) fun k => match k with | true => ret x | false => mb s) := by
  refine PE.weak (pe_orT ha hb) fun σ H Q ⟨ρ, h, s, S, E, o⟩ => ?_
  refine ⟨ρ, h, s, S, E, o.bnd.mono fun x ρ1 h1 H1 s1 e1 k v rv => ?_⟩
  obtain ⟨b, eb, q⟩ := ((k s1).bnd).rdO s1
  refine ⟨b, by rw [hK]; exact tru_ s1 rv eb, ?_⟩
  cases b with
  | true => rw [if_pos rfl]; exact (q s1).pure s1 _ rv
  | false => rw [if_neg Bool.false_ne_true]; exact ⟨ρ1, h1, s, s1, E.ext e1 S, q s1⟩
theorem snd_ite (hd : PT X d (LT B W_ (TrO B W_ md))) (ha : PE X a (LE B W_ ma)) (hb : PE X b (LE B W_ mb)) :
    PE X (.IfExp d a b pos) (LE B W_ fun s => bnd (md s) fun x => bnd (truM x) fun k => match k with | true => ma s | false => mb s) := by
  refine PE.weak (pe_ifExp hd ha hb) fun σ H Q ⟨ρ, h, s, S, E, o⟩ => ?_
  have o : OutE B W_ ρ h H σ ((bnd (md s) fun x => bnd (truM x) fun k => match k with | true => ma s | false => mb s) h) fun w ρ' h' H' => ∀ v, Rp B ρ' h'.length H' w v → Q v H' := o
  rw [← bnd_assoc] at o
  refine ⟨ρ, h, s, S, E, o.bnd.mono fun b ρ1 h1 H1 s1 e1 k => ?_⟩
  cases b with
  | true => rw [if_pos rfl]; exact ⟨ρ1, h1, s, s1, E.ext e1 S, k s1⟩
  | false => rw [if_neg Bool.false_ne_true]; exact ⟨ρ1, h1, s, s1, E.ext e1 S, k s1⟩
theorem snd_iteT (hd : PT X d (LT B W_ (TrO B W_ md))) (ha : PT X a (LT B W_ (TrO B W_ ma))) (hb : PT X b (LT B W_ (TrO B W_ mb))) :
    PT X (.IfExp d a b pos) (LT B W_ (TrO B W_ fun s => bnd (md s) fun x => bnd (truM x) fun k => match k with | true => ma s | false => mb s)) := by
  rw [tr_ite]
  refine ⟨fun pins s σ H Q I x => ?_⟩
  have y := LT.cond (f := fun s k => match k with | true => TrO B W_ ma s | false => TrO B W_ mb s) (t1 := LT B W_ (TrO B W_ ma)) (t2 := LT B W_ (TrO B W_ mb)) (fun _ _ _ y => y) (fun _ _ _ y => y) x
  show wpAny _ _ (do if ← isTrue d X.env (eval d X.env) then isTrue a X.env (eval a X.env) else isTrue b X.env (eval b X.env)) _ _ _
  refine wpAny_bind (thn (hd.run pins s σ H _ I y) fun k s1 ⟨H1, I1, q1⟩ => ?_)
  cases k with
  | true => rw [if_pos rfl] at q1; exact ha.run pins s1 σ H1 Q I1 q1
  | false => rw [if_neg Bool.false_ne_true] at q1; exact hb.run pins s1 σ H1 Q I1 q1
end
end MI
/-! MI5: comparisons. -/
namespace MI
open PySem PySem.Spec PyProof.Rows L2
mutual
theorem eqv_toD : ∀ x y : W, x.gr = true → y.gr = true → PyData.eqv x.toD y.toD = x.eqv y
  | .non, y, _, h => by cases y <;> first | rfl | (simp [W.gr] at h)
  | .bl a, y, _, h => by cases y <;> first | rfl | (simp [W.gr] at h)
  | .int a, y, _, h => by cases y <;> first | rfl | (simp [W.gr] at h)
  | .str a, y, _, h => by
    cases y with
    | str b =>
      show ((st_ a) == (st_ b)) = (a == b)
      by_cases e : a = b
      · subst e; simp
      · rw [beq_eq_false_iff_ne.mpr e, beq_eq_false_iff_ne.mpr fun z => e (st_inj z)]
    | loc _ => simp [W.gr] at h
    | gl _ => simp [W.gr] at h
    | _ => rfl
  | .tup xs, y, g, h => by
    cases y with
    | tup ys =>
      show PyData.eqvAll (toDs xs) (toDs ys) = eqvs xs ys
      exact eqvs_toD xs ys (by simpa [W.gr] using g) (by simpa [W.gr] using h)
    | loc _ => simp [W.gr] at h
    | gl _ => simp [W.gr] at h
    | _ => rfl
  | .loc _, _, g, _ => by simp [W.gr] at g
  | .gl _, _, g, _ => by simp [W.gr] at g
theorem eqvs_toD : ∀ xs ys : List W, grs xs = true → grs ys = true → PyData.eqvAll (toDs xs) (toDs ys) = eqvs xs ys
  | [], [], _, _ => rfl
  | [], _ :: _, _, _ => rfl
  | _ :: _, [], _, _ => rfl
  | x :: r, y :: q, g, h => by
    simp only [grs, Bool.and_eq_true] at g h
    show (PyData.eqv x.toD y.toD && PyData.eqvAll (toDs r) (toDs q)) = (x.eqv y && eqvs r q)
    rw [eqv_toD x y g.1 h.1, eqvs_toD r q g.2 h.2]
end
mutual
theorem depth_toD : ∀ x : W, x.toD.depth = x.dp
  | .non | .bl _ | .int _ | .str _ | .loc _ | .gl _ => rfl
  | .tup xs => by show PyData.depthAll (toDs xs) + 1 = dps xs + 1; rw [depths_toD xs]
theorem depths_toD : ∀ xs : List W, PyData.depthAll (toDs xs) = dps xs
  | [] => rfl
  | x :: r => by show max x.toD.depth (PyData.depthAll (toDs r)) = max x.dp (dps r); rw [depth_toD x, depths_toD r]
end
section
variable {B : Bs} {ρ : Nat → Addr} {H : Hp} {L : Nat}
mutual
theorem Dp_of : ∀ (x : W) {v : V}, x.gr = true → Rp B ρ L H x v → Dp B.K H v x.toD ∧ x.toD.canLay0 = true
  | .non, v, _, r => by rw [r.non_]; exact ⟨.non, rfl⟩
  | .bl b, v, _, r => by rw [r.bl_]; exact ⟨.bl b, rfl⟩
  | .int b, v, _, r => by rw [r.int_]; exact ⟨.int b, rfl⟩
  | .str b, v, _, r => by
    obtain ⟨e, ok⟩ := r.str_
    rw [e]
    refine ⟨.str _, ?_⟩
    show PyData.strOk (st_ b) = true
    unfold PyData.strOk
    rw [← Array.all_toList]
    exact ok
  | .tup xs, v, g, r => by
    obtain ⟨a, ys, e, t, q⟩ := r.tup_
    rw [e]
    obtain ⟨d1, d2⟩ := Dps_of xs (by simpa [W.gr] using g) q
    exact ⟨.tup t d1, d2⟩
  | .loc _, _, g, _ => by simp [W.gr] at g
  | .gl _, _, g, _ => by simp [W.gr] at g
theorem Dps_of : ∀ (xs : List W) {vs : List V}, grs xs = true → Rps B ρ L H xs vs → DpAll B.K H vs (toDs xs) ∧ PyData.canLayAll0 (toDs xs) = true
  | [], vs, _, r => by rw [r.nil_]; exact ⟨.nil, rfl⟩
  | x :: q, vs, g, r => by
    obtain ⟨y, ys, e, r1, r2⟩ := r.cons_
    simp only [grs, Bool.and_eq_true] at g
    rw [e]
    obtain ⟨a1, a2⟩ := Dp_of x g.1 r1
    obtain ⟨b1, b2⟩ := Dps_of q g.2 r2
    exact ⟨.cons a1 b1, by show (x.toD.canLay0 && PyData.canLayAll0 (toDs q)) = true; rw [a2, b2]; rfl⟩
end
end
/-! ### == over data of any depth, one side at most sixty -/
def rEqG (K : PySem.W.Frag) (neg : Bool) : R2 := fun x y H Q => ∃ d e, Dp K H x d ∧ Dp K H y e ∧ d.canLay0 = true ∧ e.canLay0 = true ∧ min d.depth e.depth ≤ 62 ∧ Q (.bl (if neg then !PyData.eqv d e else PyData.eqv d e)) H
section
variable {X : Cx}
theorem op_eqG (hu : X.A.units + 64 < cLine) : OpR X (compareOp .Eq) (rEqG X.K false) := by
  intro pins s σ H x y v u Q I rx ry h
  obtain ⟨d, e, hd, he, sd, se, hm, q⟩ := h
  obtain ⟨as, r1⟩ := Dp.reads I d x v hd rx
  obtain ⟨bs, r2⟩ := Dp.reads I e y u he ry
  exact SeqAt.compareEq_reads r1 r2 sd se (by omega) ⟨.bl _, H, I, rfl, q⟩
theorem op_neG (hu : X.A.units + 64 < cLine) : OpR X (compareOp .NotEq) (rEqG X.K true) := by
  intro pins s σ H x y v u Q I rx ry h
  obtain ⟨d, e, hd, he, sd, se, hm, q⟩ := h
  obtain ⟨as, r1⟩ := Dp.reads I d x v hd rx
  obtain ⟨bs, r2⟩ := Dp.reads I e y u he ry
  exact SeqAt.compareNe_reads r1 r2 sd se (by omega) ⟨.bl _, H, I, rfl, q⟩
/-- x in a list or tuple of data -/
def rInG (K : PySem.W.Frag) (neg : Bool) : R2 := fun x y H Q => ∃ (d : PyData) (ds : List PyData), Dp K H x d ∧ (Dp K H y (.list ds) ∨ Dp K H y (.tuple ds)) ∧ d.canLay0 = true ∧ PyData.canLayAll0 ds = true ∧ min (PyData.depthAll ds) d.depth ≤ 62 ∧
  Q (.bl (if neg then !(ds.any fun z => PyData.eqv z d) else ds.any fun z => PyData.eqv z d)) H
theorem op_inG (hu : X.A.units + 64 < cLine) : OpR X (compareOp .In) (rInG X.K false) := by
  intro pins s σ H x y v u Q I rx ry h
  obtain ⟨d, ds, hd, he, sd, se, hm, q⟩ := h
  obtain ⟨as, r1⟩ := Dp.reads I d x v hd rx
  rcases he with he | he
  · obtain ⟨bs, r2⟩ := Dp.reads I (.list ds) y u he ry
    exact SeqAt.in_list_reads r2 r1 se sd (by omega) ⟨.bl _, H, I, rfl, q⟩
  · obtain ⟨bs, r2⟩ := Dp.reads I (.tuple ds) y u he ry
    exact SeqAt.in_tuple_reads r2 r1 se sd (by omega) ⟨.bl _, H, I, rfl, q⟩
theorem op_ninG (hu : X.A.units + 64 < cLine) : OpR X (compareOp .NotIn) (rInG X.K true) := by
  intro pins s σ H x y v u Q I rx ry h
  obtain ⟨d, ds, hd, he, sd, se, hm, q⟩ := h
  obtain ⟨as, r1⟩ := Dp.reads I d x v hd rx
  rcases he with he | he
  · obtain ⟨bs, r2⟩ := Dp.reads I (.list ds) y u he ry
    exact SeqAt.notIn_list_reads r2 r1 se sd (by omega) ⟨.bl _, H, I, rfl, q⟩
  · obtain ⟨bs, r2⟩ := Dp.reads I (.tuple ds) y u he ry
    exact SeqAt.notIn_tuple_reads r2 r1 se sd (by omega) ⟨.bl _, H, I, rfl, q⟩
/-- y in a dict -/
def rInD (neg : Bool) : R2 := fun x y H Q => ∃ a o, y = .ref a ∧ DGet H a x o ∧ Q (.bl (if neg then !o.isSome else o.isSome)) H
theorem op_inDct (hu : X.A.units + 64 < cLine) : OpR X (compareOp .In) (rInD false) := by
  intro pins s σ H x y v u Q I rx ry h
  obtain ⟨a, o, rfl, g, q⟩ := h
  cases ry
  exact d_in (by omega) I g rx fun s3 I3 => ⟨.bl o.isSome, H, I3, rfl, q⟩
theorem op_ninDct (hu : X.A.units + 64 < cLine) : OpR X (compareOp .NotIn) (rInD true) := by
  intro pins s σ H x y v u Q I rx ry h
  obtain ⟨a, o, rfl, g, q⟩ := h
  cases ry
  exact d_notIn (by omega) I g rx fun s3 I3 => ⟨.bl (!o.isSome), H, I3, rfl, q⟩
end
/-! ### keys -/
section
variable {B : Bs} {ρ : Nat → Addr} {h : AH} {H : Hp} {L : Nat}
theorem key_of_ {k : W} {v : V} (g : isKey k = true) (r : Rp B ρ L H k v) : ∃ y, KyR k y ∧ v = kV y := by
  cases k with
  | int i => exact ⟨.inl i, rfl, r.int_⟩
  | str s => exact ⟨.inr (st_ s), ⟨rfl, r.str_.2⟩, r.str_.1⟩
  | _ => cases g
theorem key_eqv {a k : W} {ya y : Key} (ra : KyR a ya) (rk : KyR k y) : a.eqv k = decide (ya = y) := by
  cases a with
  | int i =>
    cases ya with
    | inl j =>
      cases k with
      | int i' =>
        cases y with
        | inl j' =>
          obtain rfl : j = i := ra
          obtain rfl : j' = i' := rk
          show (j == j') = _
          by_cases e : j = j'
          · subst e; simp
          · rw [beq_eq_false_iff_ne.mpr e, decide_eq_false fun z => e (Sum.inl.inj z)]
        | inr x => exact rk.elim
      | str s =>
        cases y with
        | inl j' => exact rk.elim
        | inr x => rfl
      | _ => cases y <;> exact rk.elim
    | inr x => exact ra.elim
  | str s =>
    cases ya with
    | inl j => exact ra.elim
    | inr x =>
      cases k with
      | int i' =>
        cases y with
        | inl j' => rfl
        | inr x => exact rk.elim
      | str s' =>
        cases y with
        | inl j' => exact rk.elim
        | inr x' =>
          obtain ⟨rfl, _⟩ : x = st_ s ∧ _ := ra
          obtain ⟨rfl, _⟩ : x' = st_ s' ∧ _ := rk
          show (s == s') = _
          by_cases e : s = s'
          · subst e; simp
          · rw [beq_eq_false_iff_ne.mpr e, decide_eq_false fun z => e (st_inj (Sum.inr.inj z))]
      | _ => cases y <;> exact rk.elim
  | _ => cases ya <;> exact ra.elim
theorem RpD.nil_ {ks : List (Key × V)} (r : RpD B ρ L H [] ks) : ks = [] := by
  cases ks with
  | nil => rfl
  | cons _ _ => unfold RpD at r; exact r.elim
theorem RpD.cons_ {k v : W} {t : List (W × W)} {ks : List (Key × V)} (r : RpD B ρ L H ((k, v) :: t) ks) : ∃ y x q, ks = (y, x) :: q ∧ KyR k y ∧ Rp B ρ L H v x ∧ RpD B ρ L H t q := by
  cases ks with
  | nil => unfold RpD at r; exact r.elim
  | cons p q => obtain ⟨y, x⟩ := p; unfold RpD at r; exact ⟨y, x, q, rfl, r.1, r.2.1, r.2.2⟩
theorem RpD.len : ∀ {kvs : List (W × W)} {ks : List (Key × V)}, RpD B ρ L H kvs ks → ks.length = kvs.length
  | [], _, r => by rw [r.nil_]; rfl
  | (k, v) :: t, _, r => by
    obtain ⟨y, x, q, rfl, _, _, r2⟩ := r.cons_
    rw [List.length_cons, List.length_cons, r2.len]
theorem dget_ {k : W} {y : Key} (rk : KyR k y) : ∀ {kvs : List (W × W)} {ks : List (Key × V)}, RpD B ρ L H kvs ks →
    (∃ w v, dget kvs k = some w ∧ valV ks y = some v ∧ Rp B ρ L H w v) ∨ (dget kvs k = none ∧ valV ks y = none)
  | [], _, r => by rw [r.nil_]; exact .inr ⟨rfl, rfl⟩
  | (a, v) :: t, _, r => by
    obtain ⟨ya, x, q, rfl, ra, rv, r2⟩ := r.cons_
    have e := key_eqv ra rk
    by_cases z : ya = y
    · rw [decide_eq_true z] at e
      exact .inl ⟨v, x, by unfold dget; rw [if_pos e], valV_pos (p := (ya, x)) z, rv⟩
    · rw [decide_eq_false z] at e
      unfold dget
      rw [if_neg (by rw [e]; exact Bool.false_ne_true), valV_neg (p := (ya, x)) z]
      exact dget_ rk r2
theorem dput_any {k : W} {y : Key} (rk : KyR k y) : ∀ {kvs : List (W × W)} {ks : List (Key × V)}, RpD B ρ L H kvs ks → (ks.any fun kv => decide (kv.1 = y)) = kvs.any fun kv => kv.1.eqv k
  | [], _, r => by rw [r.nil_]; rfl
  | (a, v) :: t, _, r => by
    obtain ⟨ya, x, q, rfl, ra, rv, r2⟩ := r.cons_
    rw [List.any_cons, List.any_cons, key_eqv ra rk, dput_any rk r2]
theorem putK_nodup {ks : List (Key × V)} {y : Key} {v : V} (nd : (ks.map fun p => p.1).Nodup) : ((putK ks y v).map fun p => p.1).Nodup := by
  unfold putK
  split
  · have e : (ks.map fun kv => if kv.1 = y then (kv.1, v) else kv).map (fun p => p.1) = ks.map fun p => p.1 := by
      rw [List.map_map]
      refine List.map_congr_left fun p _ => ?_
      show (if p.1 = y then (p.1, v) else p).1 = p.1
      split <;> rfl
    rw [e]; exact nd
  · rename_i h
    rw [List.map_append, List.nodup_append]
    refine ⟨nd, by simp, fun a ha b hb => ?_⟩
    have : b = y := by simpa using hb
    subst this
    rintro rfl
    apply h
    obtain ⟨p, hp, e⟩ := List.mem_map.mp ha
    exact List.any_eq_true.mpr ⟨p, hp, decide_eq_true e⟩
theorem dput_ {k : W} {y : Key} (rk : KyR k y) {w : W} {v : V} (rv : Rp B ρ L H w v) : ∀ {kvs : List (W × W)} {ks : List (Key × V)}, RpD B ρ L H kvs ks → (ks.map fun p => p.1).Nodup → RpD B ρ L H (dput kvs k w) (putK ks y v)
  | [], _, r, _ => by
    rw [r.nil_]
    show RpD B ρ L H [(k, w)] [(y, v)]
    unfold RpD
    exact ⟨rk, rv, by unfold RpD; trivial⟩
  | (a, x) :: t, _, r, nd => by
    obtain ⟨ya, z, q, rfl, ra, rx, r2⟩ := r.cons_
    rw [List.map_cons, List.nodup_cons] at nd
    have e := key_eqv ra rk
    unfold dput
    by_cases h1 : ya = y
    · rw [decide_eq_true h1] at e
      rw [if_pos e]
      have no : ∀ p ∈ q, ¬ p.1 = y := fun p hp z => nd.1 (List.mem_map.mpr ⟨p, hp, z.trans h1.symm⟩)
      have e2 : putK ((ya, z) :: q) y v = (ya, v) :: q := by
        unfold putK
        rw [if_pos (by rw [List.any_cons, decide_eq_true h1]; rfl), List.map_cons, if_pos h1]
        refine congrArg _ ?_
        refine (List.map_congr_left fun p hp => ?_).trans (List.map_id q)
        rw [if_neg (no p hp)]; rfl
      rw [e2]
      unfold RpD
      exact ⟨ra, rv, r2⟩
    · rw [decide_eq_false h1] at e
      rw [if_neg (by rw [e]; exact Bool.false_ne_true)]
      have e2 : putK ((ya, z) :: q) y v = (ya, z) :: putK q y v := by
        unfold putK
        rw [List.any_cons, decide_eq_false h1, Bool.false_or]
        split
        · rw [List.map_cons, if_neg h1]
        · rfl
      rw [e2]
      unfold RpD
      exact ⟨ra, rx, dput_ rk rv r2 nd.2⟩
end
/-! ### the comparisons of the small language -/
def rEqDct (B : Bs) (neg : Bool) : R2 := fun x y H Q => ∃ (a b : Addr) (ks ls : List (Key × V)) (xs ys : List (W × W)) (ρ : Nat → Addr) (L : Nat), x = .ref a ∧ y = .ref b ∧ H a = some (.dK ks) ∧ H b = some (.dK ls) ∧ RpD B ρ L H xs ks ∧ RpD B ρ L H ys ls ∧
  grd xs = true ∧ grd ys = true ∧ Q (.bl (if neg then !(xs.length == ys.length && dsub xs ys) else xs.length == ys.length && dsub xs ys)) H
theorem hitsW {X : Cx} {pins : List (Addr × Obj)} {σ : L2.St} {H : Hp} {s : Shared} {B : Bs} {ρ : Nat → Addr} {L : Nat} (I : Inv X pins σ H s) (hK : X.K = B.K) {A : Around} (hu : A.units + 62 < cLine) {ys : List (W × W)} {ls : List (Key × V)} {vb : List (Key × Value)} (ry : RpD B ρ L H ys ls) (rb : KV ls vb) (gy : grd ys = true) :
    ∀ {xs : List (W × W)} {ks : List (Key × V)} {va : List (Key × Value)}, RpD B ρ L H xs ks → KV ks va → grd xs = true → PySem.W.KeqHits A s vb va (dsub xs ys)
  | [], _, _, rx, ra, _ => by
    rw [rx.nil_] at ra
    cases ra
    exact .nil
  | (k, v) :: t, _, _, rx, ra, gx => by
    obtain ⟨y, x, q, rfl, rk, rv, r2⟩ := rx.cons_
    simp only [grd, Bool.and_eq_true, decide_eq_true_eq] at gx
    cases ra with
    | cons h1 h2 =>
      rename_i uv us
      obtain ⟨key, u⟩ := uv
      obtain ⟨e1, ru⟩ := h1
      have e1 : y = key := e1
      subst e1
      have ru : RelV x u := ru
      have rest := hitsW I hK hu ry rb gy r2 h2 gx.2
      rcases dget_ rk ry with ⟨w, z, g1, g2, rw_⟩ | ⟨g1, g2⟩
      · have rr : RelO (some z) (valueAt vb y) := by rw [← g2]; exact rb.val y
        obtain ⟨u2, hu2, ru2⟩ := rr.some_of
        have gw : w.gr = true ∧ w.dp ≤ 60 := by
          clear rest rr hu2 ru2 g2
          induction ys generalizing ls vb with
          | nil => cases g1
          | cons p r ih =>
            obtain ⟨a, c⟩ := p
            obtain ⟨ya, xa, qa, rfl, _, _, r3⟩ := ry.cons_
            simp only [grd, Bool.and_eq_true, decide_eq_true_eq] at gy
            unfold dget at g1
            split at g1
            · cases g1; exact gy.1.2
            · cases rb with
              | cons _ rb' => exact ih r3 rb' gy.2 g1
        show PySem.W.KeqHits A s vb ((y, u) :: us) ((match dget ys k with | some w => v.eqv w | none => false) && dsub t ys)
        rw [g1]
        obtain ⟨d1, c1⟩ := Dp_of v gx.1.2.1 rv
        obtain ⟨d2, c2⟩ := Dp_of w gw.1 rw_
        rw [← hK] at d1 d2
        obtain ⟨as, p1⟩ := Dp.reads I v.toD x u d1 ru
        obtain ⟨bs, p2⟩ := Dp.reads I w.toD z u2 d2 ru2
        have e := SeqAt.eqAt_reads v.toD w.toD A s u u2 as bs p1 p2 c1 c2 (by rw [depth_toD, depth_toD]; omega)
        rw [eqv_toD v w gx.1.2.1 gw.1] at e
        exact .hit hu2 e rest
      · have rr : RelO none (valueAt vb y) := by rw [← g2]; exact rb.val y
        show PySem.W.KeqHits A s vb ((y, u) :: us) ((match dget ys k with | some w => v.eqv w | none => false) && dsub t ys)
        rw [g1]
        exact .miss rr.none_of
theorem op_eqDct {X : Cx} {B : Bs} (hK : X.K = B.K) (hu : X.A.units + 64 < cLine) : OpR X (compareOp .Eq) (rEqDct B false) := by
  intro pins s σ H x y v u Q I rx ry h
  obtain ⟨a, b, ks, ls, xs, ys, ρ, L, rfl, rfl, ea, eb, r1, r2, g1, g2, q⟩ := h
  obtain rfl : v = Value.ref a := rx
  obtain rfl : u = Value.ref b := ry
  obtain ⟨_, ya, va, ra, da⟩ := (show ObjOk X.prog X.w H s.heap a (.dK ks) from I.hok a _ ea)
  obtain ⟨_, yb, vb, rb, db⟩ := (show ObjOk X.prog X.w H s.heap b (.dK ls) from I.hok b _ eb)
  refine PySem.W.keq_eq (knd := mixKind X.prog X.w) (r := dsub xs ys) ya yb da db (by omega) (fun _ => hitsW I hK (by show X.A.units + 1 + 62 < cLine; omega) r2 rb g2 r1 ra g1) (fin_bl I q ?_)
  rw [← ra.length, ← rb.length, r1.len, r2.len]
  rfl
theorem op_neDct {X : Cx} {B : Bs} (hK : X.K = B.K) (hu : X.A.units + 64 < cLine) : OpR X (compareOp .NotEq) (rEqDct B true) := by
  intro pins s σ H x y v u Q I rx ry h
  obtain ⟨a, b, ks, ls, xs, ys, ρ, L, rfl, rfl, ea, eb, r1, r2, g1, g2, q⟩ := h
  obtain rfl : v = Value.ref a := rx
  obtain rfl : u = Value.ref b := ry
  obtain ⟨_, ya, va, ra, da⟩ := (show ObjOk X.prog X.w H s.heap a (.dK ks) from I.hok a _ ea)
  obtain ⟨_, yb, vb, rb, db⟩ := (show ObjOk X.prog X.w H s.heap b (.dK ls) from I.hok b _ eb)
  refine PySem.W.keq_ne (knd := mixKind X.prog X.w) (r := dsub xs ys) ya yb da db (by omega) (fun _ => hitsW I hK (by show X.A.units + 1 + 62 < cLine; omega) r2 rb g2 r1 ra g1) (fin_bl I q ?_)
  rw [← ra.length, ← rb.length, r1.len, r2.len]
  rfl
def rSgn (neg : Bool) : R2 := fun x y H Q => ∃ (c : Nat) (z : Str), x = .str ⟨#[c]⟩ ∧ y = .str z ∧ Q (.bl (if neg then !decide (c ∈ z.cps.toList) else decide (c ∈ z.cps.toList))) H
def rCmpM (B : Bs) : Cop → R2
  | .eq => fun x y H Q => rEqG B.K false x y H Q ∨ rEqDct B false x y H Q
  | .ne => fun x y H Q => rEqG B.K true x y H Q ∨ rEqDct B true x y H Q
  | .lt => rI0 fun i j => .bl (decide (i < j))
  | .le => rI0 fun i j => .bl (decide (i ≤ j))
  | .gt => rI0 fun i j => .bl (decide (j < i))
  | .ge => rI0 fun i j => .bl (decide (j ≤ i))
  | .in_ => fun x y H Q => rInG B.K false x y H Q ∨ rSgn false x y H Q ∨ rInD false x y H Q
  | .nin => fun x y H Q => rInG B.K true x y H Q ∨ rSgn true x y H Q ∨ rInD true x y H Q
  | .is_ => fun x y H Q => (y = .non ∧ Q (.bl (decide (x = .non))) H) ∨ rIsB x y H Q
  | .isn => fun x y H Q => (y = .non ∧ Q (.bl (!decide (x = .non))) H) ∨ rNotB x y H Q
def coper : Cop → CmpOp
  | .eq => .Eq
  | .ne => .NotEq
  | .lt => .Lt
  | .le => .LtE
  | .gt => .Gt
  | .ge => .GtE
  | .in_ => .In
  | .nin => .NotIn
  | .is_ => .Is
  | .isn => .IsNot
theorem coper_of (op : CmpOp) : coper (copOf op) = op := by cases op <;> rfl
theorem op_cmpM {X : Cx} {B : Bs} (hK : X.K = B.K) (hu : X.A.units + 64 < cLine) (op : Cop) : OpR X (compareOp (coper op)) (rCmpM B op) := by
  cases op with
  | eq => have q := (op_eqG (X := X) hu).or (op_eqDct hK hu); rw [hK] at q; exact q
  | ne => have q := (op_neG (X := X) hu).or (op_neDct hK hu); rw [hK] at q; exact q
  | lt => exact op_lt
  | le => exact op_le
  | gt => exact op_gt
  | ge => exact op_ge
  | in_ => have q := (op_inG (X := X) hu).or (OpR.or op_in_sign (op_inDct hu)); rw [hK] at q; exact q
  | nin => have q := (op_ninG (X := X) hu).or (OpR.or op_notIn_sign (op_ninDct hu)); rw [hK] at q; exact q
  | is_ => exact op_isN.or op_isBl
  | isn => exact op_notN.or op_notBl
section
variable {B : Bs} {ρ : Nat → Addr} {h : AH} {H : Hp} {x y : W} {xv yv : V} {Q : VK}
theorem eqW_ok {k neg : Bool} (rx : Rp B ρ h.length H x xv) (ry : Rp B ρ h.length H y yv) (e : eqW x y = some k) (q : Q (.bl (if neg then !k else k)) H) : rEqG B.K neg xv yv H Q := by
  unfold eqW at e
  split at e
  · rename_i g
    rw [Bool.and_eq_true, Bool.and_eq_true, Bool.or_eq_true, decide_eq_true_eq, decide_eq_true_eq] at g
    cases e
    obtain ⟨d1, c1⟩ := Dp_of x g.1.1 rx
    obtain ⟨d2, c2⟩ := Dp_of y g.1.2 ry
    refine ⟨_, _, d1, d2, c1, c2, by rw [depth_toD, depth_toD]; omega, ?_⟩
    rw [eqv_toD x y g.1.1 g.1.2]
    exact q
  · cases e
theorem lst_Dp {n : Nat} {ws : List W} (S : Sim B ρ h H) (e : lstAt h n = some ws) (g : grs ws = true) : Dp B.K H (.ref (ρ n)) (.list (toDs ws)) ∧ PyData.canLayAll0 (toDs ws) = true := by
  obtain ⟨_, xs, t, r⟩ := lstAt_ S e
  obtain ⟨d1, c1⟩ := Dps_of ws g r
  exact ⟨.lst t d1, c1⟩
theorem inL_any {z : W} : ∀ {xs : List W}, grs xs = true → z.gr = true → ((toDs xs).any fun y => PyData.eqv y z.toD) = inL z xs
  | [], _, _ => rfl
  | x :: r, g, gz => by
    simp only [grs, Bool.and_eq_true] at g
    show (PyData.eqv x.toD z.toD || (toDs r).any fun y => PyData.eqv y z.toD) = (x.eqv z || inL z r)
    rw [eqv_toD x z g.1 gz, inL_any g.2 gz]
end
section
variable {B : Bs} {ρ : Nat → Addr} {h : AH} {H : Hp} {x y : W} {xv yv : V} {Q : VK}
theorem noL_ok {k neg : Bool} {n : Nat} {ws : List W} (S : Sim B ρ h H) (el : lstAt h n = some ws) (ry : Rp B ρ h.length H y yv) (ny : ∀ m, y ≠ .loc m) (e : noL ws y = some k) (q : Q (.bl (if neg then !k else k)) H) :
    rEqG B.K neg (.ref (ρ n)) yv H Q ∧ rEqG B.K neg yv (.ref (ρ n)) H Q := by
  unfold noL at e
  split at e
  · rename_i g
    rw [Bool.and_eq_true, Bool.and_eq_true, Bool.or_eq_true, decide_eq_true_eq, decide_eq_true_eq] at g
    cases e
    obtain ⟨d1, c1⟩ := lst_Dp S el g.1.1
    obtain ⟨d2, c2⟩ := Dp_of y g.1.2 ry
    have dl : PyData.depth (.list (toDs ws)) = dps ws + 1 := by show PyData.depthAll (toDs ws) + 1 = _; rw [depths_toD]
    have e1 : PyData.eqv (.list (toDs ws)) y.toD = false := by
      cases y with
      | loc m => exact absurd rfl (ny m)
      | gl _ => exact absurd g.1.2 (by simp [W.gr])
      | _ => rfl
    have e2 : PyData.eqv y.toD (.list (toDs ws)) = false := by
      cases y with
      | loc m => exact absurd rfl (ny m)
      | gl _ => exact absurd g.1.2 (by simp [W.gr])
      | _ => rfl
    exact ⟨⟨_, _, d1, d2, c1, c2, by rw [dl, depth_toD]; omega, by rw [e1]; exact q⟩, ⟨_, _, d2, d1, c2, c1, by rw [dl, depth_toD]; omega, by rw [e2]; exact q⟩⟩
  · cases e
theorem dctAt_ {n : Nat} {kvs : List (W × W)} (e : dctAt h n = some kvs) : h[n]? = some (.dct kvs) := by
  unfold dctAt at e
  cases q : h[n]? with
  | none => rw [q] at e; cases e
  | some o =>
    rw [q] at e
    cases o with
    | dct xs => cases e; rfl
    | _ => cases e
theorem eq_ok {k neg : Bool} (S : Sim B ρ h H) (rx : Rp B ρ h.length H x xv) (ry : Rp B ρ h.length H y yv) (e : eqH h x y = some k) (q : Q (.bl (if neg then !k else k)) H) :
    rEqG B.K neg xv yv H Q ∨ rEqDct B neg xv yv H Q := by
  by_cases hx : ∃ m, x = .loc m
  · obtain ⟨m, rfl⟩ := hx
    obtain ⟨_, ex⟩ := rx.loc_
    by_cases hy : ∃ n, y = .loc n
    · obtain ⟨n, rfl⟩ := hy
      obtain ⟨_, ey⟩ := ry.loc_
      subst ex ey
      unfold eqH at e
      dsimp only at e
      split at e
      · rename_i xs ys h1 h2
        obtain ⟨ks, e1, r1, _⟩ := dct_ S (dctAt_ h1)
        obtain ⟨ls, e2, r2, _⟩ := dct_ S (dctAt_ h2)
        unfold eqD at e
        split at e
        · rename_i g
          rw [Bool.and_eq_true] at g
          cases e
          exact .inr ⟨_, _, ks, ls, xs, ys, ρ, _, rfl, rfl, e1, e2, r1, r2, g.1, g.2, q⟩
        · cases e
      · split at e
        · rename_i xs ys h1 h2
          unfold eqL at e
          split at e
          · rename_i g
            rw [Bool.and_eq_true, Bool.and_eq_true, Bool.or_eq_true, decide_eq_true_eq, decide_eq_true_eq] at g
            cases e
            obtain ⟨d1, c1⟩ := lst_Dp S h1 g.1.1
            obtain ⟨d2, c2⟩ := lst_Dp S h2 g.1.2
            refine .inl ⟨_, _, d1, d2, c1, c2, ?_, ?_⟩
            · show min (PyData.depthAll (toDs xs) + 1) (PyData.depthAll (toDs ys) + 1) ≤ 62
              rw [depths_toD, depths_toD]; omega
            · have e3 : PyData.eqv (.list (toDs xs)) (.list (toDs ys)) = eqvs xs ys := eqvs_toD xs ys g.1.1 g.1.2
              rw [e3]; exact q
          · cases e
        · cases e
    · subst ex
      have e' : (match lstAt h m with | some xs => noL xs y | none => none) = some k := by
        cases y <;> first | exact e | exact absurd ⟨_, rfl⟩ hy
      cases el : lstAt h m with
      | none => rw [el] at e'; cases e'
      | some ws => rw [el] at e'; exact .inl (noL_ok S el ry (fun n z => hy ⟨n, z⟩) e' q).1
  · by_cases hy : ∃ n, y = .loc n
    · obtain ⟨n, rfl⟩ := hy
      obtain ⟨_, ey⟩ := ry.loc_
      subst ey
      have e' : (match lstAt h n with | some xs => noL xs x | none => none) = some k := by
        cases x <;> first | exact e | exact absurd ⟨_, rfl⟩ hx
      cases el : lstAt h n with
      | none => rw [el] at e'; cases e'
      | some ws => rw [el] at e'; exact .inl (noL_ok S el rx (fun n z => hx ⟨n, z⟩) e' q).2
    · have e' : eqW x y = some k := by
        cases x <;> first
          | exact absurd ⟨_, rfl⟩ hx
          | (cases y <;> first | exact e | exact absurd ⟨_, rfl⟩ hy)
      exact .inl (eqW_ok rx ry e' q)
theorem inSq_ok {k neg : Bool} {ws : List W} (rx : Rp B ρ h.length H x xv) (hy : grs ws = true → (Dp B.K H yv (.list (toDs ws)) ∨ Dp B.K H yv (.tuple (toDs ws))) ∧ PyData.canLayAll0 (toDs ws) = true) (e : inSq x ws = some k) (q : Q (.bl (if neg then !k else k)) H) :
    rInG B.K neg xv yv H Q := by
  unfold inSq at e
  split at e
  · rename_i g
    rw [Bool.and_eq_true, Bool.and_eq_true, Bool.or_eq_true, decide_eq_true_eq, decide_eq_true_eq] at g
    cases e
    obtain ⟨d1, c1⟩ := Dp_of x g.1.2 rx
    obtain ⟨d2, c2⟩ := hy g.1.1
    refine ⟨_, _, d1, d2, c1, c2, by rw [depths_toD, depth_toD]; omega, ?_⟩
    rw [inL_any g.1.1 g.1.2]
    exact q
  · cases e
theorem in_ok {k neg : Bool} (S : Sim B ρ h H) (rx : Rp B ρ h.length H x xv) (ry : Rp B ρ h.length H y yv) (e : inH h x y = some k) (q : Q (.bl (if neg then !k else k)) H) :
    rInG B.K neg xv yv H Q ∨ rSgn neg xv yv H Q ∨ rInD neg xv yv H Q := by
  cases y with
  | tup ws =>
    obtain ⟨a, xs, ea, t, r⟩ := ry.tup_
    refine .inl (inSq_ok rx (fun g => ?_) e q)
    obtain ⟨d1, c1⟩ := Dps_of ws g r
    rw [ea]
    exact ⟨.inr (.tup t d1), c1⟩
  | str s =>
    cases x with
    | str a =>
      match a, rx, e with
      | [c], rx, e =>
        cases e
        refine .inr (.inl ⟨c, st_ s, rx.str_.1, ry.str_.1, ?_⟩)
        have e1 : decide (c ∈ (st_ s).cps.toList) = s.contains c := by
          show decide (c ∈ s) = s.contains c
          rw [Bool.eq_iff_iff]; simp
        rw [e1]; exact q
      | [], rx, e => cases e
      | _ :: _ :: _, rx, e => cases e
    | _ => cases e
  | loc n =>
    obtain ⟨_, ey⟩ := ry.loc_
    subst ey
    unfold inH at e
    dsimp only at e
    cases ed : dctAt h n with
    | some kvs =>
      rw [ed] at e
      dsimp only at e
      split at e
      · rename_i g
        cases e
        obtain ⟨ks, e1, r1, _⟩ := dct_ S (dctAt_ ed)
        obtain ⟨yk, rk, ex⟩ := key_of_ g rx
        refine .inr (.inr ⟨ρ n, valV ks yk, rfl, by rw [ex]; exact DGet.k e1, ?_⟩)
        have e2 : (valV ks yk).isSome = (dget kvs x).isSome := by
          rcases dget_ rk r1 with ⟨w, v, g1, g2, _⟩ | ⟨g1, g2⟩
          · rw [g1, g2]; rfl
          · rw [g1, g2]; rfl
        rw [e2]; exact q
      · cases e
    | none =>
      rw [ed] at e
      dsimp only at e
      cases el : lstAt h n with
      | none => rw [el] at e; cases e
      | some ws =>
        rw [el] at e
        refine .inl (inSq_ok rx (fun g => ?_) e q)
        obtain ⟨d1, c1⟩ := lst_Dp S el g
        exact ⟨.inl d1, c1⟩
  | _ => cases e
theorem isN_ok (rx : Rp B ρ h.length H x xv) : decide (xv = .non) = isNon x := by
  cases x with
  | non => rw [rx.non_]; rfl
  | bl _ => rw [rx.bl_]; rfl
  | int _ => rw [rx.int_]; rfl
  | str _ => rw [rx.str_.1]; rfl
  | tup _ => obtain ⟨a, xs, ea, _⟩ := rx.tup_; rw [ea]; rfl
  | loc _ => rw [rx.loc_.2]; rfl
  | gl z => unfold Rp at rx; rw [decide_eq_false rx.2]; rfl
theorem cmp_ok (op : Cop) {k : Bool} (S : Sim B ρ h H) (rx : Rp B ρ h.length H x xv) (ry : Rp B ρ h.length H y yv) (e : cmpH h op x y = some k) (q : Q (.bl k) H) : rCmpM B op xv yv H Q := by
  cases op with
  | eq => exact eq_ok (neg := false) S rx ry e q
  | ne =>
    obtain ⟨k', e1, e2⟩ := Option.map_eq_some_iff.mp e
    subst e2
    exact eq_ok (neg := true) S rx ry e1 q
  | in_ => exact in_ok (neg := false) S rx ry e q
  | nin =>
    obtain ⟨k', e1, e2⟩ := Option.map_eq_some_iff.mp e
    subst e2
    exact in_ok (neg := true) S rx ry e1 q
  | lt => cases x <;> cases y <;> first | (cases e; done) | (cases e; exact ⟨_, _, rx.int_, ry.int_, q⟩)
  | le => cases x <;> cases y <;> first | (cases e; done) | (cases e; exact ⟨_, _, rx.int_, ry.int_, q⟩)
  | gt => cases x <;> cases y <;> first | (cases e; done) | (cases e; exact ⟨_, _, rx.int_, ry.int_, q⟩)
  | ge => cases x <;> cases y <;> first | (cases e; done) | (cases e; exact ⟨_, _, rx.int_, ry.int_, q⟩)
  | is_ =>
    cases y with
    | non =>
      have e' : isNon x = k := by cases x <;> exact Option.some.inj e
      exact .inl ⟨ry.non_, by rw [isN_ok rx, e']; exact q⟩
    | bl b =>
      cases x with
      | bl a =>
        have e' : decide (a = b) = k := Option.some.inj e
        exact .inr ⟨a, b, rx.bl_, ry.bl_, by rw [e']; exact q⟩
      | _ => cases e
    | _ => cases x <;> cases e
  | isn =>
    cases y with
    | non =>
      have e' : (!isNon x) = k := by cases x <;> exact Option.some.inj e
      exact .inl ⟨ry.non_, by rw [isN_ok rx, e']; exact q⟩
    | bl b =>
      cases x with
      | bl a =>
        have e' : (!decide (a = b)) = k := Option.some.inj e
        exact .inr ⟨a, b, rx.bl_, ry.bl_, by rw [e']; exact q⟩
      | _ => cases e
    | _ => cases x <;> cases e
end
section
variable {X : Cx} {B : Bs} {W_ : WX} {a b d : Expr} {pos : Pos} {ma mb md : Env → Mo W}
abbrev mCmp (op : Cop) (ma mb : Env → Mo W) : Env → Mo W := fun s => bnd (ma s) fun x => bnd (mb s) fun y => bnd (rdO fun h => cmpH h op x y) fun r => ret (.bl r)
theorem cmp_two (op : Cop) : ∀ σ H Q, LE B W_ (mCmp op ma mb) σ H Q → tOp (rCmpM B op) (LE B W_ ma) (LE B W_ mb) σ H Q :=
  LE.two (fun _ => rfl) fun ρ h H σ x y xv yv Q S rx ry o => by
    obtain ⟨k, ek, q⟩ := (OutE.bnd o).rdO S
    exact cmp_ok op S rx ry ek ((q S).pure S _ (by unfold Rp; rfl))
theorem snd_cmp (hK : X.K = B.K) (hu : X.A.units + 64 < cLine) (op : Cop) (ha : PE X a (LE B W_ ma)) (hb : PE X b (LE B W_ mb)) (hm : behindInMarks (coper op) b = false) : PE X (.Compare a [coper op] [b] pos) (LE B W_ (mCmp op ma mb)) :=
  PE.weak (pe_cmpR (op_cmpM hK hu op) ha hb hm) (cmp_two op)
theorem tr_bl {m : Env → Mo Bool} : TrO B W_ (fun s => bnd (m s) fun r => ret (.bl r)) = m := by
  funext s
  unfold TrO
  rw [bnd_assoc]
  funext h
  unfold bnd
  cases m s h <;> rfl
/-- two values, then a truth by values -/
theorem LT.two {m : Env → Mo Bool} {f : W → W → Mo Bool} {r : R2} (hm : ∀ s, m s = bnd (ma s) fun x => bnd (mb s) fun y => f x y)
    (hr : ∀ ρ h H σ x y xv yv (Q : Bool → Hp → Prop), Sim B ρ h H → Rp B ρ h.length H x xv → Rp B ρ h.length H y yv → OutE B W_ ρ h H σ (f x y h) (fun b _ _ H' => Q b H') → r xv yv H fun v H' => ∃ k, v = .bl k ∧ Q k H') :
    ∀ σ H Q, LT B W_ m σ H Q → tTest (tOp r (LE B W_ ma) (LE B W_ mb)) σ H Q := by
  rintro σ H Q ⟨ρ, h, s, S, E, o⟩
  rw [hm s] at o
  refine ⟨ρ, h, s, S, E, o.bnd.mono fun x ρ1 h1 H1 s1 e1 k xv rx => ?_⟩
  refine ⟨ρ1, h1, s, s1, E.ext e1 S, (k s1).bnd.mono fun y ρ2 h2 H2 s2 e2 k2 yv ry => ?_⟩
  exact hr ρ2 h2 H2 σ x y xv yv Q s2 (rx.ext e2 s1) ry (k2 s2)
theorem tr_cmp (op : Cop) : TrO B W_ (mCmp op ma mb) = fun s => bnd (ma s) fun x => bnd (mb s) fun y => rdO fun h => cmpH h op x y := by
  funext s
  unfold TrO
  rw [bnd_assoc]
  refine bnd_congr fun x => ?_
  rw [bnd_assoc]
  refine bnd_congr fun y => ?_
  rw [bnd_assoc]
  funext h
  unfold bnd
  cases rdO (fun h => cmpH h op x y) h <;> rfl
theorem snd_cmpT (hK : X.K = B.K) (hu : X.A.units + 64 < cLine) (op : Cop) (ha : PE X a (LE B W_ ma)) (hb : PE X b (LE B W_ mb)) (hm : behindInMarks (coper op) b = false) : PT X (.Compare a [coper op] [b] pos) (LT B W_ (TrO B W_ (mCmp op ma mb))) := by
  rw [tr_cmp]
  refine PT.weak (pt_cmpR (op_cmpM hK hu op) ha hb hm) (LT.two (fun _ => rfl) fun ρ h H σ x y xv yv Q S rx ry o => ?_)
  obtain ⟨k, ek, q⟩ := o.rdO S
  exact cmp_ok op S rx ry ek ⟨k, rfl, q⟩
/-! ### a op1 b op2 d -/
abbrev mChn (o1 o2 : Cop) (ma mb md : Env → Mo W) : Env → Mo W := fun s => bnd (ma s) fun x => bnd (mb s) fun y => bnd (rdO fun h => cmpH h o1 x y) fun r => match r with
  | false => ret (.bl false)
  | true => bnd (md s) fun z => bnd (rdO fun h => cmpH h o2 y z) fun r => ret (.bl r)
abbrev mChnB (o1 o2 : Cop) (ma mb md : Env → Mo W) : Env → Mo Bool := fun s => bnd (ma s) fun x => bnd (mb s) fun y => bnd (rdO fun h => cmpH h o1 x y) fun r => match r with
  | false => ret false
  | true => bnd (md s) fun z => rdO fun h => cmpH h o2 y z
theorem chn_bl (o1 o2 : Cop) : mChn o1 o2 ma mb md = fun s => bnd (mChnB o1 o2 ma mb md s) fun r => ret (.bl r) := by
  funext s
  rw [bnd_assoc]
  refine bnd_congr fun x => ?_
  rw [bnd_assoc]
  refine bnd_congr fun y => ?_
  rw [bnd_assoc]
  refine bnd_congr fun r => ?_
  cases r with
  | false => rfl
  | true => dsimp only; rw [bnd_assoc]
theorem chn_read (o1 o2 : Cop) {σ : L2.St} {H : Hp} {Q : Bool → Hp → Prop} (x : LT B W_ (mChnB o1 o2 ma mb md) σ H Q) :
    tChain (rCmpM B o1) (rCmpM B o2) (LE B W_ ma) (LE B W_ mb) (LE B W_ md) σ H fun v H' => ∃ k, v = .bl k ∧ Q k H' := by
  obtain ⟨ρ, h, s, S, E, o⟩ := x
  refine ⟨ρ, h, s, S, E, o.bnd.mono fun x ρ1 h1 H1 s1 e1 k xv rx => ?_⟩
  refine ⟨ρ1, h1, s, s1, E.ext e1 S, (k s1).bnd.mono fun y ρ2 h2 H2 s2 e2 k2 yv ry => ?_⟩
  obtain ⟨b, eb, q⟩ := ((k2 s2).bnd).rdO s2
  refine cmp_ok o1 s2 (rx.ext e2 s1) ry eb ⟨b, rfl, ?_⟩
  have q := q s2
  cases b with
  | false => rw [if_neg Bool.false_ne_true]; exact ⟨false, rfl, q.pure s2⟩
  | true =>
    rw [if_pos rfl]
    refine ⟨ρ2, h2, s, s2, (E.ext e1 S).ext e2 s1, q.bnd.mono fun z ρ3 h3 H3 s3 e3 k3 zv rz => ?_⟩
    obtain ⟨c, ec, q3⟩ := (k3 s3).rdO s3
    exact cmp_ok o2 s3 (ry.ext e3 s2) rz ec ⟨c, rfl, q3⟩
theorem snd_chnT (hK : X.K = B.K) (hu : X.A.units + 64 < cLine) (o1 o2 : Cop) (ha : PE X a (LE B W_ ma)) (hb : PE X b (LE B W_ mb)) (hd : PE X d (LE B W_ md)) (hm : lastMarks [coper o1, coper o2] [b, d] = false) :
    PT X (.Compare a [coper o1, coper o2] [b, d] pos) (LT B W_ (TrO B W_ (mChn o1 o2 ma mb md))) := by
  rw [chn_bl, tr_bl]
  exact PT.weak (pt_chain (op_cmpM hK hu o1) (op_cmpM hK hu o2) ha hb hd hm) fun σ H Q x => chn_read o1 o2 x
theorem snd_chn (hK : X.K = B.K) (hu : X.A.units + 64 < cLine) (o1 o2 : Cop) (ha : PE X a (LE B W_ ma)) (hb : PE X b (LE B W_ mb)) (hd : PE X d (LE B W_ md)) (hm : lastMarks [coper o1, coper o2] [b, d] = false) :
    PE X (.Compare a [coper o1, coper o2] [b, d] pos) (LE B W_ (mChn o1 o2 ma mb md)) := by
  rw [chn_bl]
  refine PE.weak (pe_chain (op_cmpM hK hu o1) (op_cmpM hK hu o2) ha hb hd hm) fun σ H Q ⟨ρ, h, s, S, E, o⟩ => ?_
  have y : LT B W_ (mChnB o1 o2 ma mb md) σ H fun k H' => Q (.bl k) H' := ⟨ρ, h, s, S, E, (OutE.bnd o).mono fun b ρ1 h1 H1 s1 e1 k => (k s1).pure s1 _ (by unfold Rp; rfl)⟩
  obtain ⟨ρ', h', s', S', E', o'⟩ := y
  refine ⟨ρ', h', s', S', E', o'.bnd.mono fun x ρ1 h1 H1 s1 e1 k xv rx => ?_⟩
  refine ⟨ρ1, h1, s', s1, E'.ext e1 S', (k s1).bnd.mono fun y ρ2 h2 H2 s2 e2 k2 yv ry => ?_⟩
  obtain ⟨b, eb, q⟩ := ((k2 s2).bnd).rdO s2
  refine cmp_ok o1 s2 (rx.ext e2 s1) ry eb ⟨b, rfl, ?_⟩
  have q := q s2
  cases b with
  | false => rw [if_neg Bool.false_ne_true]; exact q.pure s2
  | true =>
    rw [if_pos rfl]
    refine ⟨ρ2, h2, s', s2, (E'.ext e1 S').ext e2 s1, q.bnd.mono fun z ρ3 h3 H3 s3 e3 k3 zv rz => ?_⟩
    obtain ⟨c, ec, q3⟩ := (k3 s3).rdO s3
    exact cmp_ok o2 s3 (ry.ext e3 s2) rz ec q3
end
end MI
/-! MI6: subscripts, slices, displays, arguments. -/
namespace MI
open PySem PySem.Spec PyProof.Rows L2
section
variable {B : Bs} {ρ : Nat → Addr} {h : AH} {H : Hp} {L : Nat}
theorem ixN_eq {n : Nat} {i : Int} : MI.ixN n i = L2.ixN n i := rfl
theorem atI_ {ws : List W} {xs : List V} {i : Int} {w : W} (r : Rps B ρ L H ws xs) (e : MI.atI ws i = some w) : ∃ v, L2.atI xs i = some v ∧ Rp B ρ L H w v := by
  unfold MI.atI at e
  unfold L2.atI
  rw [r.len]
  cases q : MI.ixN ws.length i with
  | none => rw [q] at e; cases e
  | some j =>
    rw [q] at e
    rw [← ixN_eq, q]
    exact r.get e
theorem okS_get {s : List Nat} {i : Nat} {c : Nat} (ok : okS s = true) (e : s[i]? = some c) : okS [c] = true := by
  unfold okS at *
  rw [List.all_eq_true] at ok
  have := ok c (List.mem_of_getElem? e)
  rw [List.all_cons, this]; rfl
theorem okS_cut {s : List Nat} {lo hi : Option Int} (ok : okS s = true) : okS (cutL s lo hi) = true := by
  unfold okS at *
  rw [List.all_eq_true] at *
  intro c hc
  exact ok c (List.mem_of_mem_drop (List.mem_of_mem_take hc))
theorem RpD_get {kvs : List (W × W)} {ks : List (Key × V)} {k w : W} {y : Key} (r : RpD B ρ L H kvs ks) (rk : KyR k y) (e : dget kvs k = some w) : ∃ v, valV ks y = some v ∧ Rp B ρ L H w v := by
  rcases dget_ rk r with ⟨w', v, g1, g2, rv⟩ | ⟨g1, _⟩
  · rw [e] at g1; cases g1; exact ⟨v, g2, rv⟩
  · rw [e] at g1; cases g1
end
section
variable {X : Cx} {B : Bs} {W_ : WX} {e a b d : Expr} {pos : Pos} {ma mb md : Env → Mo W}
/-! ### x[k] -/
def rIxD : R2 := fun x y H Q => ∃ a v, x = .ref a ∧ DGet H a y (some v) ∧ Q v H
theorem ix_dct (hu : X.A.units + 64 < cLine) : IxR X rIxD := by
  intro value slice pins s σ H x y v u Q I rx ry h hs
  obtain ⟨a, z, rfl, g, q⟩ := h
  obtain rfl : v = Value.ref a := rx
  exact tail_any (dict_typeIs I g) PySem.F.slot_dict_getitem.lookup (d_getItem (by omega) I g ry fun w' s3 I3 rw' => ⟨z, H, I3, rw', q⟩) hs
def rIxM (K : PySem.W.Frag) : R2 := fun x y H Q => rIx K x y H Q ∨ rIxD x y H Q
theorem ix_M (hu : X.A.units + 64 < cLine) : IxR X (rIxM X.K) := ix_seq.or (ix_dct hu)
theorem ix_ok {ρ : Nat → Addr} {h : AH} {H : Hp} {x y w : W} {xv yv : V} {Q : VK} (S : Sim B ρ h H) (rx : Rp B ρ h.length H x xv) (ry : Rp B ρ h.length H y yv) (e : idxH h x y = some w) (q : ∀ v, Rp B ρ h.length H w v → Q v H) : rIxM B.K xv yv H Q := by
  cases x with
  | tup ws =>
    cases y with
    | int i =>
      obtain ⟨a1, xs, e1, t1, r1⟩ := rx.tup_
      obtain ⟨v, ev, rv⟩ := atI_ r1 e
      exact .inl (.inr (.inl ⟨a1, xs, i, v, e1, ry.int_, t1, ev, q v rv⟩))
    | _ => cases e
  | str s =>
    cases y with
    | int i =>
      unfold idxH at e
      dsimp only at e
      split at e
      · rename_i hz
        obtain ⟨c, ec, ew⟩ := Option.map_eq_some_iff.mp e
        subst ew
        rw [LN_eq] at hz
        refine .inl (.inr (.inr ⟨st_ s, i, c, rx.str_.1, ry.int_, by rw [st_len]; exact hz, ec, q _ ?_⟩))
        have ok : okS [c] = true := by
          unfold MI.atI at ec
          cases z : MI.ixN s.length i with
          | none => rw [z] at ec; cases ec
          | some j => rw [z] at ec; exact okS_get rx.str_.2 ec
        unfold Rp
        exact ⟨rfl, ok⟩
      · cases e
    | _ => cases e
  | loc n =>
    obtain ⟨hl, ex⟩ := rx.loc_
    subst ex
    have lst : ∀ ws : List W, lstAt h n = some ws → (∃ i, y = .int i ∧ MI.atI ws i = some w) → rIxM B.K (V.ref (ρ n)) yv H Q := fun ws el ⟨i, ey, ei⟩ => by
      subst ey
      obtain ⟨_, xs, t, r⟩ := lstAt_ S el
      obtain ⟨v, ev, rv⟩ := atI_ r ei
      exact .inl (.inl ⟨ρ n, xs, i, v, rfl, ry.int_, t, ev, q v rv⟩)
    unfold idxH at e
    dsimp only at e
    cases z : h[n]? with
    | none => rw [z] at e; cases e
    | some o =>
      rw [z] at e
      cases o with
      | lst ws =>
        cases y with
        | int i => exact lst ws (by unfold lstAt; rw [z]) ⟨i, rfl, e⟩
        | _ => cases e
      | frl ws =>
        cases y with
        | int i => exact lst ws (by unfold lstAt; rw [z]) ⟨i, rfl, e⟩
        | _ => cases e
      | dct kvs =>
        dsimp only at e
        split at e
        · rename_i g
          obtain ⟨ks, e1, r1, _⟩ := dct_ S z
          obtain ⟨yk, rk, ey⟩ := key_of_ g ry
          obtain ⟨v, ev, rv⟩ := RpD_get r1 rk e
          have g2 : DGet H (ρ n) (kV yk) (valV ks yk) := DGet.k e1
          rw [ev, ← ey] at g2
          exact .inr ⟨ρ n, v, rfl, g2, q v rv⟩
        · cases e
      | _ => cases e
  | _ => cases e
def notSl : Expr → Bool
  | .Slice .. => false
  | _ => true
theorem plainIx_of (p : notSl b = true) : PlainIx b := by
  intro o i
  cases b <;> first | rfl | cases p
theorem snd_idx (hK : X.K = B.K) (hu : X.A.units + 64 < cLine) (ha : PE X a (LE B W_ ma)) (hb : PE X b (LE B W_ mb)) (hs : notSl b = true) : PE X (.Subscript a b pos) (LE B W_ fun s => bnd (ma s) fun x => bnd (mb s) fun y => rdO fun h => idxH h x y) :=
  PE.weak (pe_ix (ix_M hu) ha hb (plainIx_of hs)) (LE.two (fun _ => rfl) fun ρ h H σ x y xv yv Q S rx ry o => by
    obtain ⟨w, ew, q⟩ := o.rdO S
    rw [hK]
    exact ix_ok S rx ry ew q)
/-! ### x[lo:hi] -/
def rSlM (K : PySem.W.Frag) : V → Option Int → Option Int → Hp → VK → Prop := fun x lo hi H Q => rSlL K x lo hi H Q ∨ rSlD K x lo hi H Q ∨ rSlS x lo hi H Q
theorem sl_M : L2.SlR X (rSlM X.K) := L2.SlR.or sl_list (L2.SlR.or sl_tupD sl_str)
theorem cutL_eq {xs : List V} {lo hi : Option Int} : cutL xs lo hi = cutV xs lo hi := by
  unfold cutL cutV
  rw [sIx_eq, sIx_eq]
theorem cutL_Rps {ρ : Nat → Addr} {H : Hp} {L : Nat} {ws : List W} {xs : List V} {lo hi : Option Int} (r : Rps B ρ L H ws xs) : Rps B ρ L H (cutL ws lo hi) (cutV xs lo hi) := by
  rw [← cutL_eq]
  unfold cutL
  rw [r.len]
  exact (r.drop _).take _
theorem sl_ok {ρ : Nat → Addr} {h : AH} {H : Hp} {σ : L2.St} {x : W} {xv : V} {lo hi : Option Int} {Q : VK} (S : Sim B ρ h H) (rx : Rp B ρ h.length H x xv)
    (o : OutE B W_ ρ h H σ (bnd (rdO fun h => slcH h lo hi x) (fun r => outM (some r)) h) fun w ρ' h' H' => ∀ v, Rp B ρ' h'.length H' w v → Q v H') : rSlM B.K xv lo hi H Q := by
  obtain ⟨r, e, o⟩ := (OutE.bnd o).rdO S
  have o := o S
  cases x with
  | tup ws =>
    cases e
    obtain ⟨a1, xs, e1, t1, d1, r1⟩ := rx.dn_
    have fin : ∀ ρ' H', Sim B ρ' h H' → Ext ρ h H ρ' h H' → ∀ v, Rp B ρ' h.length H' (.tup (cutL ws lo hi)) v → Q v H' := o
    refine .inr (.inl ⟨a1, xs, e1, t1, fun z => ?_, fun _ => outTup S (cutL_Rps r1) fin⟩)
    refine fin ρ H S .refl _ ?_
    have ec : cutV xs lo hi = xs := by
      unfold cutV
      rw [z.1, z.2, List.drop_zero, Nat.sub_zero, List.take_length]
    unfold Rp
    refine ⟨a1, xs, rfl, ⟨t1, d1⟩, ?_⟩
    have q := cutL_Rps (lo := lo) (hi := hi) r1
    rw [ec] at q
    exact q
  | str s =>
    unfold slcH at e
    dsimp only at e
    split at e
    · rename_i hz
      cases e
      rw [LN_eq] at hz
      refine .inr (.inr ⟨st_ s, rx.str_.1, by rw [st_len]; exact hz, o.pure S _ ?_⟩)
      unfold Rp
      refine ⟨?_, okS_cut rx.str_.2⟩
      have e2 : cutS (st_ s) lo hi = st_ (cutL s lo hi) := by
        unfold cutS cutL
        rw [st_len, sIx_eq, sIx_eq]
      rw [e2]
    · cases e
  | loc n =>
    obtain ⟨hl, ex⟩ := rx.loc_
    unfold slcH at e
    dsimp only at e
    cases el : lstAt h n with
    | none => rw [el] at e; cases e
    | some ws =>
      rw [el] at e
      cases e
      obtain ⟨_, xs, t, r1⟩ := lstAt_ S el
      refine .inl ⟨ρ n, xs, ex, t, fun p hp => ?_⟩
      exact outAlloc (u := .lst (cutV xs lo hi)) o S (fun _ z => by cases z) hp fun ρ' H' x' z => ⟨_, z, (cutL_Rps r1).ext x' S⟩
  | _ => cases e
/-- a slice's bound -/
def LO (B : Bs) (W_ : WX) (m : Env → Mo (Option Int)) : TO := fun σ H Q => ∃ ρ h s, Sim B ρ h H ∧ REnv B ρ h.length H s σ ∧ OutE B W_ ρ h H σ (m s h) fun o _ _ H' => Q o H'
theorem PO.weak {oe : Option Expr} {t t' : TO} (p : PO X oe t) (f : ∀ σ H Q, t' σ H Q → t σ H Q) : PO X oe t' := ⟨fun pins s σ H Q I h => p.run pins s σ H Q I (f σ H Q h)⟩
theorem snd_poN {m : Env → Mo W} : PO X none (LO B W_ fun s => partM .non (m s)) := PO.weak po_none fun σ H Q ⟨ρ, h, s, S, E, o⟩ => o.pure S
theorem snd_poS {ie : MI.E} (hn : ie ≠ .non) (ha : PE X a (LE B W_ ma)) : PO X (some a) (LO B W_ fun s => partM ie (ma s)) := by
  have e : ∀ s, partM ie (ma s) = bnd (ma s) fun x => match x with | .int i => ret (some i) | _ => bad := fun s => by
    cases ie <;> first | rfl | exact absurd rfl hn
  refine PO.weak (po_some ha) fun σ H Q ⟨ρ, h, s, S, E, o⟩ => ?_
  have o : OutE B W_ ρ h H σ (partM ie (ma s) h) fun o _ _ H' => Q o H' := o
  rw [e] at o
  refine ⟨ρ, h, s, S, E, o.bnd.mono fun x ρ1 h1 H1 s1 e1 k xv rx => ?_⟩
  cases x with
  | int i => exact ⟨i, rx.int_, (k s1).pure s1⟩
  | _ => exact (k s1).elim
theorem snd_slc {lo hi : Option Expr} {p2 : Pos} {ml mh : Env → Mo (Option Int)} (hK : X.K = B.K) (ha : PE X a (LE B W_ ma)) (hl : PO X lo (LO B W_ ml)) (hh : PO X hi (LO B W_ mh)) :
    PE X (.Subscript a (.Slice lo hi none p2) pos) (LE B W_ fun s => bnd (ma s) fun x => bnd (ml s) fun l => bnd (mh s) fun u => bnd (rdO fun h => slcH h l u x) fun r => outM (some r)) := by
  refine PE.weak (pe_slice sl_M ha hl hh) fun σ H Q ⟨ρ, h, s, S, E, o⟩ => ?_
  refine ⟨ρ, h, s, S, E, o.bnd.mono fun x ρ1 h1 H1 s1 e1 k xv rx => ?_⟩
  refine ⟨ρ1, h1, s, s1, E.ext e1 S, (k s1).bnd.mono fun l ρ2 h2 H2 s2 e2 k2 => ?_⟩
  refine ⟨ρ2, h2, s, s2, (E.ext e1 S).ext e2 s1, (k2 s2).bnd.mono fun u ρ3 h3 H3 s3 e3 k3 => ?_⟩
  rw [hK]
  exact sl_ok s3 ((rx.ext e2 s1).ext e3 s2) (k3 s3)
/-! ### arguments, displays -/
def isSt : Expr → Bool
  | .Starred .. => true
  | _ => false
theorem star_cons {env : PySem.Env} {es : List Expr} (p : isSt e = false) : starEach (e :: es) env = (false, eval e env) :: starEach es env := by
  cases e <;> first | rfl | cases p
theorem LA.nil_ : ∀ σ H Q, LA B W_ (fun _ => ret []) σ H Q → tNil σ H Q := fun σ H Q ⟨ρ, h, s, S, E, o⟩ => o.pure S [] (by unfold Rps; trivial)
theorem PA.weak {es : List Expr} {t t' : TA} (p : PA X es t) (f : ∀ σ H Q, t' σ H Q → t σ H Q) : PA X es t' := ⟨fun ps pins s σ H Q I h => p.run ps pins s σ H Q I (f σ H Q h)⟩
theorem snd_paN : PA X [] (LA B W_ fun _ => ret []) := PA.weak pa_nil LA.nil_
theorem snd_paC {es : List Expr} {mr : Env → Mo (List W)} (ha : PE X e (LE B W_ ma)) (hr : PA X es (LA B W_ mr)) (hs : isSt e = false) : PA X (e :: es) (LA B W_ fun s => bnd (ma s) fun x => bnd (mr s) fun xs => ret (x :: xs)) := by
  refine PA.weak (pa_cons ha hr (star_cons hs)) fun σ H Q ⟨ρ, h, s, S, E, o⟩ => ?_
  refine ⟨ρ, h, s, S, E, o.bnd.mono fun x ρ1 h1 H1 s1 e1 k xv rx => ?_⟩
  refine ⟨ρ1, h1, s, s1, E.ext e1 S, (k s1).bnd.mono fun xs ρ2 h2 H2 s2 e2 k2 xsv rxs => ?_⟩
  refine (k2 s2).pure s2 (xv :: xsv) ?_
  unfold Rps
  exact ⟨rx.ext e2 s1, rxs⟩
theorem snd_tup {es : List Expr} {k : Nat} {mr : Env → Mo (List W)} (hr : PA X es (LA B W_ mr)) : PE X (.Tuple es k pos) (LE B W_ fun s => bnd (mr s) fun ws => if ws.length ≤ LN then ret (.tup ws) else bad) := by
  refine PE.weak (pe_tupD hr) fun σ H Q ⟨ρ, h, s, S, E, o⟩ => ?_
  refine ⟨ρ, h, s, S, E, o.bnd.mono fun ws ρ1 h1 H1 s1 e1 k xs rxs => ?_⟩
  have q := k s1
  split at q
  · rename_i hz
    rw [LN_eq] at hz
    have fin : ∀ ρ' H', Sim B ρ' h1 H' → Ext ρ1 h1 H1 ρ' h1 H' → ∀ v, Rp B ρ' h1.length H' (.tup ws) v → Q v H' := q
    exact ⟨by rw [rxs.len]; exact hz, outTup s1 rxs fin⟩
  · exact q.elim
theorem snd_lst {es : List Expr} {mr : Env → Mo (List W)} (hr : PA X es (LA B W_ mr)) : PE X (.List es pos) (LE B W_ fun s => bnd (mr s) fun ws => if ws.length ≤ LN then alloc (.lst ws) else bad) := by
  refine PE.weak (pe_lst hr) fun σ H Q ⟨ρ, h, s, S, E, o⟩ => ?_
  refine ⟨ρ, h, s, S, E, o.bnd.mono fun ws ρ1 h1 H1 s1 e1 k xs rxs => ?_⟩
  have q := k s1
  split at q
  · rename_i hz
    rw [LN_eq] at hz
    exact ⟨by rw [rxs.len]; exact hz, fun p hp => outAlloc (u := .lst xs) q s1 (fun _ z => by cases z) hp fun ρ' H' x' z => ⟨_, z, rxs.ext x' s1⟩⟩
  · exact q.elim
end
end MI
/-! MI7: a thing beside, dict displays, built-ins by name, methods, isinstance, calls. -/
namespace MI
open PySem PySem.Spec PyProof.Rows L2
/-! ### a thing that stands beside (a list or dict that is being made) -/
def unp (H : Hp) (D : Addr) : Hp := fun a => if a = D then none else H a
/-- D is none of ours -/
def Side (ρ : Nat → Addr) (h : AH) (D : Addr) : Prop := ∀ n, n < h.length → isF h n = false → ρ n ≠ D
def sideO : HO → Prop
  | .lst _ => True
  | .dK _ => True
  | _ => False
section
variable {B : Bs} {ρ ρ' : Nat → Addr} {h h' : AH} {H H' : Hp} {D : Addr} {u : HO} {σ : L2.St}
theorem unp_same : unp H D D = none := if_pos rfl
theorem unp_ne {a : Addr} (z : a ≠ D) : unp H D a = H a := if_neg z
theorem unp_none (e : H D = none) : unp H D = H := by
  funext a
  by_cases z : a = D
  · subst z; rw [unp_same, e]
  · exact unp_ne z
theorem unp_upd : unp (upd H D u) D = unp H D := by
  funext a
  by_cases z : a = D
  · subst z; rw [unp_same, unp_same]
  · rw [unp_ne z, unp_ne z, upd_ne z]
theorem upd_unp : upd (unp H D) D u = upd H D u := by
  funext a
  by_cases z : a = D
  · subst z; rw [upd_same, upd_same]
  · rw [upd_ne z, upd_ne z, unp_ne z]
theorem upd_id (e : H D = some u) : upd H D u = H := by
  funext a
  by_cases z : a = D
  · subst z; rw [upd_same, e]
  · exact upd_ne z
theorem sqT_unp {K : PySem.W.Frag} {a : Addr} {xs : List V} (e : ∀ v, H D = some v → sideO v) (q : SqT K H a xs) : SqT K (unp H D) a xs := by
  rcases q with q | q
  · rcases q with z | ⟨o, z⟩
    · refine .inl (.inl ?_)
      rw [unp_ne fun y => by subst y; exact (e _ z).elim]; exact z
    · refine .inl (.inr ⟨o, ?_⟩)
      rw [unp_ne fun y => by subst y; exact (e _ z).elim]; exact z
  · exact .inr q
theorem dn_unp {K : PySem.W.Frag} {a : Addr} (e : ∀ v, H D = some v → sideO v) (q : Dn K H a) : Dn K (MI.unp H D) a := by
  rcases q with ⟨o, xs, z, q⟩ | q
  · refine .inl ⟨o, xs, ?_, q⟩
    rw [unp_ne fun y => by subst y; exact (e _ z).elim]; exact z
  · exact .inr q
mutual
theorem Rp.unp {L : Nat} (e : ∀ v, H D = some v → sideO v) : ∀ (w : W) {y : V}, Rp B ρ L H w y → Rp B ρ L (MI.unp H D) w y
  | .non, _, q => by unfold Rp at *; exact q
  | .bl b, _, q => by unfold Rp at *; exact q
  | .int i, _, q => by unfold Rp at *; exact q
  | .str i, _, q => by unfold Rp at *; exact q
  | .tup ws, _, q => by
    unfold Rp at *
    obtain ⟨a, xs, e1, t, r⟩ := q
    exact ⟨a, xs, e1, ⟨sqT_unp e t.1, dn_unp e t.2⟩, Rps.unp e ws r⟩
  | .loc n, _, q => by unfold Rp at *; exact q
  | .gl y, _, q => by unfold Rp at *; exact q
theorem Rps.unp {L : Nat} (e : ∀ v, H D = some v → sideO v) : ∀ (ws : List W) {ys : List V}, Rps B ρ L H ws ys → Rps B ρ L (MI.unp H D) ws ys
  | [], [], q => by unfold Rps at *; trivial
  | [], _ :: _, q => by unfold Rps at q; exact q.elim
  | _ :: _, [], q => by unfold Rps at q; exact q.elim
  | w :: r, y :: ys, q => by
    unfold Rps at *
    exact ⟨Rp.unp e w q.1, Rps.unp e r q.2⟩
end
theorem RpD.unp {L : Nat} (e : ∀ v, H D = some v → sideO v) : ∀ {ws : List (W × W)} {ys : List (Key × V)}, RpD B ρ L H ws ys → RpD B ρ L (MI.unp H D) ws ys
  | [], _, q => by rw [q.nil_]; unfold RpD; trivial
  | (k, w) :: r, _, q => by
    obtain ⟨y, x, t, rfl, a, b, c⟩ := q.cons_
    unfold RpD
    exact ⟨a, b.unp e w, RpD.unp e c⟩
theorem Sim.unp (s : Sim B ρ h H) (sd : Side ρ h D) (e : ∀ v, H D = some v → sideO v) : Sim B ρ h (MI.unp H D) := by
  refine ⟨s.inj, fun n o en => ?_⟩
  have hn : n < h.length := (List.getElem?_eq_some_iff.mp en).1
  have q := s.obj n o en
  cases o with
  | lst ws =>
    obtain ⟨xs, e1, r⟩ := q
    exact ⟨xs, by rw [unp_ne (sd n hn (isF_of en fun _ z => by cases z))]; exact e1, r.unp e ws⟩
  | frl ws =>
    obtain ⟨xs, e1, r⟩ := q
    refine ⟨xs, ?_, r.unp e ws⟩
    rcases e1 with ⟨ob, e1⟩ | e1
    · exact .inl ⟨ob, by rw [unp_ne fun y => by rw [y] at e1; exact (e _ e1).elim]; exact e1⟩
    · exact .inr e1
  | dct kvs =>
    obtain ⟨ks, e1, r, nd⟩ := q
    exact ⟨ks, by rw [unp_ne (sd n hn (isF_of en fun _ z => by cases z))]; exact e1, r.unp e, nd⟩
  | frd kvs =>
    obtain ⟨ks, ob, e1, r, nd⟩ := q
    exact ⟨ks, ob, by rw [unp_ne (sd n hn (isF_of en fun _ z => by cases z))]; exact e1, r.unp e, nd⟩
  | ins c fs => exact q.elim
  | exn c =>
    obtain ⟨φ, e1, r⟩ := q
    exact ⟨φ, by rw [unp_ne (sd n hn (isF_of en fun _ z => by cases z))]; exact e1, r⟩
theorem Ext.unp (x : Ext ρ h H ρ' h' H') : Ext ρ h (MI.unp H D) ρ' h' (MI.unp H' D) := by
  refine ⟨x.len, x.knd, x.old, fun a o e hc => ?_, fun n h1 h2 hf => ?_, fun n kvs e => ?_⟩
  rotate_left 2
  · obtain ⟨e1, e2⟩ := x.frz n kvs e
    refine ⟨e1, ?_⟩
    by_cases z : ρ n = D
    · rw [z, unp_same, unp_same]
    · rw [unp_ne z, unp_ne z]; exact e2
  · by_cases z : a = D
    · subst z; rw [unp_same] at e; cases e
    · rw [unp_ne z] at e ⊢
      exact x.fr a o e hc
  · by_cases z : ρ' n = D
    · rw [z]; exact unp_same
    · rw [unp_ne z]; exact x.new n h1 h2 hf
/-- a thing laid beside -/
theorem side_new (s : Sim B ρ h H) (hp : H D = none) : Sim B ρ h (upd H D u) ∧ Ext ρ h H ρ h (upd H D u) ∧ Side ρ h D := by
  have X : Ext ρ h H ρ h (upd H D u) := by
    refine ⟨Nat.le_refl _, fun _ _ => rfl, fun _ _ => rfl, fun a o e _ => ?_, fun n h1 h2 => by omega, fun n kvs e => ?_⟩
    · rw [upd_ne (ne_of_none e hp)]; exact e
    · obtain ⟨ks, ob, e1, _⟩ := s.obj n _ e
      exact ⟨e, by rw [upd_ne (ne_of_none e1 hp)]⟩
  refine ⟨⟨s.inj, fun n o e => (s.obj n o e).ext X s (fun _ v ev => ?_) fun ob xs ev => ?_⟩, X, fun n hn hf z => ?_⟩
  · rw [upd_ne (ne_of_none ev hp)]; exact ev
  · rw [upd_ne (ne_of_none ev hp)]; exact ev
  · obtain ⟨o1, e1, f1⟩ := isF_false hn hf
    obtain ⟨u1, e2⟩ := (s.obj n o1 e1).some_ f1
    rw [z, hp] at e2; cases e2
theorem Side.ext (sd : Side ρ h D) (x : Ext ρ h H ρ' h' H') (e : H D ≠ none) : Side ρ' h' D := fun n hn hf z => by
  by_cases hl : n < h.length
  · exact sd n hl ((x.knd n hl).symm.trans hf) ((x.old n hl).symm.trans z)
  · have q := x.new n (Nat.not_lt.mp hl) hn hf
    rw [z] at q; exact e q
theorem Side.kept (sd : Side ρ h D) (x : Ext ρ h H ρ' h' H') (e : H D = some u) : H' D = some u := x.fr D u e fun n hn hf => sd n hn hf
/-- what stands beside becomes the newest thing of ours -/
theorem side_in {ρ0 : Nat → Addr} {h0 : AH} {H0 : Hp} {o : O} (s : Sim B ρ h H) (sd : Side ρ h D) (e : H D = some u) (hu : sideO u) (ho : ∀ ws, o ≠ .frl ws) (x : Ext ρ0 h0 H0 ρ h (MI.unp H D))
    (q : ∀ ρ' H', Ext ρ h (MI.unp H D) ρ' (h ++ [o]) H' → H' D = some u → RpO B ρ' (h ++ [o]).length H' o D) : Sim B (at_ ρ h.length D) (h ++ [o]) H ∧ Ext ρ0 h0 H0 (at_ ρ h.length D) (h ++ [o]) H := by
  have su := s.unp sd fun v ev => by rw [e] at ev; cases ev; exact hu
  obtain ⟨S', X'⟩ := alloc_ok su (unp_same (H := H)) ho q
  rw [upd_unp, upd_id e] at S' X'
  exact ⟨S', x.trans X' S'⟩
end
/-! ### dict displays -/
section
variable {X : Cx} {B : Bs} {W_ : WX} {e a b d : Expr} {pos : Pos} {ma mb md : Env → Mo W}
/-- the written pairs: their expressions by turns -/
inductive PrE (X : Cx) (B : Bs) (W_ : WX) : List (Option Expr) → List Expr → (Env → Mo (List W)) → List (TE × TE) → Prop where
  | nil : PrE X B W_ [] [] (fun _ => ret []) []
  | cons {k v : Expr} {ks : List (Option Expr)} {vs : List Expr} {mk mv : Env → Mo W} {mr : Env → Mo (List W)} {trs : List (TE × TE)} : PE X k (LE B W_ mk) → PE X v (LE B W_ mv) → PrE X B W_ ks vs mr trs →
      PrE X B W_ (some k :: ks) (v :: vs) (fun s => bnd (mk s) fun x => bnd (bnd (mv s) fun y => bnd (mr s) fun ys => ret (y :: ys)) fun xs => ret (x :: xs)) ((LE B W_ mk, LE B W_ mv) :: trs)
def RpP (B : Bs) (ρ : Nat → Addr) (L : Nat) (H : Hp) : List W → List (V × V) → Prop
  | [], [] => True
  | k :: v :: r, (x, y) :: q => Rp B ρ L H k x ∧ Rp B ρ L H v y ∧ RpP B ρ L H r q
  | _, _ => False
theorem PrE.pps {ks : List (Option Expr)} {vs : List Expr} {m : Env → Mo (List W)} {trs : List (TE × TE)} (p : PrE X B W_ ks vs m trs) : PPs X pos ks vs trs := by
  induction p with
  | nil => exact pps_nil
  | cons h1 h2 _ ih => exact pps_cons h1 h2 ih
theorem PrE.read {ks : List (Option Expr)} {vs : List Expr} {m : Env → Mo (List W)} {trs : List (TE × TE)} (p : PrE X B W_ ks vs m trs) :
    ∀ (ρ : Nat → Addr) (h : AH) (s : Env) (σ : L2.St) (H : Hp) (Q : List (V × V) → Hp → Prop), Sim B ρ h H → REnv B ρ h.length H s σ → OutE B W_ ρ h H σ (m s h) (fun ws ρ' h' H' => ∀ ps, RpP B ρ' h'.length H' ws ps → Q ps H') → tPairs trs σ H Q := by
  induction p with
  | nil => exact fun ρ h s σ H Q S E o => o.pure S [] (by unfold RpP; trivial)
  | @cons k v ks vs mk mv mr trs h1 h2 pr ih =>
    intro ρ h s σ H Q S E o
    refine ⟨ρ, h, s, S, E, o.bnd.mono fun x ρ1 h1 H1 s1 e1 k xv rx => ?_⟩
    refine ⟨ρ1, h1, s, s1, E.ext e1 S, (k s1).bnd.bnd.mono fun y ρ2 h2 H2 s2 e2 k2 yv ry => ?_⟩
    refine ih ρ2 h2 s σ H2 _ s2 ((E.ext e1 S).ext e2 s1) ((k2 s2).bnd.mono fun ys ρ3 h3 H3 s3 e3 k3 ps rps => ?_)
    have k3 := ((k3 s3).pure s3) s3
    refine k3.pure s3 ((xv, yv) :: ps) ?_
    unfold RpP
    exact ⟨(rx.ext e2 s1).ext e3 s2, ry.ext e3 s2, rps⟩
theorem pairUp_ {ρ : Nat → Addr} {H : Hp} {L : Nat} : ∀ {ws : List W} {kvs : List (W × W)} {ps : List (V × V)}, pairUp ws = some kvs → RpP B ρ L H ws ps → ∃ ks : List (Key × V), ps = ks.map (fun kv => (kV kv.1, kv.2)) ∧ RpD B ρ L H kvs ks ∧ ks.length = kvs.length ∧ ps.length = kvs.length
  | [], _, [], e, r => by cases e; exact ⟨[], rfl, by unfold RpD; trivial, rfl, rfl⟩
  | [], _, _ :: _, e, r => by unfold RpP at r; exact r.elim
  | [_], _, _, e, r => by cases e
  | k :: v :: t, _, [], e, r => by unfold RpP at r; exact r.elim
  | k :: v :: t, kvs, (x, y) :: q, e, r => by
    unfold RpP at r
    unfold pairUp at e
    split at e
    · rename_i g
      obtain ⟨kv2, e2, e3⟩ := Option.map_eq_some_iff.mp e
      subst e3
      obtain ⟨yk, rk, ex⟩ := key_of_ g r.1
      obtain ⟨ks, e4, r4, l1, l2⟩ := pairUp_ e2 r.2.2
      refine ⟨(yk, y) :: ks, by rw [e4, List.map_cons, ex], ?_, by rw [List.length_cons, List.length_cons, l1], by rw [List.length_cons, List.length_cons, l2]⟩
      unfold RpD
      exact ⟨rk, r.2.1, r4⟩
    · cases e
theorem merge_ {ρ : Nat → Addr} {H : Hp} {L : Nat} : ∀ {more : List (W × W)} {ms : List (Key × V)} {kvs : List (W × W)} {ks : List (Key × V)}, RpD B ρ L H more ms → RpD B ρ L H kvs ks → (ks.map fun p => p.1).Nodup → RpD B ρ L H (mergeD kvs more) (mergeK ks ms) ∧ ((mergeK ks ms).map fun p => p.1).Nodup
  | [], _, _, _, r, q, nd => by rw [r.nil_]; exact ⟨q, nd⟩
  | (k, v) :: t, _, kvs, ks, r, q, nd => by
    obtain ⟨y, x, t2, rfl, rk, rv, r2⟩ := r.cons_
    show RpD B ρ L H (mergeD (dput kvs k v) t) (mergeK (putK ks y x) t2) ∧ ((mergeK (putK ks y x) t2).map fun p => p.1).Nodup
    exact merge_ r2 (dput_ rk rv q nd) (putK_nodup nd)
theorem snd_dct {ks : List (Option Expr)} {vs : List Expr} {m : Env → Mo (List W)} {trs : List (TE × TE)} (p : PrE X B W_ ks vs m trs) (hall : ks.all (·.isSome) = true) (hl : ks.length = vs.length) (h0 : ks ≠ []) (h15 : ks.length ≤ 15) (hlen : ∀ s h ws h', m s h = .ok ws h' → ws.length = 2 * ks.length) :
    PE X (.Dict ks vs pos) (LE B W_ fun s => bnd (m s) fun ws => bnd (ofO (pairUp ws)) fun kvs => alloc (.dct (mergeD [] kvs))) := by
  refine PE.weak (pe_disp p.pps hall hl h0 h15) fun σ H Q ⟨ρ, h, s, S, E, o⟩ => ?_
  intro D hD
  obtain ⟨S1, X1, sd⟩ := side_new (u := .dK []) S hD
  have o' := OutE.bnd o
  -- the same run, from the heap with the new dict beside
  refine p.read ρ h s σ (upd H D (.dK [])) _ S1 (E.ext X1 S) ?_
  cases hm : m s h with
  | bad => rw [hm] at o'; exact o'
  | ex c h' =>
    rw [hm] at o'
    exact fun ρ' H' s' e' => o' ρ' H' s' (X1.trans e' s')
  | ok ws h' =>
    intro ρ2 H2 s2 e2 ps rps
    have kD := sd.kept e2 upd_same
    have sd2 := sd.ext e2 (by rw [upd_same]; exact fun z => by cases z)
    refine ⟨kD, ?_⟩
    have lw := hlen s h ws h' hm
    rw [hm] at o'
    have o2 : OutE B W_ ρ2 h' H2 σ (bnd (ofO (pairUp ws)) (fun kvs => alloc (.dct (mergeD [] kvs))) h') fun w ρ' h' H' => ∀ v, Rp B ρ' h'.length H' w v → Q v H' := by
      exact o' ρ2 H2 s2 (X1.trans e2 s2) s2
    cases hp : pairUp ws with
    | none => rw [hp] at o2; exact o2.elim
    | some kvs =>
      obtain ⟨ks2, e3, r3, l1, l2⟩ := pairUp_ hp rps
      have ln : ∀ {ws : List W} {kvs : List (W × W)}, pairUp ws = some kvs → ws.length = 2 * kvs.length := by
        intro ws
        induction ws using pairUp.induct with
        | case1 => intro kvs e; cases e; rfl
        | case2 k v r g ih =>
          intro kvs e
          unfold pairUp at e
          rw [if_pos g] at e
          obtain ⟨kv2, e2, e3⟩ := Option.map_eq_some_iff.mp e
          subst e3
          have := ih e2
          simp only [List.length_cons]
          omega
        | case3 k v r g => intro kvs e; unfold pairUp at e; rw [if_neg g] at e; cases e
        | case4 => intro kvs e; cases e
      have l3 := ln hp
      refine ⟨ks2, e3, by omega, ?_⟩
      -- the heap with the dict filled
      have e4 : H2 D = some (.dK []) := kD
      have hs : ∀ v, H2 D = some v → sideO v := fun v ev => by rw [e4] at ev; cases ev; trivial
      have xu : Ext ρ h H ρ2 h' (MI.unp (upd H2 D (.dK (mergeK [] ks2))) D) := by
        rw [unp_upd]
        have z := e2.unp (D := D)
        rw [unp_upd, unp_none hD] at z
        exact z
      have S3 : Sim B ρ2 h' (upd H2 D (.dK (mergeK [] ks2))) := by
        have z := s2.unp sd2 hs
        have := (side_new (u := .dK (mergeK [] ks2)) z unp_same).1
        rw [upd_unp] at this
        exact this
      have r4 : RpD B ρ2 h'.length (MI.unp H2 D) kvs ks2 := r3.unp hs
      obtain ⟨r5, nd5⟩ := merge_ (kvs := []) (ks := []) r4 (by unfold RpD; trivial) List.nodup_nil
      have su := s2.unp sd2 hs
      obtain ⟨S4, X4⟩ := side_in (o := .dct (mergeD [] kvs)) S3 sd2 upd_same trivial (fun _ z => by cases z) xu fun ρ' H' x' z => ⟨_, z, RpD.ext (by rw [unp_upd] at x'; exact x') su _ r5, nd5⟩
      have q := o' 
      have fin : ∀ ρ' H', Sim B ρ' (h' ++ [O.dct (mergeD [] kvs)]) H' → Ext ρ h H ρ' (h' ++ [O.dct (mergeD [] kvs)]) H' → ∀ v, Rp B ρ' (h' ++ [O.dct (mergeD [] kvs)]).length H' (.loc h'.length) v → Q v H' := by
        have o : OutE B W_ ρ h H σ (bnd (m s) (fun ws => bnd (ofO (pairUp ws)) fun kvs => alloc (.dct (mergeD [] kvs))) h) fun w ρ' h' H' => ∀ v, Rp B ρ' h'.length H' w v → Q v H' := o
        unfold MI.bnd at o
        rw [hm] at o
        dsimp only at o
        rw [hp] at o
        exact o
      refine fin _ _ S4 X4 _ ?_
      unfold Rp
      exact ⟨by rw [List.length_append, List.length_singleton]; omega, by rw [at_same]⟩
theorem snd_dct0 : PE X (.Dict [] [] pos) (LE B W_ fun s => bnd (ret []) fun ws => bnd (ofO (pairUp ws)) fun kvs => alloc (.dct (mergeD [] kvs))) := by
  refine PE.weak pe_dnewK fun σ H Q ⟨ρ, h, s, S, E, o⟩ => ?_
  intro p hp
  have o : OutE B W_ ρ h H σ (alloc (.dct []) h) fun w ρ' h' H' => ∀ v, Rp B ρ' h'.length H' w v → Q v H' := o
  exact outAlloc (u := .dK []) o S (fun _ z => by cases z) hp fun ρ' H' x' z => ⟨_, z, by unfold RpD; trivial, List.nodup_nil⟩
end
end MI
/-! MI8: built-ins, methods, calls. -/
namespace MI
open PySem PySem.Spec PyProof.Rows L2
section
variable {B : Bs} {ρ : Nat → Addr} {h : AH} {H : Hp} {L : Nat}
theorem ints_ : ∀ {ws : List W} {is : List Int} {xs : List V}, intsOf ws = some is → Rps B ρ L H ws xs → xs = is.map V.int
  | [], _, xs, e, r => by cases e; rw [r.nil_]; rfl
  | w :: t, is, xs, e, r => by
    obtain ⟨y, q, rfl, a, b⟩ := r.cons_
    cases w with
    | int i =>
      obtain ⟨is2, e2, rfl⟩ := Option.map_eq_some_iff.mp (show (intsOf t).map (i :: ·) = some is from e)
      rw [ints_ e2 b, a.int_]; rfl
    | _ => cases e
theorem bls_ : ∀ {ws : List W} {is : List Bool} {xs : List V}, blsOf ws = some is → Rps B ρ L H ws xs → xs = is.map V.bl
  | [], _, xs, e, r => by cases e; rw [r.nil_]; rfl
  | w :: t, is, xs, e, r => by
    obtain ⟨y, q, rfl, a, b⟩ := r.cons_
    cases w with
    | bl i =>
      obtain ⟨is2, e2, rfl⟩ := Option.map_eq_some_iff.mp (show (blsOf t).map (i :: ·) = some is from e)
      rw [bls_ e2 b, a.bl_]; rfl
    | _ => cases e
theorem minI_spec : ∀ (r : List Int) (i : Int), (minI i r = i ∨ minI i r ∈ r) ∧ minI i r ≤ i ∧ ∀ y ∈ r, minI i r ≤ y
  | [], i => ⟨.inl rfl, Int.le_refl _, fun _ h => nomatch h⟩
  | j :: r, i => by
    unfold minI
    obtain ⟨h1, h2, h3⟩ := minI_spec r (if j < i then j else i)
    by_cases hj : j < i
    · rw [if_pos hj] at *
      refine ⟨.inr ?_, by omega, fun y hy => ?_⟩
      · rcases h1 with h1 | h1
        · rw [h1]; exact List.mem_cons_self
        · exact List.mem_cons_of_mem _ h1
      · rcases List.mem_cons.mp hy with e | e
        · rw [e]; exact h2
        · exact h3 y e
    · rw [if_neg hj] at *
      refine ⟨?_, by omega, fun y hy => ?_⟩
      · rcases h1 with h1 | h1
        · exact .inl h1
        · exact .inr (List.mem_cons_of_mem _ h1)
      · rcases List.mem_cons.mp hy with e | e
        · rw [e]; omega
        · exact h3 y e
theorem maxI_spec : ∀ (r : List Int) (i : Int), (maxI i r = i ∨ maxI i r ∈ r) ∧ i ≤ maxI i r ∧ ∀ y ∈ r, y ≤ maxI i r
  | [], i => ⟨.inl rfl, Int.le_refl _, fun _ h => nomatch h⟩
  | j :: r, i => by
    unfold maxI
    obtain ⟨h1, h2, h3⟩ := maxI_spec r (if j > i then j else i)
    by_cases hj : j > i
    · rw [if_pos hj] at *
      refine ⟨.inr ?_, by omega, fun y hy => ?_⟩
      · rcases h1 with h1 | h1
        · rw [h1]; exact List.mem_cons_self
        · exact List.mem_cons_of_mem _ h1
      · rcases List.mem_cons.mp hy with e | e
        · rw [e]; exact h2
        · exact h3 y e
    · rw [if_neg hj] at *
      refine ⟨?_, by omega, fun y hy => ?_⟩
      · rcases h1 with h1 | h1
        · exact .inl h1
        · exact .inr (List.mem_cons_of_mem _ h1)
      · rcases List.mem_cons.mp hy with e | e
        · rw [e]; omega
        · exact h3 y e
end
section
variable {X : Cx} {B : Bs} {W_ : WX} {e a b d : Expr} {pos p : Pos} {ma mb md : Env → Mo W} {mr : Env → Mo (List W)} {x : Nm}
/-- what a built-in's outcome is for -/
def BiOk (B : Bs) (W_ : WX) (b : BI) (r : List V → Hp → VK → Prop) : Prop :=
  ∀ (ρ : Nat → Addr) (h : AH) (H : Hp) (σ : L2.St) (ws : List W) (xs : List V) (Q : VK), Sim B ρ h H → Rps B ρ h.length H ws xs →
    OutE B W_ ρ h H σ (bnd (rdO fun h => biH h b ws) (fun r => outM (some r)) h) (fun w ρ' h' H' => ∀ v, Rp B ρ' h'.length H' w v → Q v H') → r xs H Q
def mBi (b : BI) (mr : Env → Mo (List W)) : Env → Mo W := fun s => bnd (mr s) fun ws => bnd (rdO fun h => biH h b ws) fun r => outM (some r)
theorem BiOk.read {b : BI} {r : List V → Hp → VK → Prop} (k : BiOk B W_ b r) : ∀ σ H Q, LE B W_ (mBi b mr) σ H Q → tCB r (LA B W_ mr) σ H Q := by
  rintro σ H Q ⟨ρ, h, s, S, E, o⟩
  exact ⟨ρ, h, s, S, E, (OutE.bnd o).mono fun ws ρ1 h1 H1 s1 e1 kk xs rxs => k ρ1 h1 H1 σ ws xs Q s1 rxs (kk s1)⟩
theorem snd_biB {id : String} {b : BI} {r : List V → Hp → VK → Prop} {es : List Expr} (k : BiOk B W_ b r) (hc : CallR X (.builtin id) r) (hg : Gl X x) (hm : X.mg x = none) (hv : bootBuiltins x = some (.builtin id)) (hn : x ≠ "__name__") (hd : (x == ("__debug__" : Str)) = false)
    (ha : PA X (e :: es) (LA B W_ mr)) (h1 : isSt e = false) (hpl : (backTo pos (starEach es X.env)).any (·.1) = false) : PE X (.Call (.Name x p) (e :: es) [] pos) (LE B W_ (mBi b mr)) :=
  PE.weak (pe_callB hc hg hm hv ha hn hd (star_cons h1) hpl) k.read
theorem snd_biT {T : String} {b : BI} {r : List V → Hp → VK → Prop} {es : List Expr} (k : BiOk B W_ b r) (hc : CallR X (.type T) r) (hg : Gl X x) (hm : X.mg x = none) (hv : bootBuiltins x = some (.type T)) (hn : x ≠ "__name__") (hd : (x == ("__debug__" : Str)) = false)
    (ha : PA X (e :: es) (LA B W_ mr)) (h1 : isSt e = false) (hpl : (backTo pos (starEach es X.env)).any (·.1) = false) : PE X (.Call (.Name x p) (e :: es) [] pos) (LE B W_ (mBi b mr)) :=
  PE.weak (pe_callTy hc hg hm hv ha hn hd (star_cons h1) hpl) k.read
theorem bi_out {b : BI} {ρ : Nat → Addr} {h : AH} {H : Hp} {σ : L2.St} {ws : List W} {Q : W → (Nat → Addr) → AH → Hp → Prop} (S : Sim B ρ h H)
    (o : OutE B W_ ρ h H σ (bnd (rdO fun h => biH h b ws) (fun r => outM (some r)) h) Q) : ∃ r, biH h b ws = some r ∧ OutE B W_ ρ h H σ (outM (some r) h) Q := by
  obtain ⟨r, e, o⟩ := (OutE.bnd o).rdO S
  exact ⟨r, e, o S⟩
theorem Rps.one_ {ρ : Nat → Addr} {H : Hp} {L : Nat} {w : W} {xs : List V} (r : Rps B ρ L H [w] xs) : ∃ v, xs = [v] ∧ Rp B ρ L H w v := by
  obtain ⟨y, q, rfl, a, b⟩ := r.cons_
  rw [b.nil_]
  exact ⟨y, rfl, a⟩
theorem Rps.two_ {ρ : Nat → Addr} {H : Hp} {L : Nat} {w1 w2 : W} {xs : List V} (r : Rps B ρ L H [w1, w2] xs) : ∃ v1 v2, xs = [v1, v2] ∧ Rp B ρ L H w1 v1 ∧ Rp B ρ L H w2 v2 := by
  obtain ⟨y, q, rfl, a, b⟩ := r.cons_
  obtain ⟨v, rfl, c⟩ := b.one_
  exact ⟨y, v, rfl, a, c⟩
/-! len -/
def rLenM (K : PySem.W.Frag) : List V → Hp → VK → Prop := fun xs H Q => (∃ x n, xs = [x] ∧ LenV K x H n ∧ Q (.int n) H) ∨ (∃ a kvs, xs = [V.ref a] ∧ H a = some (.dK kvs) ∧ Q (.int kvs.length) H)
theorem bi_len : BiOk B W_ .len (rLenM B.K) := by
  intro ρ h H σ ws xs Q S r o
  obtain ⟨u, e, o⟩ := bi_out S o
  match ws, r, e with
  | [.str s], r, e =>
    obtain ⟨v, rfl, rv⟩ := r.one_
    unfold biH at e
    dsimp only at e
    split at e
    · rename_i hz
      cases e
      rw [LN_eq] at hz
      rw [rv.str_.1]
      exact .inl ⟨_, s.length, rfl, ⟨by rw [st_len]; exact hz, by rw [st_len]⟩, o.pure S _ (by unfold Rp; rfl)⟩
    · cases e
  | [.tup ws], r, e =>
    obtain ⟨v, rfl, rv⟩ := r.one_
    cases e
    obtain ⟨a1, xs, e1, t1, r1⟩ := rv.tup_
    subst e1
    exact .inl ⟨_, ws.length, rfl, .inr ⟨xs, t1, r1.len.symm⟩, o.pure S _ (by unfold Rp; rfl)⟩
  | [.loc n], r, e =>
    obtain ⟨v, rfl, rv⟩ := r.one_
    obtain ⟨hl, ev⟩ := rv.loc_
    subst ev
    have lst : ∀ ws : List W, lstAt h n = some ws → u = .inl (.int ws.length) → rLenM B.K [V.ref (ρ n)] H Q := fun ws el eu => by
      subst eu
      obtain ⟨_, xs, t, r⟩ := lstAt_ S el
      exact .inl ⟨_, ws.length, rfl, .inl ⟨xs, t, r.len.symm⟩, o.pure S _ (by unfold Rp; rfl)⟩
    unfold biH at e
    dsimp only at e
    cases z : h[n]? with
    | none => rw [z] at e; cases e
    | some ob =>
      rw [z] at e
      cases ob with
      | lst ws => exact lst ws (by unfold lstAt; rw [z]) (Option.some.inj e).symm
      | frl ws => exact lst ws (by unfold lstAt; rw [z]) (Option.some.inj e).symm
      | dct kvs =>
        cases e
        obtain ⟨ks, e1, r1, _⟩ := dct_ S z
        refine .inr ⟨ρ n, ks, rfl, e1, ?_⟩
        rw [r1.len]
        exact o.pure S _ (by unfold Rp; rfl)
      | _ => cases e
/-! abs, min, max, sum, int -/
def rAbsM : List V → Hp → VK → Prop := fun xs H Q => ∃ i, xs = [V.int i] ∧ Q (.int (if i < 0 then -i else i)) H
theorem bi_abs : BiOk B W_ .abs rAbsM := by
  intro ρ h H σ ws xs Q S r o
  obtain ⟨u, e, o⟩ := bi_out S o
  match ws, r, e with
  | [.int i], r, e =>
    obtain ⟨v, rfl, rv⟩ := r.one_
    cases e
    exact ⟨i, by rw [rv.int_], o.pure S _ (by unfold Rp; rfl)⟩
theorem lst_ints {ρ : Nat → Addr} {h : AH} {H : Hp} {n : Nat} {ws : List W} {is : List Int} (S : Sim B ρ h H) (e : lstAt h n = some ws) (ei : intsOf ws = some is) : SqL B.K H (ρ n) (is.map V.int) := by
  obtain ⟨_, xs, t, r⟩ := lstAt_ S e
  rw [ints_ ei r] at t
  exact t
def rMinM (K : PySem.W.Frag) : List V → Hp → VK → Prop := fun xs H Q => (∃ i j, xs = [V.int i, V.int j] ∧ Q (.int (if j < i then j else i)) H) ∨ rMin K xs H Q
theorem bi_min : BiOk B W_ .min (rMinM B.K) := by
  intro ρ h H σ ws xs Q S r o
  obtain ⟨u, e, o⟩ := bi_out S o
  match ws, r, e with
  | [.int i, .int j], r, e =>
    obtain ⟨v, v2, rfl, rv, rv2⟩ := r.two_
    cases e
    exact .inl ⟨i, j, by rw [rv.int_, rv2.int_], o.pure S _ (by unfold Rp; rfl)⟩
  | [.loc n], r, e =>
    obtain ⟨v, rfl, rv⟩ := r.one_
    obtain ⟨hl, ev⟩ := rv.loc_
    subst ev
    unfold biH at e
    dsimp only at e
    cases el : lstAt h n with
    | none => rw [el] at e; cases e
    | some ws =>
      rw [el] at e
      dsimp only at e
      cases ei : intsOf ws with
      | none => rw [ei] at e; cases e
      | some is =>
        rw [ei] at e
        cases is with
        | nil => cases e
        | cons i t =>
          cases e
          refine .inr ⟨ρ n, i :: t, rfl, lst_ints S el ei, by rw [List.length_cons]; omega, fun m hm hy => ?_⟩
          obtain ⟨h1, h2, h3⟩ := minI_spec t i
          have e2 : m = minI i t := by
            have a1 : m ≤ minI i t := by
              rcases h1 with h1 | h1
              · rw [h1]; exact hy i List.mem_cons_self
              · exact hy _ (List.mem_cons_of_mem _ h1)
            have a2 : minI i t ≤ m := by
              rcases List.mem_cons.mp hm with z | z
              · rw [z]; exact h2
              · exact h3 m z
            omega
          rw [e2]
          exact o.pure S _ (by unfold Rp; rfl)
def rMaxM (K : PySem.W.Frag) : List V → Hp → VK → Prop := fun xs H Q => (∃ i j, xs = [V.int i, V.int j] ∧ Q (.int (if j > i then j else i)) H) ∨ rMax K xs H Q
theorem bi_max : BiOk B W_ .max (rMaxM B.K) := by
  intro ρ h H σ ws xs Q S r o
  obtain ⟨u, e, o⟩ := bi_out S o
  match ws, r, e with
  | [.int i, .int j], r, e =>
    obtain ⟨v, v2, rfl, rv, rv2⟩ := r.two_
    cases e
    exact .inl ⟨i, j, by rw [rv.int_, rv2.int_], o.pure S _ (by unfold Rp; rfl)⟩
  | [.loc n], r, e =>
    obtain ⟨v, rfl, rv⟩ := r.one_
    obtain ⟨hl, ev⟩ := rv.loc_
    subst ev
    unfold biH at e
    dsimp only at e
    cases el : lstAt h n with
    | none => rw [el] at e; cases e
    | some ws =>
      rw [el] at e
      dsimp only at e
      cases ei : intsOf ws with
      | none => rw [ei] at e; cases e
      | some is =>
        rw [ei] at e
        cases is with
        | nil => cases e
        | cons i t =>
          cases e
          refine .inr ⟨ρ n, i :: t, rfl, lst_ints S el ei, by rw [List.length_cons]; omega, fun m hm hy => ?_⟩
          obtain ⟨h1, h2, h3⟩ := maxI_spec t i
          have e2 : m = maxI i t := by
            have a1 : maxI i t ≤ m := by
              rcases h1 with h1 | h1
              · rw [h1]; exact hy i List.mem_cons_self
              · exact hy _ (List.mem_cons_of_mem _ h1)
            have a2 : m ≤ maxI i t := by
              rcases List.mem_cons.mp hm with z | z
              · rw [z]; exact h2
              · exact h3 m z
            omega
          rw [e2]
          exact o.pure S _ (by unfold Rp; rfl)
theorem bi_sum : BiOk B W_ .sum (rSum B.K) := by
  intro ρ h H σ ws xs Q S r o
  obtain ⟨u, e, o⟩ := bi_out S o
  match ws, r, e with
  | [.loc n], r, e =>
    obtain ⟨v, rfl, rv⟩ := r.one_
    obtain ⟨hl, ev⟩ := rv.loc_
    subst ev
    unfold biH at e
    dsimp only at e
    cases el : lstAt h n with
    | none => rw [el] at e; cases e
    | some ws =>
      rw [el] at e
      dsimp only at e
      cases ei : intsOf ws with
      | none => rw [ei] at e; cases e
      | some is =>
        rw [ei] at e
        cases e
        exact ⟨ρ n, is, rfl, lst_ints S el ei, o.pure S _ (by unfold Rp; rfl)⟩
theorem bi_all : BiOk B W_ .all (rAll B.K) := by
  intro ρ h H σ ws xs Q S r o
  obtain ⟨u, e, o⟩ := bi_out S o
  match ws, r, e with
  | [.loc n], r, e =>
    obtain ⟨v, rfl, rv⟩ := r.one_
    obtain ⟨hl, ev⟩ := rv.loc_
    subst ev
    unfold biH at e
    dsimp only at e
    cases el : lstAt h n with
    | none => rw [el] at e; cases e
    | some ws =>
      rw [el] at e
      dsimp only at e
      cases ei : blsOf ws with
      | none => rw [ei] at e; cases e
      | some is =>
        rw [ei] at e
        cases e
        obtain ⟨_, xs, t, r⟩ := lstAt_ S el
        rw [bls_ ei r] at t
        exact ⟨ρ n, is, rfl, t, o.pure S _ (by unfold Rp; rfl)⟩
theorem bi_any : BiOk B W_ .any (rAny B.K) := by
  intro ρ h H σ ws xs Q S r o
  obtain ⟨u, e, o⟩ := bi_out S o
  match ws, r, e with
  | [.loc n], r, e =>
    obtain ⟨v, rfl, rv⟩ := r.one_
    obtain ⟨hl, ev⟩ := rv.loc_
    subst ev
    unfold biH at e
    dsimp only at e
    cases el : lstAt h n with
    | none => rw [el] at e; cases e
    | some ws =>
      rw [el] at e
      dsimp only at e
      cases ei : blsOf ws with
      | none => rw [ei] at e; cases e
      | some is =>
        rw [ei] at e
        cases e
        obtain ⟨_, xs, t, r⟩ := lstAt_ S el
        rw [bls_ ei r] at t
        exact ⟨ρ n, is, rfl, t, o.pure S _ (by unfold Rp; rfl)⟩
def rIntM : List V → Hp → VK → Prop := fun xs H Q => (∃ i, xs = [V.int i] ∧ Q (.int i) H) ∨ ∃ k, xs = [V.bl k] ∧ Q (.int (if k then 1 else 0)) H
theorem bi_int : BiOk B W_ .int rIntM := by
  intro ρ h H σ ws xs Q S r o
  obtain ⟨u, e, o⟩ := bi_out S o
  match ws, r, e with
  | [.int i], r, e =>
    obtain ⟨v, rfl, rv⟩ := r.one_
    cases e
    exact .inl ⟨i, by rw [rv.int_], o.pure S _ (by unfold Rp; rfl)⟩
  | [.bl i], r, e =>
    obtain ⟨v, rfl, rv⟩ := r.one_
    cases e
    exact .inr ⟨i, by rw [rv.bl_], o.pure S _ (by unfold Rp; rfl)⟩
/-! list, tuple, dict -/
def rListM (K : PySem.W.Frag) : List V → Hp → VK → Prop := fun xs H Q => ∃ p ys, xs = [V.ref p] ∧ (SqL K H p ys ∨ SqT K H p ys) ∧ ∀ l, H l = none → Q (.ref l) (upd H l (.lst ys))
theorem bi_list : BiOk B W_ .list (rListM B.K) := by
  intro ρ h H σ ws xs Q S r o
  obtain ⟨u, e, o⟩ := bi_out S o
  match ws, r, e with
  | [.tup ws], r, e =>
    obtain ⟨v, rfl, rv⟩ := r.one_
    cases e
    obtain ⟨a1, xs, e1, t1, r1⟩ := rv.tup_
    subst e1
    exact ⟨a1, xs, rfl, .inr t1, fun p hp => outAlloc (u := .lst xs) o S (fun _ z => by cases z) hp fun ρ' H' x' z => ⟨_, z, r1.ext x' S⟩⟩
  | [.loc n], r, e =>
    obtain ⟨v, rfl, rv⟩ := r.one_
    obtain ⟨hl, ev⟩ := rv.loc_
    subst ev
    unfold biH at e
    dsimp only at e
    cases el : lstAt h n with
    | none => rw [el] at e; cases e
    | some ws =>
      rw [el] at e
      cases e
      obtain ⟨_, xs, t, r1⟩ := lstAt_ S el
      exact ⟨ρ n, xs, rfl, .inl t, fun p hp => outAlloc (u := .lst xs) o S (fun _ z => by cases z) hp fun ρ' H' x' z => ⟨_, z, r1.ext x' S⟩⟩
def rTupM (K : PySem.W.Frag) : List V → Hp → VK → Prop := fun xs H Q => ∃ p ys, xs = [V.ref p] ∧ ((SqL K H p ys ∧ NewT H ys Q) ∨ (SqT K H p ys ∧ Q (.ref p) H))
theorem bi_tuple : BiOk B W_ .tuple (rTupM B.K) := by
  intro ρ h H σ ws xs Q S r o
  obtain ⟨u, e, o⟩ := bi_out S o
  match ws, r, e with
  | [.tup ws], r, e =>
    obtain ⟨v, rfl, rv⟩ := r.one_
    cases e
    have rv0 := rv
    obtain ⟨a1, xs, e1, t1, r1⟩ := rv.tup_
    subst e1
    exact ⟨a1, xs, rfl, .inr ⟨t1, o.pure S _ rv0⟩⟩
  | [.loc n], r, e =>
    obtain ⟨v, rfl, rv⟩ := r.one_
    obtain ⟨hl, ev⟩ := rv.loc_
    subst ev
    unfold biH at e
    dsimp only at e
    cases el : lstAt h n with
    | none => rw [el] at e; cases e
    | some ws =>
      rw [el] at e
      cases e
      obtain ⟨_, xs, t, r1⟩ := lstAt_ S el
      have fin : ∀ ρ' H', Sim B ρ' h H' → Ext ρ h H ρ' h H' → ∀ v, Rp B ρ' h.length H' (.tup ws) v → Q v H' := o
      exact ⟨ρ n, xs, rfl, .inl ⟨t, outTup S r1 fin⟩⟩
def rDictM (K : PySem.W.Frag) : List V → Hp → VK → Prop := fun xs H Q => (∃ (a : Addr) (kvs : List (Key × V)), xs = [.ref a] ∧ Rd H a (.dK kvs) ∧ ∀ p, H p = none → Q (.ref p) (upd H p (.dK kvs))) ∨
  (∃ (a : Addr) (ps : List Addr) (kvs : List (Key × V)), xs = [.ref a] ∧ SqL K H a (ps.map V.ref) ∧ Paired (fun p kv => SqT K H p [kV kv.1, kv.2]) ps kvs ∧ ∀ p, H p = none → Q (.ref p) (upd H p (.dK (mergeK [] kvs))))
theorem pairsOf_cons {w : W} {t : List W} {kvs : List (W × W)} (e : pairsOf (w :: t) = some kvs) : ∃ k v kv2, w = .tup [k, v] ∧ isKey k = true ∧ pairsOf t = some kv2 ∧ kvs = (k, v) :: kv2 := by
  match w, e with
  | .tup [k, v], e =>
    have e : (if isKey k then (pairsOf t).map ((k, v) :: ·) else none) = some kvs := e
    split at e
    · rename_i g
      obtain ⟨kv2, e2, e3⟩ := Option.map_eq_some_iff.mp e
      exact ⟨k, v, kv2, rfl, g, e2, e3.symm⟩
    · cases e
theorem pairs_ {ρ : Nat → Addr} {H : Hp} {L : Nat} (ws : List W) : ∀ {kvs : List (W × W)} {xs : List V}, pairsOf ws = some kvs → Rps B ρ L H ws xs →
    ∃ (ps : List Addr) (ks : List (Key × V)), xs = ps.map V.ref ∧ Paired (fun p kv => SqT B.K H p [kV kv.1, kv.2]) ps ks ∧ RpD B ρ L H kvs ks := by
  induction ws with
  | nil => intro kvs xs e r; cases e; rw [r.nil_]; exact ⟨[], [], rfl, .nil, by unfold RpD; trivial⟩
  | cons w t ih =>
    intro kvs xs e r
    obtain ⟨y, q, rfl, a, b⟩ := r.cons_
    obtain ⟨k, v, kv2, ew, g, e2, e3⟩ := pairsOf_cons e
    subst ew e3
    obtain ⟨p, zs, e4, t4, r4⟩ := a.tup_
    subst e4
    obtain ⟨v1, v2, rfl, r5, r6⟩ := r4.two_
    obtain ⟨yk, rk, ex⟩ := key_of_ g r5
    obtain ⟨ps, ks, e7, p7, r7⟩ := ih e2 b
    subst ex e7
    exact ⟨p :: ps, (yk, v2) :: ks, rfl, .cons t4 p7, by unfold RpD; exact ⟨rk, r6, r7⟩⟩
theorem bi_dict : BiOk B W_ .dict (rDictM B.K) := by
  intro ρ h H σ ws xs Q S r o
  obtain ⟨u, e, o⟩ := bi_out S o
  match ws, r, e with
  | [.loc n], r, e =>
    obtain ⟨v, rfl, rv⟩ := r.one_
    obtain ⟨hl, ev⟩ := rv.loc_
    subst ev
    unfold biH at e
    dsimp only at e
    cases z : h[n]? with
    | none => rw [z] at e; cases e
    | some ob =>
      rw [z] at e
      cases ob with
      | lst ws =>
        dsimp only at e
        cases ep : pairsOf ws with
        | none => rw [ep] at e; cases e
        | some kvs =>
          rw [ep] at e
          cases e
          obtain ⟨xs, e1, r1⟩ := S.obj n _ z
          obtain ⟨ps, ks, e2, p2, r2⟩ := pairs_ _ ep r1
          subst e2
          obtain ⟨r3, nd⟩ := merge_ (kvs := []) (ks := []) r2 (by unfold RpD; trivial) List.nodup_nil
          exact .inr ⟨ρ n, ps, ks, rfl, SqL.of e1, p2, fun p hp => outAlloc (u := .dK (mergeK [] ks)) o S (fun _ z => by cases z) hp fun ρ' H' x' z => ⟨_, z, RpD.ext x' S _ r3, nd⟩⟩
      | dct kvs =>
        cases e
        obtain ⟨ks, e1, r1, nd⟩ := dct_ S z
        exact .inl ⟨ρ n, ks, rfl, .inl e1, fun p hp => outAlloc (u := .dK ks) o S (fun _ z => by cases z) hp fun ρ' H' x' z => ⟨_, z, RpD.ext x' S _ r1, nd⟩⟩
      | _ => cases e
end
end MI
set_option maxHeartbeats 800000
/-! MG: a def's promise where no text of a value is being made around it (the model's guards). -/
namespace MI
open PySem PySem.Spec PyProof.Rows L2
/-- what a def keeps, called where no guard stands -/
structure FnG (P : Program) (w : World) (K : PySem.W.Frag) (mg : PySem.Str → Option Value) (base : Heap) (CX : CXT) (k : Nat) (f : Addr) (fd : FuncData) (ps : List PySem.Str) (sp : Sp) : Prop where
  ln : ∀ vs H Q E, sp vs H Q E → vs.length = ps.length
  go : ∀ A : Around, A.guards = some [] → Room k A → ∀ (outer : List PySem.Env) (s : Shared) (H : Hp), Env0 P w K mg base A outer s H → ∀ (ar : Args) (us : List Value) (vs : List V), BindsTo s fd ar (ps.zip us) → Vals vs us → ∀ (Q : VK) (E : XK), sp vs H Q E → codeAny (model P w) A (.call (.ref f) ar) (CR CX outer P w H s Q E) s
section
variable {P : Program} {w : World} {K : PySem.W.Frag} {mg : PySem.Str → Option Value} {base : Heap} {CX : CXT} {k : Nat} {f : Addr} {fd : FuncData} {ps : List PySem.Str} {sp sp' : Sp}
theorem FnG.narrow (F : FnG P w K mg base CX k f fd ps sp) (h : ∀ vs H Q E, sp' vs H Q E → sp vs H Q E) : FnG P w K mg base CX k f fd ps sp' :=
  { ln := fun vs H Q E q => F.ln vs H Q E (h _ _ _ _ q), go := fun A g r o s H e ar us vs b v Q E q => F.go A g r o s H e ar us vs b v Q E (h _ _ _ _ q) }
end
/-! a call -/
section
variable {X : Cx} {CX : CXT} {k : Nat} {f : Addr} {fd : FuncData} {ps : List PySem.Str} {sp : Sp} {E : L2.St → XK} {x : PySem.Str} {p pos : Pos} {e : Expr} {es : List Expr} {t : TA}
theorem pe_callG (F : FnG X.prog X.w X.K X.mg X.base CX k f fd ps sp) (gd : X.A.guards = some []) (hr : Room k X.A) (hg : Gl X x) (hm : X.mg x = some (.ref f)) (hk : PySem.W.keepIn X.K (.ref f) = true) (hb : Binds X.K fd ps []) (hx : ∀ σ, PassesAt CX X σ (E σ)) (ha : PA X (e :: es) t)
    (hdb : (x == ("__debug__" : PySem.Str)) = false) (h1 : starEach (e :: es) X.env = (false, eval e X.env) :: starEach es X.env) (h2 : (backTo pos (starEach es X.env)).any (·.1) = false) : PE X (.Call (.Name x p) (e :: es) [] pos) (tCallS sp E t) := by
  constructor
  intro pins s σ H Q I h
  have key : wpAny (model X.prog X.w) X.A (spliced (backTo pos (starEach (e :: es) X.env))) (fun us s1 => X.K.In s1.heap ∧ wpAny (model X.prog X.w) X.A (call (.ref f) us) (EP X pins σ Q) X.xe s1) X.xe s := by
    refine thn (ha.run pos pins s σ H _ I h) ?_
    rintro us s1 ⟨vs, H1, J, rv, q⟩
    refine ⟨J.kIn, ?_⟩
    have lu : us.length = ps.length := by rw [← rv.length, F.ln _ _ _ _ q]
    have bt := hb s1 us J.kIn (by rw [List.append_nil, lu])
    rw [List.append_nil] at bt
    have run := F.go X.A gd hr X.stack s1 H1 J.env0 ⟨us, []⟩ us vs bt rv Q (E σ) q
    apply wpAny_call
    refine codeAny_mono run ?_
    rintro (ev | fl) s2 z
    · exact hx σ pins H1 s1 ev s2 J z
    · match fl, z with
      | .ret u, z => exact J.after z
  refine wpAny_Call_Name_kw (ld_glob I hg hm ?_ hdb)
  exact PySem.W.callWith_K (h₀ := X.base) I.ok.mod.kin hk key h1 h2
end
/-! a def -/
section
variable {P : Program} {w : World} {K : PySem.W.Frag} {mg : PySem.Str → Option Value} {base : Heap} {x qual : PySem.Str} {params : Arguments} {body : List Stmt} {scope : Scope} {dvs : List V} {kws : List (PySem.Str × V)} {f : Addr} {fd : FuncData} {CX : CXT} {N ps : List PySem.Str} {k : Nat} {sp : Sp}
theorem fnG_of (D : FunD K x qual params body scope dvs kws f fd) (S : FnScope N ps scope) (ln : ∀ vs H Q E, sp vs H Q E → vs.length = ps.length)
    (hb : ∀ (cdv : Value) (A : Around) (outer : List PySem.Env) (s : Shared) (H : Hp) (vs : List V) (Q : VK) (E : XK), A.guards = some [] → Room k (A.deeper (envOfC qual scope s.heap.objs.size f cdv)) → sp vs H Q E →
      ∃ t, PSs (cxOf CX P w K mg base N qual scope f cdv A outer s H E) body t ∧ t { nx := fun _ H' => Q .non H', rt := Q } (start N vs) H) : FnG P w K mg base CX (k + 1) f fd ps sp := by
  obtain ⟨oc, od, dV, kV, doc, pm, an, cdv, ct, osl, efd, lk, hcd, _, _⟩ := D.ex
  subst efd
  refine { ln := ln, go := ?_ }
  intro A gd hr outer s H e0 ar us vs bt rv Q E q
  have inK : K.In s.heap := e0.mod.kin.keeps fun b o eb => (e0.bs b o eb).1
  have cells : ∀ y ∈ ps.zip us, scope.names.lookup y.1 = some .local ∨ (scope.names.lookup y.1 = some .cell ∧ ((cellsFrom (s.heap.objs.size + 1) scope.names []).lookup y.1).isSome = true) := by
    intro y hy
    have hy1 := (List.of_mem_zip (a := y.1) (b := y.2) hy).1
    refine (S.par y.1 hy1).imp id fun c => ⟨c, ?_⟩
    exact PySem.W.cellsFrom_some _ _ _ (.inl c)
  obtain ⟨t, ht, tq⟩ := hb cdv A outer s H vs Q E gd (hr.deeper _) q
  refine codeAny_call_function hr.depth (inK _ _ lk) rfl S.co S.gen rfl (PySem.W.codeRec_of inK hcd) (bt _ _ _ _ ?_)
  refine wpAny_newFunctionEnv_cells S.kind cells ?_
  intro env he s1 ic
  subst he
  have nl : s.heap.NoLimit := e0.mod.nolimit.keeps fun b o eb => (e0.bs b o eb).1
  refine ⟨nl.keeps ic.toInCall.keep, ?_⟩
  apply codeAny_func
  have J := inv_start (CX := CX) (E := E) (cd := cdv) (f := f) (qual := qual) S hr.hd e0 (ln _ _ _ _ q) rv ic
  refine wpAny_mono (ht.run [] s1 (start N vs) H _ J tq) ?_ fun _ _ z => z
  intro fl s2 z
  have ce : ∀ {σ2 : L2.St} {H2 : Hp} {v : V} {u : Value}, Inv (cxOf CX P w K mg base N qual scope f cdv A outer s H E) [] σ2 H2 s2 → RelV v u → Q v H2 → CE outer P w H s Q u s2 := by
    intro σ2 H2 v u J2 rv2 q2
    exact ⟨v, H2, J2.os, J2.bare, J2.base, J2.hok, rv2, q2⟩
  cases fl
  · obtain ⟨σ2, H2, J2, q2⟩ := z
    exact ce (v := .non) (u := .none) J2 rfl q2
  · obtain ⟨_, _, _, q2⟩ := z; exact q2.elim
  · obtain ⟨_, _, _, q2⟩ := z; exact q2.elim
  · obtain ⟨v, σ2, H2, J2, rv2, q2⟩ := z; exact ce J2 rv2 q2
end
/-! the law's call -/
section
variable {P : Program} {w : World} {K : PySem.W.Frag} {mg mb : PySem.Str → Option Value} {a : Addr} {s : Shared} {vs : List Value} {ns : List Int} {H : Hp}
/-- the head's surroundings, where at most the script at a is tracked -/
theorem head_env (KX : K.In s.heap) (hn : s.heap.Ns mainGlobals mg) (hm : s.heap.Ns builtinsNs mb) (hb : ∀ x : PySem.Str, x ≠ "__name__" → mb x = bootBuiltins x) (lim : s.heap.NoLimit) (hg : s.gens = #[])
    (ha : s.heap.get? a = some { cls := .type "list", data := .seq vs.toArray }) (ok : HOk P w H s.heap) (one : ∀ b, b ≠ a → H b = none) (apart : H a = none ∨ K.lookup a = none) :
    K.In (hidT s.heap H) ∧ (hidT s.heap H).Ns mainGlobals mg ∧ Env0 P w K mg (hidT s.heap H) callerA [] s H := by
  have free : ∀ b o, s.heap.get? b = some o → (∀ z : b = a, H a = none ∨ ∃ es ep, o.data = .dict es ep) → H b = none := by
    intro b o eo hz
    by_cases z : b = a
    · rcases hz z with h0 | ⟨es, ep, ed⟩
      · rw [z]; exact h0
      · exfalso
        rw [z, ha] at eo
        cases eo
        cases ed
    · exact one b z
  have names : ∀ {D : Addr} {m : PySem.Str → Option Value}, s.heap.Ns D m → (hidT s.heap H).Ns D m := by
    rintro D m ⟨o, es, ep, eo, ed, rd⟩
    exact ⟨o, es, ep, hidT_get eo (free D o eo fun _ => .inr ⟨es, ep, ed⟩), ed, rd⟩
  have kin : K.In (hidT s.heap H) := by
    intro b o eb
    refine hidT_get (KX b o eb) (free b o (KX b o eb) fun z => ?_)
    rcases apart with h0 | h0
    · exact .inl h0
    · rw [z, h0] at eb; cases eb
  obtain ⟨ml, l1, l2⟩ := lim
  have md : Mod K mg (hidT s.heap H) := ⟨kin, names hn, ⟨mb, names hm, hb⟩, ml, names l1, l2⟩
  exact ⟨kin, names hn, { frames := rfl, mod := md, bs := fun b o eb => of_hidT eb, bsz := by rw [hidT_size]; exact Nat.le_refl _, funs := trivial, frf := fun b z => (nomatch z), hok := ok, bare := .of_eq hg }⟩
variable {CX : CXT} {k : Nat} {fa : Addr} {fd : FuncData} {x : PySem.Str} {sp : Sp}
/-- what is due of the law's call -/
def Due (s : Shared) (r : Result) (s' : Shared) : Prop := r = .ok (.ret (.bool true)) ∧ OldK s.heap s'.heap ∧ s'.os = s.os ∧ AllBare s'.gens
theorem due_of {base : Heap} (F : FnG P w K mg base CX k fa fd [x] sp) (hr : Room k callerA) (e0 : Env0 P w K mg base callerA [] s H) (hb : ∀ (s : Shared) (u : Value), BindsTo s fd ⟨[u], []⟩ [(x, u)]) (only : Only H)
    (q : sp [.ref a] H (fun v _ => v = .bl true) fun _ _ _ => False) (hCX : ∀ e s', CX [] H s (fun _ _ _ => False) e s' → False) : codeAny (model P w) callerA (.call (.ref fa) ⟨[.ref a], []⟩) (Due s) s := by
  have run := F.go callerA rfl hr [] s H e0 ⟨[.ref a], []⟩ [.ref a] [.ref a] (hb s _) (.cons rfl .nil) _ _ q
  refine codeAny_mono run ?_
  rintro (ev | fl) s2 z
  · exact (hCX ev s2 z).elim
  · match fl, z with
    | .ret u, ⟨v, H2, os, bare, un, ok2, rv, ev⟩ =>
      have ev : v = .bl true := ev
      subst ev
      have eu : u = Value.bool true := rv
      subst eu
      refine ⟨rfl, .of_keep ?_, os, bare⟩
      intro b o eb
      rcases only b with h0 | ⟨ob, xs, h0⟩
      · exact un.keep b o eb h0 (fun z => nomatch z) (fun z => nomatch z)
      · have h2 := un.frzs b ob _ h0
        have g1 := (e0.hok b _ h0).1
        have g2 := (ok2 b _ h2).1
        rw [eb] at g1
        rw [Option.some.inj g1]
        exact g2
/-- a law by its def's promise -/
theorem walk_ofG {l : PySem.W.OpenLaw} {n k : Nat} {q : Program} {loose : List PySem.Str} {XP : (PySem.Str → Option Value) → Heap → Prop} {YP : World → Heap → Prop} {d : DefRec} {CX : CXT} {x : PySem.Str} (hn : l.most = some n) (hn2 : n ≤ sizeLine) (hdf : d.params.defaults = []) (hr : Room k callerA)
    (F : ∀ (w : World) (mg : PySem.Str → Option Value) (fa : Addr) (h : Heap), YP w h → h.Ns mainGlobals mg → mg d.name = some (.ref fa) → ∃ (K : PySem.W.Frag) (fd : FuncData) (sp : Sp), K.In h ∧ (∀ (s : Shared) (u : Value), BindsTo s fd ⟨[u], []⟩ [(x, u)]) ∧
      (∀ (H : Hp) (a : Addr) (ns : List Int), ns.length ≤ n → Only H → SqL K H a (ns.map V.int) → sp [.ref a] H (fun v _ => v = .bl true) fun _ _ _ => False) ∧ ∀ base : Heap, K.In base → base.Ns mainGlobals mg → FnG l.prog w K mg base CX k fa fd [x] sp)
    (hCX : ∀ (H : Hp) (s : Shared) (e : Value) (s' : Shared), CX [] H s (fun _ _ _ => False) e s' → False) : PySem.W.WalkO q loose XP YP l.row.toRowW d [] (fun f vs => PySem.call f vs) := by
  apply Att.attach_call hn hdf
  intro w s0 s1 mg mb fa o pm cd doc a vs ns G Y ho hd hcd hmg hobj hints hlen hg
  obtain ⟨K, fd, sp, KX, hb, hsp, hF⟩ := F w mg fa _ Y G.T.g hmg
  have rv := vals_ints hints
  have lv : vs.length = ns.length := hints.length
  have fin : ∀ H : Hp, Only H → SqL K H a (ns.map V.int) → HOk l.prog w H s1.heap → (∀ b, b ≠ a → H b = none) → H a = none ∨ K.lookup a = none → codeAny (model l.prog w) callerA (.call (.ref fa) ⟨[.ref a], []⟩) (Due s1) s1 := by
    intro H hO hS ok one ap
    obtain ⟨k1, k2, e0⟩ := head_env (H := H) KX G.T.g G.T.b G.T.builtins G.T.nolimit hg hobj ok one ap
    exact due_of (hF _ k1 k2) hr e0 hb hO (hsp H a ns hlen hO hS) fun e s' => hCX H s1 e s'
  cases hk : K.lookup a with
  | some ob =>
    have eb := KX a ob hk
    rw [hobj] at eb
    cases eb
    have sq : SqL K (fun _ => none) a (ns.map V.int) := .inr ⟨_, vs.toArray, _, hk, rfl, rfl, rfl, by rw [List.size_toArray, lv]; omega, by simpa using rv⟩
    exact fin (fun _ => none) (fun _ => .inl rfl) sq (fun b u z => nomatch z) (fun _ _ => rfl) (.inl rfl)
  | none =>
    have at_a : (fun b => if b = a then some (HO.frz { cls := .type "list", data := .seq vs.toArray } (.lst (ns.map V.int))) else none : Hp) a = some (.frz { cls := .type "list", data := .seq vs.toArray } (.lst (ns.map V.int))) := if_pos rfl
    refine fin (fun b => if b = a then some (.frz { cls := .type "list", data := .seq vs.toArray } (.lst (ns.map V.int))) else none) ?_ (.inl (.inr ⟨_, at_a⟩)) ?_ ?_ (.inr hk)
    · intro b
      by_cases z : b = a
      · subst z; exact .inr ⟨_, _, at_a⟩
      · exact .inl (if_neg z)
    · intro b u eb
      by_cases z : b = a
      · subst z
        have e2 := at_a.symm.trans eb
        cases e2
        exact ⟨hobj, by rw [List.length_map]; omega, vs, _, rv, hobj⟩
      · have e2 := (if_neg z).symm.trans eb
        cases e2
    · exact fun b z => if_neg z
end
end MI
set_option maxHeartbeats 3200000
/-! MT: sets of the numbers in a list, sorted. -/
namespace MI
open PySem PySem.Spec PyProof.Rows L2
/-- a set that was just laid -/
abbrev bareSet (w : World) : Obj := { cls := .type "set", dict := none, data := .set #[] 0 (.fresh 0 0 (!w.params.followText "set-order")) }
section
variable {P : Program} {w : World} {A : Around} {E : Value → Shared → Prop} {s : Shared}
/-- what set.__init__ has to end in -/
def InitEnd (P : Program) (w : World) (A : Around) (S : Addr) (Q : Value → Shared → Prop) (E : Value → Shared → Prop) : Result → Shared → Prop := wants (fun r s2 => r = .none ∧ Q (.ref S) s2) E
theorem call_set1 {v : Value} {Q : Value → Shared → Prop}
    (go : wpAny (model P w) A.in1.in1 (Builtin.«set.__init__» ⟨[.ref s.heap.objs.size, v], []⟩) (fun fin s' => match fin with
        | .done f => InitEnd P w A s.heap.objs.size Q E (.ok f) s'
        | .again c => c.quiet = true ∧ codeAny (model P w) A.in1 c (InitEnd P w A s.heap.objs.size Q E) s') (fun e s' => InitEnd P w A s.heap.objs.size Q E (.error e) s') { s with heap := s.heap.push (bareSet w) }) :
    wpAny (model P w) A (call (.type "set") [v]) Q E s := by
  have ct := F.called_set
  obtain ⟨c, tl, hmro⟩ := ct.mro
  have m1 := ct.made; have m2 := ct.sub; have m3 := ct.notType; have m4 := ct.canCreate
  have m5 := F.typeCall_set_1 v
  apply wpAny_call
  apply codeAny_of_tree
  show wpAny _ _ (callAny (.type "set") _) _ _ _
  have qt : (Code.builtin "type.__call__" ⟨[.type "set", v], []⟩).quiet = true := Code.quiet_builtin _ (by decide +kernel)
  refine wpAny_pure ⟨qt, ?_⟩
  apply codeAny_builtin F.entry_type_call
  rw [Around.under_plain (weight_type_call_type "set" [v] []) rfl]
  repeat (any_goals (first | assumption | wp_step))
  refine codeAny_mono (code_set_led1 v (E := E) (Q₁ := fun ob s1 => ob = .ref s.heap.objs.size ∧ s1 = { s with heap := s.heap.push (bareSet w) }) ⟨rfl, rfl⟩) ?_
  rintro (ev | fl) s1 z
  · exact z
  · match fl, z with
    | .ret ob, ⟨e1, e2⟩ =>
      subst e1 e2
      have at_ : (s.heap.push (bareSet w)).get? s.heap.objs.size = some (bareSet w) := Heap.get?_push_size _ rfl
      have ty : Shared.TypeIs { s with heap := s.heap.push (bareSet w) } (.ref s.heap.objs.size) "set" := ⟨_, at_, rfl⟩
      have i1 := ct.init.lookup
      have i2 := ct.init.bind (.ref s.heap.objs.size)
      repeat (any_goals (first | assumption | wp_step))
      have run := codeAny_call_builtin (R := InitEnd P w A s.heap.objs.size Q E) ct.init.plain F.entry_set_init (check_set_init_1 ty go)
      refine codeAny_mono run ?_
      rintro (ev | fl) s2 z
      · exact z
      · match fl, z with
        | .ret r, ⟨er, hq⟩ =>
          subst er
          repeat (any_goals (first | assumption | wp_step))
theorem call_set_ints {l : Addr} {items : Array Value} {ns : List Int} {Q : Value → Shared → Prop} (hh : A.handled = none) (hl : s.heap.IsList l items) (hit : IntsAre items.toList ns) (hb : ns.length + 1 < scanBound)
    (h : ∀ (h' : Heap) (tk c : Nat), SetR w h' s.heap.objs.size (fun j => decide (j ∈ ns)) c → c ≤ ns.length → (∀ b o, s.heap.get? b = some o → h'.get? b = some o) → Q (.ref s.heap.objs.size) { s with heap := h', toks := tk }) :
    wpAny (model P w) A (call (.type "set") [.ref l]) Q E s := by
  have sz : items.size = ns.length := by have q := hit.length; rw [Array.length_toList] at q; exact q
  have ll : l < s.heap.objs.size := let ⟨_, e, _⟩ := hl; Heap.lt_size e
  obtain ⟨⟨ocls, odict, odata, oslots⟩, hol, hcl, nl, hdl⟩ := hl
  simp only at hcl hdl
  subst hcl hdl
  apply call_set1
  have up : ∀ b o, s.heap.get? b = some o → (s.heap.push (bareSet w)).get? b = some o := fun b o e => Heap.get?_push_of_some _ e
  have hol' := up _ _ hol
  have k1 := F.sub_list_set
  have k2 := F.sub_list_frozenset
  have k3 : (Value.type "list" == Value.type "dict") = false := by decide
  have hl1 : (s.heap.push (bareSet w)).IsList l items := ⟨_, hol', rfl, nl, rfl⟩
  have at_ : (s.heap.push (bareSet w)).get? s.heap.objs.size = some (bareSet w) := Heap.get?_push_size _ rfl
  unfold Builtin.«set.__init__» noKeywords Builtin.Frozenset.updateFrom
  generalize hPI : pyIter = PI
  wp_walk
  subst hPI
  apply wpAny_pyIter_list hl1
  apply wpAny_bind
  apply wpAny_runValue
  have ps : (s.heap.push (bareSet w)).objs.size = s.heap.objs.size + 1 := Heap.size_push ..
  have n1 : l ≠ (s.heap.push (bareSet w)).objs.size := by rw [ps]; exact Nat.ne_of_lt (Nat.lt_succ_of_lt ll)
  have n2 : s.heap.objs.size ∉ [(s.heap.push (bareSet w)).objs.size, l] := by
    rw [ps]
    intro z
    simp only [List.mem_cons, List.not_mem_nil, or_false] at z
    rcases z with z | z
    · exact Nat.ne_of_lt (Nat.lt_succ_self _) z
    · exact Nat.ne_of_gt ll z
  have val : ∀ (i : Nat) (v : Value), items[i]? = some v → ∃ k t, ns[i]? = some k ∧ v = .int k t := by
    intro i v hv
    obtain ⟨t, e⟩ := IntsAre.int_at hit i v (by rw [Array.getElem?_toList]; exact hv)
    have hi : i < ns.length := by rw [← sz]; exact (Array.getElem?_eq_some_iff.mp hv).1
    exact ⟨ns[i], t, List.getElem?_eq_getElem hi, by rw [e, List.getD_eq_getElem?_getD, List.getElem?_eq_getElem hi] <;> rfl⟩
  have hh3 : A.in1.in1.in1.handled = none := hh
  refine set_update_ints ((Walks.list hh3 _ l n1 items).toS) s.heap.objs.size n2 ns sz hb val (items.size - 0) 0 _ (by omega) (Nat.zero_le _) ⟨⟨_, Heap.get?_push_size _ rfl, rfl, rfl⟩, hl1.push _⟩ ?start ?stop
  case start => exact ⟨0, Nat.le_refl 0, setR_new_at (Heap.get?_push_of_some _ at_)⟩
  case stop =>
    rintro ⟨h', g2, d', tk', os'⟩ c' mv hc' hS'
    obtain rfl : g2 = s.gens := mv.gens
    obtain rfl : d' = s.drawn := mv.drawn
    obtain rfl : os' = s.os := mv.os
    show wpAny _ _ _ _ _ _
    apply wpAny_pure
    show wpAny _ _ (PySem.ret Value.none) _ _ _
    rw [sz] at hc'
    refine wpAny_pure ⟨rfl, h h' tk' c' hS' hc' ?_⟩
    intro b o e
    have b0 := Heap.lt_size e
    refine mv.heap b o ?_ (Heap.get?_push_of_some _ (up b o e))
    intro z
    simp only [List.mem_cons, List.not_mem_nil, or_false] at z
    rw [ps] at z
    rcases z with z | z
    · exact Nat.ne_of_lt b0 z
    · exact Nat.ne_of_lt (Nat.lt_succ_of_lt b0) z
end
end MI
namespace MI
open PySem PySem.Spec PyProof.Rows L2
/-! ### orders -/
theorem sorted_eq : ∀ {l l' : List Int}, l.Perm l' → l.Pairwise (· ≤ ·) → l'.Pairwise (· ≤ ·) → l = l'
  | [], l', p, _, _ => p.nil_eq
  | a :: r, [], p, _, _ => absurd p.length_eq (by simp)
  | a :: r, b :: q, p, h, h' => by
    obtain ⟨h1, h2⟩ := List.pairwise_cons.mp h
    obtain ⟨h3, h4⟩ := List.pairwise_cons.mp h'
    have ab : a = b := by
      have m1 : a ∈ b :: q := p.mem_iff.mp List.mem_cons_self
      have m2 : b ∈ a :: r := p.mem_iff.mpr List.mem_cons_self
      apply Int.le_antisymm
      · rcases List.mem_cons.mp m2 with e | e
        · omega
        · exact h1 b e
      · rcases List.mem_cons.mp m1 with e | e
        · omega
        · exact h3 a e
    subst ab
    rw [sorted_eq (List.Perm.cons_inv p) h2 h4]
theorem insI_perm (i : Int) : ∀ l : List Int, (insI i l).Perm (i :: l)
  | [] => .refl _
  | j :: r => by
    unfold insI
    split
    · exact .refl _
    · exact ((insI_perm i r).cons j).trans (.swap ..)
theorem insI_sorted (i : Int) : ∀ {l : List Int}, l.Pairwise (· ≤ ·) → (insI i l).Pairwise (· ≤ ·)
  | [], _ => List.pairwise_cons.mpr ⟨fun _ h => (nomatch h), .nil⟩
  | j :: r, h => by
    obtain ⟨h1, h2⟩ := List.pairwise_cons.mp h
    unfold insI
    split
    · rename_i c
      refine List.pairwise_cons.mpr ⟨fun x hx => ?_, h⟩
      rcases List.mem_cons.mp hx with e | e
      · omega
      · have := h1 x e; omega
    · rename_i c
      refine List.pairwise_cons.mpr ⟨fun x hx => ?_, insI_sorted i h2⟩
      rcases List.mem_cons.mp ((insI_perm i r).mem_iff.mp hx) with e | e
      · omega
      · exact h1 x e
theorem sortI_perm : ∀ l : List Int, (sortI l).Perm l
  | [] => .refl _
  | i :: r => by unfold sortI; exact (insI_perm i _).trans ((sortI_perm r).cons i)
theorem sortI_sorted : ∀ l : List Int, (sortI l).Pairwise (· ≤ ·)
  | [] => .nil
  | i :: r => by unfold sortI; exact insI_sorted i (sortI_sorted r)
theorem sortI_of {l ys : List Int} (p : ys.Perm l) (h : ys.Pairwise (· ≤ ·)) : ys = sortI l := sorted_eq (p.trans (sortI_perm l).symm) h (sortI_sorted l)
theorem dedupI_mem {x : Int} : ∀ {l : List Int}, x ∈ dedupI l ↔ x ∈ l
  | [] => .rfl
  | i :: r => by
    unfold dedupI
    split
    · rename_i c
      rw [dedupI_mem, List.mem_cons]
      refine ⟨.inr, fun z => z.elim (fun e => ?_) id⟩
      rw [e]; exact List.contains_iff_mem.mp c
    · rw [List.mem_cons, List.mem_cons, dedupI_mem]
theorem dedupI_nodup : ∀ l : List Int, (dedupI l).Nodup
  | [] => .nil
  | i :: r => by
    unfold dedupI
    split
    · exact dedupI_nodup r
    · rename_i c
      refine List.nodup_cons.mpr ⟨fun z => c (List.contains_iff_mem.mpr (dedupI_mem.mp z)), dedupI_nodup r⟩
theorem strict_eq : ∀ {l l' : List Int}, l.Pairwise (· < ·) → l'.Pairwise (· < ·) → (∀ k, k ∈ l ↔ k ∈ l') → l = l'
  | [], [], _, _, _ => rfl
  | [], b :: q, _, _, m => absurd ((m b).mpr List.mem_cons_self) List.not_mem_nil
  | a :: r, [], _, _, m => absurd ((m a).mp List.mem_cons_self) List.not_mem_nil
  | a :: r, b :: q, h, h', m => by
    obtain ⟨h1, h2⟩ := List.pairwise_cons.mp h
    obtain ⟨h3, h4⟩ := List.pairwise_cons.mp h'
    have ab : a = b := by
      rcases List.mem_cons.mp ((m a).mp List.mem_cons_self) with e | e
      · exact e
      · rcases List.mem_cons.mp ((m b).mpr List.mem_cons_self) with e2 | e2
        · exact e2.symm
        · have := h3 a e; have := h1 b e2; omega
    subst ab
    refine congrArg _ (strict_eq h2 h4 fun k => ⟨fun hk => ?_, fun hk => ?_⟩)
    · rcases List.mem_cons.mp ((m k).mp (List.mem_cons_of_mem _ hk)) with e | e
      · have := h1 k hk; omega
      · exact e
    · rcases List.mem_cons.mp ((m k).mpr (List.mem_cons_of_mem _ hk)) with e | e
      · have := h3 k hk; omega
      · exact e
theorem strict_of : ∀ {l : List Int}, l.Pairwise (· ≤ ·) → l.Nodup → l.Pairwise (· < ·)
  | [], _, _ => .nil
  | a :: r, h, n => by
    obtain ⟨h1, h2⟩ := List.pairwise_cons.mp h
    obtain ⟨n1, n2⟩ := List.nodup_cons.mp n
    refine List.pairwise_cons.mpr ⟨fun x hx => ?_, strict_of h2 n2⟩
    have := h1 x hx
    have : a ≠ x := fun e => n1 (by rw [e]; exact hx)
    omega
theorem sset_of {l ys : List Int} (h : ys.Pairwise (· < ·)) (m : ∀ k, k ∈ ys ↔ k ∈ l) : ys = sortI (dedupI l) :=
  strict_eq h (strict_of (sortI_sorted _) ((sortI_perm _).nodup_iff.mpr (dedupI_nodup l))) fun k => by rw [m, (sortI_perm _).mem_iff, dedupI_mem]
section
variable {B : Bs} {X : Cx} {W_ : WX}
theorem Rps_ints {ρ : Nat → Addr} {H : Hp} {L : Nat} : ∀ l : List Int, Rps B ρ L H (l.map W.int) (l.map V.int)
  | [] => by unfold Rps; trivial
  | i :: r => by rw [List.map_cons, List.map_cons]; unfold Rps; exact ⟨by unfold Rp; rfl, Rps_ints r⟩
theorem keys_ints {ρ : Nat → Addr} {H : Hp} {L : Nat} : ∀ {kvs : List (W × W)} {ks : List (Key × V)} {is : List Int}, RpD B ρ L H kvs ks → intsOf (kvs.map fun q => q.1) = some is → ks.map (fun q => q.1) = is.map Sum.inl
  | [], [], is, _, e => by cases e; rfl
  | [], _ :: _, _, r, _ => by unfold RpD at r; exact r.elim
  | (_, _) :: _, [], _, r, _ => by unfold RpD at r; exact r.elim
  | (k, v) :: r, (y, x) :: q, is, rr, e => by
    unfold RpD at rr
    obtain ⟨r1, r2, r3⟩ := rr
    cases k with
    | int i =>
      obtain ⟨is2, e2, e3⟩ := Option.map_eq_some_iff.mp (show (intsOf (r.map fun q => q.1)).map (i :: ·) = some is from e)
      subst e3
      cases y with
      | inl j =>
        have : j = i := r1
        rw [List.map_cons, List.map_cons, keys_ints r3 e2, this]
      | inr _ => exact r1.elim
    | _ => cases e
/-! ### sorted -/
section
theorem call_sortedDIa (hcalm : X.calm = true) : CallR X (.builtin "sorted") (fun xs H Q => ∃ (a : Addr) (kvs : List (Key × V)) (ks : List Int), xs = [.ref a] ∧ Rd H a (.dK kvs) ∧ kvs.map (·.1) = ks.map Sum.inl ∧ ks.length < 4096 ∧
    ∀ (ys : List Int) (p : Addr), ys.Perm ks → ys.Pairwise (· ≤ ·) → H p = none → Q (.ref p) (upd H p (.lst (ys.map V.int)))) := by
  intro pins s σ H xs us Q I r q
  obtain ⟨a, kvs, ks, ex, hd, hks, h64, q⟩ := q
  subst ex
  obtain ⟨u, eu, rx⟩ := vals1 r
  subst eu
  cases rx
  obtain ⟨z, lo, vs, rel, dd⟩ := dk_rd I.hok hd
  obtain ⟨ep, hat⟩ := dd.dictAt
  have hkeys : vs.map (·.1) = ks.map Sum.inl := rel.keys.symm.trans hks
  have hl : vs.length = ks.length := by
    have e := congrArg List.length hkeys
    rw [List.length_map, List.length_map] at e
    exact e
  have h16 : vs.length ≤ sizeLine := by rw [hl, sizeLine_eq]; omega
  refine Calls.call_function_entry PyProof.Rows.kind_sorted PyProof.Rows.plain_sorted PyProof.Rows.entry_sorted (PyProof.Rows.args_sorted1 _) ?_
  unfold Builtin.«sorted»
  refine wpAny_bind (m := checkCount "sorted" 1 1 _) (wpAny_pure ?_)
  refine wpAny_bind (PySem.W.kdu_collect (A := X.A.in1) (PySem.W.kdl_dict (knd := mixKind X.prog X.w) (kvs := vs) (ep := ep) lo) (I.ok.hd hcalm) hat h16 fun h' tk acc hk hacc => ?_)
  have hal : acc.toList.length = ks.length := by rw [Array.length_toList, hacc.1, hl]
  have hS : IntsAre acc.toList ks := ints_each hal fun j v e => by
    obtain ⟨k, x, e1, e2⟩ := hacc.2 j v (by rw [← Array.getElem?_toList]; exact e)
    have e3 : (vs.map (·.1))[j]? = some k := by rw [List.getElem?_map, e1]; rfl
    rw [hkeys, List.getElem?_map] at e3
    cases e4 : ks[j]? with
    | none => rw [e4] at e3; cases e3
    | some y =>
      rw [e4] at e3
      have e5 : Sum.inl y = k := Option.some.inj e3
      subst e5
      rcases keyIs_shape (show keyIs (Sum.inl y) v = true from e2) with ⟨i, t, ek, ev⟩ | ⟨z, t, ek, ev⟩
      · cases ek
        exact ⟨y, t, rfl, ev⟩
      · cases ek
  have I1 : Inv X pins σ H { s with heap := h', toks := tk } := I.kept hk
  refine wpAny_bind (wpAny_newList ?_ (by rw [hal, sizeLine_eq]; omega))
  have hoL : (h'.push (seqObj "list" acc.toList.toArray 0)).get? h'.objs.size = some (seqObj "list" acc.toList.toArray 0) := Heap.get?_push_size _ rfl
  show wpAny _ _ _ _ _ { s with heap := h'.push (seqObj "list" acc.toList.toArray 0), toks := tk }
  refine wpAny_bind (wpAny_holding (wpAny_call_entry PyProof.Rows.slot_list_sort ⟨_, hoL, rfl⟩ PyProof.Rows.entry_list_sort
    (SrtO.list_sort_ord (s := { s with heap := h'.push (seqObj "list" acc.toList.toArray 0), toks := tk }) SrtO.swo_int hoL (by rw [hal, sizeLine_eq]; omega) (fun h2 => SrtO.ints_sortable hS h2) fun outl o1 o2 => ⟨_, rfl, ?_⟩) (PyProof.Rows.args_list_sort _)))
  obtain ⟨g1, g2, g3⟩ := SrtO.ints_out hS o1 o2
  obtain ⟨e', he'⟩ := PyProof.Rows.sortedHeap_at (vs := acc.toList) (out := outl.toArray) hoL
  have hlen : ((outl.map SrtO.iv).map V.int).length ≤ sizeLine := by
    rw [List.length_map, g2.length_eq]
    rw [sizeLine_eq]; omega
  refine wpAny_pure ⟨_, rfl, .ref h'.objs.size, upd H h'.objs.size (.lst ((outl.map SrtO.iv).map V.int)), I1.laid (t' := tk) (fun b u e => ?_) (Nat.le_refl _)
    (show ObjOk X.prog X.w _ _ _ (.lst ((outl.map SrtO.iv).map V.int)) from ⟨hlen, outl, e', vals_of_ints g1, he'⟩), rfl, q _ _ g2 g3 (I1.hok.fresh (Nat.le_refl _))⟩
  have hb : b < h'.objs.size := Heap.lt_size e
  rw [PyProof.Rows.sortedHeap_old (Nat.ne_of_lt hb) (by rw [size_push']; exact Nat.lt_succ_of_lt hb)]
  exact Heap.get?_push_of_some _ e
end
def rSrtM (K : PySem.W.Frag) : List V → Hp → VK → Prop := fun xs H Q => rSortedI K xs H Q ∨ (∃ (a : Addr) (kvs : List (Key × V)) (ks : List Int), xs = [.ref a] ∧ Rd H a (.dK kvs) ∧ kvs.map (·.1) = ks.map Sum.inl ∧ ks.length < 4096 ∧ ∀ (ys : List Int) (p : Addr), ys.Perm ks → ys.Pairwise (· ≤ ·) → H p = none → Q (.ref p) (upd H p (.lst (ys.map V.int))))
theorem sortW_ints {ws ys : List W} (e : sortW ws = some ys) : ∃ is, intsOf ws = some is ∧ ys = (sortI is).map .int := by
  obtain ⟨is, e1, e2⟩ := Option.map_eq_some_iff.mp e
  exact ⟨is, e1, e2.symm⟩
theorem bi_sorted : BiOk B W_ .sorted (rSrtM B.K) := by
  intro ρ h H σ ws xs Q S r o
  obtain ⟨u, e, o⟩ := bi_out S o
  match ws, r, e with
  | [.loc n], r, e =>
    obtain ⟨v, rfl, rv⟩ := r.one_
    obtain ⟨hl, ev⟩ := rv.loc_
    subst ev
    unfold biH at e
    dsimp only at e
    cases el : lstAt h n with
    | some ws =>
      rw [el] at e
      dsimp only at e
      cases es : sortW ws with
      | none => rw [es] at e; cases e
      | some ys =>
        rw [es] at e
        cases e
        obtain ⟨is, e1, e2⟩ := sortW_ints es
        subst e2
        obtain ⟨_, xs, t, r1⟩ := lstAt_ S el
        rw [ints_ e1 r1] at t
        refine .inl ⟨ρ n, is, rfl, t, fun ns' p hp hs hn => ?_⟩
        rw [sortI_of hp hs]
        exact outAlloc (u := .lst ((sortI is).map V.int)) o S (fun _ z => by cases z) hn fun ρ' H' x' z => ⟨_, z, Rps_ints _⟩
    | none =>
      rw [el] at e
      dsimp only at e
      cases ed : dctAt h n with
      | none => rw [ed] at e; cases e
      | some kvs =>
        rw [ed] at e
        dsimp only at e
        split at e
        · rename_i hl64
          cases es : sortW (kvs.map (·.1)) with
          | none => rw [es] at e; cases e
          | some ys =>
            rw [es] at e
            cases e
            obtain ⟨is, e1, e2⟩ := sortW_ints es
            subst e2
            have eo : h[n]? = some (.dct kvs) := by
              unfold dctAt at ed
              cases z : h[n]? with
              | none => rw [z] at ed; cases ed
              | some ob => rw [z] at ed; cases ob <;> cases ed; rfl
            obtain ⟨ks, t, r1, nd⟩ := dct_ S eo
            have ke := keys_ints r1 e1
            have kl : is.length < 4096 := by
              have := congrArg List.length ke
              rw [List.length_map, List.length_map] at this
              have l2 : ∀ {kvs : List (W × W)} {is : List Int}, intsOf (kvs.map (·.1)) = some is → is.length = kvs.length := by
                intro kvs
                induction kvs with
                | nil => intro is e; cases e; rfl
                | cons a r ih =>
                  intro is e
                  obtain ⟨k, v⟩ := a
                  cases k with
                  | int i =>
                    obtain ⟨is2, e2, e3⟩ := Option.map_eq_some_iff.mp (show (intsOf (r.map (·.1))).map (i :: ·) = some is from e)
                    subst e3
                    rw [List.length_cons, List.length_cons, ih e2]
                  | _ => cases e
              rw [l2 e1]; exact hl64
            refine .inr ⟨ρ n, ks, is, rfl, .inl t, ke, kl, fun ns' p hp hs hn => ?_⟩
            rw [sortI_of hp hs]
            exact outAlloc (u := .lst ((sortI is).map V.int)) o S (fun _ z => by cases z) hn fun ρ' H' x' z => ⟨_, z, Rps_ints _⟩
        · cases e
/-! ### sorted(set(..)) -/
theorem nodup_len {α : Type} [DecidableEq α] : ∀ (l D : List α), l.Nodup → (∀ x ∈ l, x ∈ D) → l.length ≤ D.length
  | [], D, _, _ => Nat.zero_le _
  | a :: r, D, n, h => by
    obtain ⟨n1, n2⟩ := List.nodup_cons.mp n
    have ha := h a List.mem_cons_self
    have := nodup_len r (D.erase a) n2 fun x hx => (List.mem_erase_of_ne (fun e => n1 (by rw [← e]; exact hx))).mpr (h x (List.mem_cons_of_mem _ hx))
    rw [List.length_erase_of_mem ha] at this
    have := List.length_pos_of_mem ha
    rw [List.length_cons]
    omega
theorem setR_card {w : World} {h : Heap} {a : Addr} {ns : List Int} {c : Nat} (R : SetR w h a (fun j => decide (j ∈ ns)) c) : c ≤ (dedupI ns).length := by
  obtain ⟨o, es, ep, t, _, _, _, _, nd, mem, _, _, hc, _⟩ := R
  have := nodup_len _ (dedupI ns) nd fun k hk => dedupI_mem.mpr (of_decide_eq_true ((mem k).mpr hk))
  rw [List.length_map, Array.length_toList] at this
  omega
def rSetLI (K : PySem.W.Frag) (w : World) : List V → Hp → VK → Prop := fun xs H Q => ∃ (l : Addr) (ns : List Int), xs = [.ref l] ∧ SqL K H l (ns.map V.int) ∧ ns.length ≤ 4000 ∧ ∀ (p : Addr) (c : Nat), H p = none → c ≤ (dedupI ns).length → Q (.ref p) (upd H p (SetO w p (fun j => decide (j ∈ ns)) c))
theorem cr_setLI (hc : X.calm = true) : CallR X (.type "set") (rSetLI X.K X.w) := by
  intro pins s σ H xs us Q I r q
  obtain ⟨l, ns, rfl, hq, hl, q⟩ := q
  obtain ⟨u, rfl, ru⟩ := vals1 r
  cases ru
  obtain ⟨its, rv, pl, hz⟩ := I.list hq
  have hi : IntsAre its.toArray.toList ns := by
    have : ∀ {its : List Value} {ns : List Int}, Vals (ns.map V.int) its → IntsAre its ns := by
      intro its ns
      induction ns generalizing its with
      | nil => intro r; cases r; exact .nil
      | cons i t ih => intro r; cases r with | cons a b => obtain ⟨tk, rfl⟩ := a; exact .cons i tk (ih b)
    simpa using this rv
  refine call_set_ints (I.ok.hd hc) pl.isList hi (by unfold scanBound; omega) fun h' tk c R1 hcn k => ?_
  exact ⟨.ref _, upd H s.heap.objs.size (SetO X.w s.heap.objs.size (fun j => decide (j ∈ ns)) c), I.laid (t' := tk) k (Nat.le_refl _) (setO_new R1), rfl, q _ c (I.hok.fresh (Nat.le_refl _)) (setR_card R1)⟩
variable {a : Expr} {ma : Env → Mo W} {p p2 pos cpos : Pos}
theorem OutE.behind {α : Type} {ρ ρ' : Nat → Addr} {h h' : AH} {H H' : Hp} {σ : L2.St} {r : R α} {Q : α → (Nat → Addr) → AH → Hp → Prop} (o : OutE B W_ ρ h H σ r Q) (x : Ext ρ h H ρ' h' H') : OutE B W_ ρ' h' H' σ r Q := by
  cases r with
  | ok a h2 => exact fun ρ2 H2 s e => o ρ2 H2 s (x.trans e s)
  | ex c h2 => exact fun ρ2 H2 s e => o ρ2 H2 s (x.trans e s)
  | bad => exact o
theorem snd_sset (hK : X.K = B.K) (hc : X.calm = true) (hg : Gl X "sorted") (hm : X.mg "sorted" = none) (hg2 : Gl X "set") (hm2 : X.mg "set" = none) (ha : PE X a (LE B W_ ma)) (h1 : isSt a = false) :
    PE X (.Call (.Name "sorted" p) [.Call (.Name "set" p2) [a] [] cpos] [] pos) (LE B W_ (mBi .sset fun s => bnd (ma s) fun x => bnd (ret []) fun xs => ret (x :: xs))) := by
  have inner : PE X (.Call (.Name "set" p2) [a] [] cpos) (tCB (rSetLI X.K X.w) (tCons (LE B W_ ma) tNil)) := pe_callTy (cr_setLI hc) hg2 hm2 PyProof.Rows.boot_set (pa_cons ha pa_nil (star_cons h1)) (by decide) (by decide) (star_cons h1) rfl
  refine PE.weak (pe_callB (cr_sortedSet hc) hg hm PyProof.Rows.boot_sorted (pa_cons inner pa_nil (star_cons rfl)) (by decide) (by decide) (star_cons rfl) rfl) ?_
  rintro σ H Q ⟨ρ, h, s, S, E, o⟩
  refine ⟨ρ, h, s, S, E, ((OutE.bnd o).bnd).mono fun w ρ1 h1 H1 s1 e1 k v rv => ?_⟩
  have o : OutE B W_ ρ1 h1 H1 σ (bnd (rdO fun h => biH h .sset [w]) (fun r => outM (some r)) h1) _ := ((k s1).pure s1) s1
  obtain ⟨r, er, o⟩ := bi_out s1 o
  cases w with
  | loc n =>
    obtain ⟨hl, ev⟩ := rv.loc_
    subst ev
    unfold biH at er
    dsimp only at er
    cases el : lstAt h1 n with
    | none => rw [el] at er; cases er
    | some ws =>
      rw [el] at er
      dsimp only at er
      unfold ssetW at er
      split at er
      · rename_i ys ey
        cases er
        obtain ⟨is, e1', ey⟩ := Option.bind_eq_some_iff.mp ey
        split at ey
        · rename_i h62
          cases ey
          obtain ⟨_, xs, t, r1⟩ := lstAt_ s1 el
          have ex := ints_ e1' r1
          subst ex
          rw [hK]
          refine ⟨ρ1 n, is, rfl, t, h62.1, fun p c hp hcl => ⟨p, _, c, rfl, upd_same, by omega, fun ns' q hs hm _ hq => ?_⟩⟩
          obtain ⟨S2, X2, _⟩ := side_new (u := SetO X.w p (fun j => decide (j ∈ is)) c) s1 hp
          rw [sset_of hs (l := is) fun k => by rw [hm]; exact decide_eq_true_iff]
          exact outAlloc (u := .lst ((sortI (dedupI is)).map V.int)) (o.behind X2) S2 (fun _ z => by cases z) hq fun ρ' H' x' z => ⟨_, z, Rps_ints _⟩
        · cases ey
      · cases er
  | _ => cases er
/-! ### repr -/
def rReprM (K : PySem.W.Frag) : List V → Hp → VK → Prop := fun xs H Q => ∃ (v : V) (d : PyData), xs = [v] ∧ Dp K H v d ∧ d.canLay0 = true ∧ d.showable = true ∧ d.depth ≤ 60 ∧ d.shown.length ≤ sizeLine ∧ Q (.str d.shown) H
theorem cr_repr (gd : X.A.guards = some []) (hu : X.A.units + 64 < cLine) : CallR X (.builtin "repr") (rReprM X.K) := by
  intro pins s σ H xs us Q I r q
  obtain ⟨v, d, rfl, hd, lay, hs, dp, sz, q⟩ := q
  obtain ⟨u, rfl, ru⟩ := vals1 r
  obtain ⟨as, rd⟩ := Dp.reads I d v u hd ru
  have fin : ∀ h' tk, (∀ b o, s.heap.get? b = some o → h'.get? b = some o) → ∀ t, EP X pins σ Q (.str d.shown t) { s with heap := h', toks := tk } := fun h' tk k t => ⟨.str d.shown, H, I.kept k, ⟨t, rfl⟩, q⟩
  cases rd with
  | none => exact PySem.P.repr_of_none (fin s.heap _ (fun _ _ e => e) _)
  | bool b => exact PySem.P.repr_of_bool (by have := fin s.heap (s.toks + 1) (fun _ _ e => e) s.toks; simpa [PyData.shown] using this)
  | int i t => exact PySem.P.repr_of_int (by simpa [PyData.showable] using hs) (by have := fin s.heap (s.toks + 1) (fun _ _ e => e) s.toks; simpa [PyData.shown] using this)
  | str x t => exact PySem.P.repr_of_str (by have := fin s.heap (s.toks + 1) (fun _ _ e => e) s.toks; simpa [PyData.shown] using this) (by simpa [PyData.shown] using sz)
  | list h1 h2 h3 h4 => exact repr_of_reads' (.list h1 h2 h3 h4) hs (PyData.noDict_hsm (PyData.hasDict_of_canLay _ lay)) gd (by omega) (fun _ _ e => e) (fun h' u tk k => fin h' tk k u) sz
  | tuple h1 h2 h3 h4 => exact repr_of_reads' (.tuple h1 h2 h3 h4) hs (PyData.noDict_hsm (PyData.hasDict_of_canLay _ lay)) gd (by omega) (fun _ _ e => e) (fun h' u tk k => fin h' tk k u) sz
  | dict h1 h2 h3 h4 h5 => exact repr_of_reads' (.dict h1 h2 h3 h4 h5) hs (PyData.noDict_hsm (PyData.hasDict_of_canLay _ lay)) gd (by omega) (fun _ _ e => e) (fun h' u tk k => fin h' tk k u) sz
theorem reprD_ {d : PyData} {u : Sum W O} (e : reprD d = some u) : d.showable = true ∧ d.depth ≤ 60 ∧ d.shown.length ≤ sizeLine ∧ okS d.shown.cps.toList = true ∧ u = .inl (.str d.shown.cps.toList) := by
  unfold reprD at e
  split at e
  · rename_i g
    cases e
    rw [← LN_eq]
    exact ⟨g.1, g.2.1, g.2.2.1, g.2.2.2, rfl⟩
  · cases e
theorem bi_repr : BiOk B W_ .repr (rReprM B.K) := by
  intro ρ h H σ ws xs Q S r o
  obtain ⟨u, e, o⟩ := bi_out S o
  have fin : ∀ {d : PyData} {v : V}, reprD d = some u → Dp B.K H v d → d.canLay0 = true → rReprM B.K [v] H Q := by
    intro d v e hd lay
    obtain ⟨e1, e2, e3, e4, e5⟩ := reprD_ e
    subst e5
    refine ⟨v, d, rfl, hd, lay, e1, e2, e3, o.pure S _ ?_⟩
    unfold Rp
    exact ⟨rfl, e4⟩
  match ws, r, e with
  | [w], r, e =>
    obtain ⟨v, rfl, rv⟩ := r.one_
    by_cases hw : ∃ n, w = .loc n
    · obtain ⟨n, rfl⟩ := hw
      obtain ⟨hl, ev⟩ := rv.loc_
      subst ev
      unfold biH at e
      dsimp only at e
      cases el : lstAt h n with
      | none => rw [el] at e; cases e
      | some ws =>
        rw [el] at e
        dsimp only at e
        split at e
        · rename_i g
          obtain ⟨d1, c1⟩ := lst_Dp S el g
          exact fin e d1 (by simpa [PyData.canLay0] using c1)
        · cases e
    · have e' : (if w.gr then reprD w.toD else none) = some u := by
        cases w with
        | loc n => exact absurd ⟨n, rfl⟩ hw
        | _ => exact e
      split at e'
      · rename_i g
        obtain ⟨d1, c1⟩ := Dp_of w g rv
        exact fin e' d1 c1
      · cases e'
  | _ :: _ :: _, r, e => simp [biH] at e
end
end MI
/-! MI9: methods, isinstance, calls, list(range). -/
namespace MI
open PySem PySem.Spec PyProof.Rows L2
theorem base_of {o : Expr} {m : Str} {env : PySem.Env} (p : notZC o = true) : attributeBase o m env (eval o env) = eval o env := by
  cases o with
  | Call f as kw q =>
    cases f with
    | Name x r =>
      cases as with
      | nil =>
        cases kw with
        | nil => cases p
        | cons _ _ => rfl
      | cons _ _ => rfl
    | _ => rfl
  | _ => rfl
theorem star_all {env : PySem.Env} : ∀ {es : List Expr}, (∀ e ∈ es, isSt e = false) → starEach es env = es.map fun e => (false, eval e env)
  | [], _ => rfl
  | e :: es, h => by
    rw [star_cons (h e List.mem_cons_self), star_all fun x hx => h x (List.mem_cons_of_mem _ hx)]
    rfl
theorem back_all {env : PySem.Env} {pos : Pos} {es : List Expr} (h : ∀ e ∈ es, isSt e = false) : (backTo pos (starEach es env)).all (fun x => !x.1) = true := by
  rw [star_all h]
  unfold backTo
  rw [List.map_map, List.all_map, List.all_eq_true]
  intro e _
  rfl
theorem back_any {env : PySem.Env} {pos : Pos} {es : List Expr} (h : ∀ e ∈ es, isSt e = false) : (backTo pos (starEach es env)).any (·.1) = false := by
  rw [star_all h]
  unfold backTo
  rw [List.map_map, List.any_map, List.any_eq_false]
  intro e _
  simp
section
variable {X : Cx} {o e : Expr} {es : List Expr} {to : TE} {t : TA} {name : Str} {apos cpos : Pos}
/-- of that built-in type, with nothing beside -/
def tyG (K : PySem.W.Frag) (T : String) (x : V) (H : Hp) : Prop := tyV K T x H ∨ (T = "tuple" ∧ ∃ a, x = .ref a ∧ Dn K H a)
theorem tyG_is {pins : List (Addr × Obj)} {σ : L2.St} {H : Hp} {s : Shared} {T : String} {x : V} {v : Value} (I : L2.Inv X pins σ H s) (r : RelV x v) (ty : tyG X.K T x H) :
    s.TypeIs v T ∧ ∀ a, v = .ref a → ∃ ob, s.heap.get? a = some ob ∧ ob.dict = none := by
  rcases ty with ty | ⟨rfl, a, rfl, d⟩
  · exact tyV_is I r ty
  · cases r
    have : ∃ o, s.heap.get? a = some o ∧ o.cls = .type "tuple" ∧ o.dict = none := by
      rcases d with ⟨o, xs, e, hc, hd⟩ | ⟨o, hk, hc, hd⟩
      · exact ⟨o, (I.hok a _ e).1, hc, hd⟩
      · exact ⟨o, I.kIn a o hk, hc, hd⟩
    obtain ⟨o, ho, hc, hd⟩ := this
    exact ⟨⟨o, ho, hc⟩, fun b e => by cases e; exact ⟨o, ho, hd⟩⟩
/-- what may be chosen at the owner: the type, the method, its rule -/
structure MSel (X : Cx) (name : Str) (T id : String) (r : V → List V → Hp → VK → Prop) : Prop where
  pa : PlainAttrs T
  slot : Slot T name id
  ty : typeOf (.builtin id) = pure (.type "method_descriptor")
  mt : MtR X id r
def tBMG (X : Cx) (name : Str) (to : TE) (t : TA) : TE := fun σ H Q => to σ H fun x H1 => ∃ T id r, MSel X name T id r ∧ tyG X.K T x H1 ∧ t σ H1 fun xs H2 => r x xs H2 Q
theorem pe_bmG0 (ho : PE X o to) (hbase : attributeBase o name X.env (eval o X.env) = eval o X.env) (hline : (apos.endLine == cpos.line) = true) : PE X (.Call (.Attribute o name apos) [] [] cpos) (tBMG X name to tNil) := by
  refine ⟨fun pins s σ H Q I h => ?_⟩
  refine wpAny_Call_method0_late hbase hline (thn (ho.run pins s σ H _ I h) fun v s1 ⟨x, H1, I1, r1, T, id, r, m, ty, q1⟩ => ?_)
  obtain ⟨h1, h2⟩ := tyG_is I1 r1 ty
  exact ⟨T, id, m.pa, m.slot, m.ty, h1, h2, Calls.callWith_builtin rfl (PySem.evalArgs_none (m.mt pins s1 σ H1 x [] v [] Q I1 r1 .nil q1))⟩
theorem pe_bmG (ho : PE X o to) (ha : PA X (e :: es) t) (hbase : attributeBase o name X.env (eval o X.env) = eval o X.env)
    (hst : ∀ x ∈ e :: es, isSt x = false) (hlen : (e :: es).length < 29) (hline : (apos.endLine == cpos.line) = true) :
    PE X (.Call (.Attribute o name apos) (e :: es) [] cpos) (tBMG X name to t) := by
  refine ⟨fun pins s σ H Q I h => ?_⟩
  have hfew : ((backTo cpos (starEach (e :: es) X.env)).all (fun x => !x.1) && (backToKw cpos (keywordEach [] X.env)).all (fun x => x.1.isSome)
      && decide ((e :: es).length + ([] : List Keyword).length + (if ([] : List Keyword).isEmpty then 0 else 1) < 30)) = true := by
    rw [back_all hst]
    show (true && true && decide _) = true
    rw [Bool.and_self, Bool.true_and, decide_eq_true_eq]
    show (e :: es).length + 0 + 0 < 30
    omega
  have hs : starEach (e :: es) X.env = (false, eval e X.env) :: starEach es X.env := star_cons (hst e List.mem_cons_self)
  have hplain : (backTo cpos (starEach es X.env)).any (·.1) = false := back_any fun x hx => hst x (List.mem_cons_of_mem _ hx)
  refine wpAny_Call_method_late hbase hfew hline rfl (thn (ho.run pins s σ H _ I h) fun v s1 ⟨x, H1, I1, r1, T, id, r, m, ty, q1⟩ => ?_)
  obtain ⟨h1, h2⟩ := tyG_is I1 r1 ty
  refine ⟨T, id, m.pa, m.slot, m.ty, h1, h2, ?_⟩
  have hA := ha.run cpos pins s1 σ H1 _ I1 q1
  rw [hs] at hA ⊢
  refine Calls.callWith_builtin (by show (false || (backTo cpos (starEach es X.env)).any (·.1)) = false; rw [hplain] <;> rfl) (Calls.evalArgs_plain ?_)
  exact thn hA fun us s2 ⟨vs, H2, I2, r2, q2⟩ => m.mt pins s2 σ H2 x vs v us Q I2 r1 r2 q2
end
section
variable {X : Cx} {B : Bs} {W_ : WX} {o e a b d : Expr} {es : List Expr} {pos p apos cpos : Pos} {ma mb md mo : Env → Mo W} {mr : Env → Mo (List W)} {x : Nm} {name : Str}
def kdT : Kd → String
  | .lst => "list"
  | .dct => "dict"
  | .tup => "tuple"
def meName : ME → Option Str
  | .append => some "append"
  | .extend => some "extend"
  | .pop => some "pop"
  | .clear => some "clear"
  | .index => some "index"
  | .get => some "get"
  | .remove => some "remove"
  | _ => none
/-- d.get(k, x) of a dict of keys -/
def rGet2 : V → List V → Hp → VK → Prop := fun x vs H Q => ∃ a o y d, x = .ref a ∧ vs = [y, d] ∧ DGet H a y o ∧ Q (o.getD d) H
theorem mt_get2 (hu : X.A.units + 64 < cLine) : MtR X "dict.get" rGet2 := by
  intro pins s σ H x xs v us Q I rx rxs h
  obtain ⟨a, ov, y, d, rfl, rfl, g, q⟩ := h
  obtain rfl : v = Value.ref a := rx
  obtain ⟨u1, u2, rfl, r1, r2⟩ := rxs.two
  exact d_get2 (by omega) I g r1 r2 fun w' s' I' r' => ⟨_, H, I', r', q⟩
theorem MtR.or {id : String} {r r' : V → List V → Hp → VK → Prop} (a : MtR X id r) (b : MtR X id r') : MtR X id fun x vs H Q => r x vs H Q ∨ r' x vs H Q := by
  intro pins s σ H x xs v us Q I rx rxs h
  rcases h with h | h
  · exact a pins s σ H x xs v us Q I rx rxs h
  · exact b pins s σ H x xs v us Q I rx rxs h
/-- t.index(i) of numbers -/
def rTIx (K : PySem.W.Frag) : V → List V → Hp → VK → Prop := fun x vs H Q => ∃ a i, ∃ is : List Int, x = .ref a ∧ vs = [.int i] ∧ SqT K H a (is.map V.int) ∧ i ∈ is ∧ Q (.int ((is.idxOf i : Nat) : Int)) H
theorem mt_tupIx : MtR X "tuple.index" (rTIx X.K) := by
  intro ps s0 σ0 H0 x xs v us Q I0 rx rxs hyp
  obtain ⟨a, i, is, rfl, rfl, tx, hi, q⟩ := hyp
  cases rx
  obtain ⟨u, rfl, tk, rfl⟩ := vals1 rxs
  obtain ⟨its, r, pl, _⟩ := I0.tuple tx
  have ia : IntsAre its is := by have := intsAre_of r; exact this
  exact PySem.SeqAt.tuple_index_ints pl ia hi ⟨.int _, H0, I0.tok _, ⟨_, rfl⟩, q⟩
/-- xs.remove(k) of numbers, k among them -/
def rRemove : V → List V → Hp → VK → Prop := fun x vs H Q => ∃ (l : Addr) (ns : List Int) (k : Int), x = .ref l ∧ vs = [.int k] ∧ H l = some (.lst (ns.map V.int)) ∧ k ∈ ns ∧ Q .non (upd H l (.lst ((ns.erase k).map V.int)))
theorem mt_remove : MtR X "list.remove" rRemove := by
  intro pins s σ H x vs v us Q I rx rv h
  obtain ⟨l, ns, k, rfl, rfl, hH, hk, q⟩ := h
  cases rx
  obtain ⟨u, rfl, ru⟩ := rv.one
  obtain ⟨t, rfl⟩ := (show ∃ t, u = Value.int k t from ru)
  obtain ⟨z, its, n, r, hl, e0⟩ := I.lstM hH
  have hi : IntsAre its ns := intsAre_of r
  have heq := eq_isInt k t hi
  have hnl : ns.length = its.length := by rw [← hl, List.length_map]
  have hsz : its.toArray.size ≤ sizeLine := by rw [List.size_toArray, ← hl]; exact z
  obtain ⟨j, j1, j2, j3, j4⟩ := first_at hk
  have hj : j < its.length := by omega
  refine call_meets PySem.F.slot_list_remove ⟨_, e0, rfl⟩ PySem.F.entry_list_remove (PySem.F.args_list_remove_2 _ _)
    (MeetsSeq.list_remove l its.toArray n (.int k t) (isInt k) (fun y hy => heq y (by simpa using hy)) j (by rw [List.size_toArray]; exact hj) ?hit (fun i hi2 hlt => ?hno) hsz) ⟨e0, ?_⟩
  case hit =>
    show isInt k its[j] = true
    exact (L2.isInt_at k hi j hj).mpr j2
  case hno =>
    have hi3 : i < its.length := by rw [List.size_toArray] at hi2; exact hi2
    show isInt k its[i] = false
    rw [Bool.eq_false_iff]
    intro w
    exact j3 i hlt ((L2.isInt_at k hi i hi3).mp w)
  have r2 : Vals ((ns.erase k).map V.int) (its.eraseIdx j) := by
    have w := r.eraseIdx j
    rw [map_eraseIdx', j4] at w
    exact w
  refine ⟨.non, _, I.lset (its' := its.eraseIdx j) hH e0 ?_ r2 ?_, rfl, q⟩
  · show its.toArray.eraseIdxIfInBounds j = (its.eraseIdx j).toArray
    rw [List.eraseIdxIfInBounds_toArray]
  · rw [List.length_map]
    have := List.length_erase_le (a := k) (l := ns)
    rw [List.length_map] at z
    omega
/-- the rule of a method of an owner of a kind -/
def meSel (K : PySem.W.Frag) : ME → Kd → Option (String × String × (V → List V → Hp → VK → Prop))
  | .append, .lst => some ("list", "list.append", rAppend)
  | .extend, .lst => some ("list", "list.extend", rExtend)
  | .pop, .lst => some ("list", "list.pop", fun x vs H Q => rPop x vs H Q ∨ rPopAt x vs H Q)
  | .clear, .lst => some ("list", "list.clear", rClear)
  | .index, .lst => some ("list", "list.index", rIndexD K)
  | .index, .tup => some ("tuple", "tuple.index", rTIx K)
  | .remove, .lst => some ("list", "list.remove", rRemove)
  | .clear, .dct => some ("dict", "dict.clear", rDClear)
  | .get, .dct => some ("dict", "dict.get", rGet2)
  | _, _ => none
theorem meSel_ok {m : ME} {k : Kd} {T id : String} {r : V → List V → Hp → VK → Prop} (hu : X.A.units + 66 < cLine) (hn : meName m = some name) (e : meSel X.K m k = some (T, id, r)) : MSel X name T id r := by
  unfold meSel at e
  split at e <;> first | (cases e; done) | skip
  · cases e; cases hn; exact ⟨PySem.F.plainAttrs_list, PySem.F.slot_list_append, PySem.F.type_list_append, mt_append⟩
  · cases e; cases hn; exact ⟨PySem.F.plainAttrs_list, PySem.F.slot_list_extend, PySem.F.type_list_extend, mt_extend⟩
  · cases e; cases hn; exact ⟨PySem.F.plainAttrs_list, PySem.F.slot_list_pop, PySem.F.type_list_pop, MtR.or mt_pop mt_popAt⟩
  · cases e; cases hn; exact ⟨PySem.F.plainAttrs_list, PySem.F.slot_list_clear, PySem.F.type_list_clear, mt_clear⟩
  · cases e; cases hn; exact ⟨PySem.F.plainAttrs_list, PySem.F.slot_list_index, PySem.F.type_list_index, mt_indexD (by omega)⟩
  · cases e; cases hn; exact ⟨PySem.F.plainAttrs_tuple, PySem.F.slot_tuple_index, PySem.F.type_tuple_index, mt_tupIx⟩
  · cases e; cases hn; exact ⟨PySem.F.plainAttrs_list, PySem.F.slot_list_remove, PySem.F.type_list_remove, mt_remove⟩
  · cases e; cases hn; exact ⟨PySem.F.plainAttrs_dict, PySem.F.slot_dict_clear, PySem.F.type_dict_clear, mtd_clear⟩
  · cases e; cases hn; exact ⟨PySem.F.plainAttrs_dict, PySem.F.slot_dict_get, PySem.F.type_dict_get, mt_get2 (by omega)⟩
theorem meSel_has {K : PySem.W.Frag} {m : ME} {k : Kd} (e : meHas m k = true) : ∃ T id r, meSel K m k = some (T, id, r) ∧ T = kdT k := by
  cases m <;> cases k <;> first | exact ⟨_, _, _, rfl, rfl⟩ | cases e
theorem knd_ {ρ : Nat → Addr} {h : AH} {H : Hp} {x : W} {v : V} {k : Kd} (S : Sim B ρ h H) (r : Rp B ρ h.length H x v) (e : kndH h x = some k) : (∃ n, x = .loc n ∧ v = .ref (ρ n) ∧ tyG B.K (kdT k) v H) ∨ (∃ ws, x = .tup ws ∧ k = .tup ∧ tyG B.K (kdT k) v H) := by
  cases x with
  | tup ws =>
    cases e
    obtain ⟨a, xs, ev, _, d, _⟩ := r.dn_
    exact .inr ⟨ws, rfl, rfl, .inr ⟨rfl, a, ev, d⟩⟩
  | loc n =>
    obtain ⟨hl, ev⟩ := r.loc_
    subst ev
    unfold kndH at e
    dsimp only at e
    cases z : h[n]? with
    | none => rw [z] at e; cases e
    | some ob =>
      rw [z] at e
      cases ob with
      | lst ws =>
        cases e
        obtain ⟨xs, e1, _⟩ := S.obj n _ z
        exact .inl ⟨n, rfl, rfl, .inl (.inl ⟨rfl, xs, SqL.of e1⟩)⟩
      | dct kvs =>
        cases e
        obtain ⟨ks, e1, _⟩ := S.obj n _ z
        exact .inl ⟨n, rfl, rfl, .inl (.inr (.inr (.inl ⟨rfl, .inl ⟨ks, e1⟩⟩)))⟩
      | _ => cases e
  | _ => cases e
theorem outWr {ρ : Nat → Addr} {h : AH} {H : Hp} {σ : L2.St} {n : Nat} {o o1 : O} {w : W} {u : HO} {Q : VK} (x : OutE B W_ ρ h H σ (.ok w (h.set n o1)) fun w ρ' h' H' => ∀ v, Rp B ρ' h'.length H' w v → Q v H') (S : Sim B ρ h H)
    (e : h[n]? = some o) (ho : ∀ ws, o ≠ .frl ws) (ho1 : ∀ ws, o1 ≠ .frl ws) (q : ∀ ρ' H', Ext ρ h H ρ' (h.set n o1) H' → H' (ρ n) = some u → RpO B ρ' (h.set n o1).length H' o1 (ρ n)) {v : V} (rv : Rp B ρ h.length H w v) (hz : ∀ kvs, o ≠ .frd kvs := by (intro _ z; cases z)) : Q v (upd H (ρ n) u) := by
  obtain ⟨S', X'⟩ := write_ok S e ho hz ho1 q
  exact x ρ _ S' X' v (rv.ext X' S)
theorem idxL_spec {x : W} : ∀ {ys : List W} {i : Nat}, idxL x ys = some i → ∃ z, ys[i]? = some z ∧ z.eqv x = true ∧ ∀ m z', m < i → ys[m]? = some z' → z'.eqv x = false
  | [], _, e => by cases e
  | y :: r, i, e => by
    unfold idxL at e
    split at e
    · rename_i g
      cases e
      exact ⟨y, rfl, g, fun m z' hm => by omega⟩
    · rename_i g
      obtain ⟨j, e2, e3⟩ := Option.map_eq_some_iff.mp e
      subst e3
      obtain ⟨z, h1, h2, h3⟩ := idxL_spec e2
      refine ⟨z, by simpa using h1, h2, fun m z' hm hz => ?_⟩
      cases m with
      | zero =>
        have : y = z' := by simpa using hz
        rw [← this]; exact Bool.eq_false_iff.mpr g
      | succ m => exact h3 m z' (by omega) (by simpa using hz)
theorem toDs_get : ∀ {ys : List W} {i : Nat} {d : PyData}, (toDs ys)[i]? = some d → ∃ z, ys[i]? = some z ∧ d = z.toD
  | [], _, _, e => by simp [toDs] at e
  | y :: r, 0, d, e => by
    unfold toDs at e
    have : y.toD = d := by simpa using e
    exact ⟨y, rfl, this.symm⟩
  | y :: r, i + 1, d, e => by
    unfold toDs at e
    obtain ⟨z, h1, h2⟩ := toDs_get (i := i) (by simpa using e)
    exact ⟨z, by simpa using h1, h2⟩
theorem toDs_at : ∀ {ys : List W} {i : Nat} {z : W}, ys[i]? = some z → (toDs ys)[i]? = some z.toD
  | [], _, _, e => by simp at e
  | y :: r, 0, z, e => by
    have : y = z := by simpa using e
    unfold toDs
    rw [this]; rfl
  | y :: r, i + 1, z, e => by
    unfold toDs
    exact toDs_at (i := i) (by simpa using e)
theorem grs_at : ∀ {ys : List W} {i : Nat} {z : W}, grs ys = true → ys[i]? = some z → z.gr = true
  | [], _, _, _, e => by simp at e
  | y :: r, 0, z, g, e => by
    have : y = z := by simpa using e
    unfold grs at g
    rw [Bool.and_eq_true] at g
    rw [← this]; exact g.1
  | y :: r, i + 1, z, g, e => by
    unfold grs at g
    rw [Bool.and_eq_true] at g
    exact grs_at (i := i) g.2 (by simpa using e)
theorem rps_ints {ρ : Nat → Addr} {L : Nat} {H : Hp} : ∀ is : List Int, Rps B ρ L H (is.map W.int) (is.map V.int)
  | [] => by unfold Rps; trivial
  | i :: r => by
    show Rps B ρ L H (W.int i :: r.map W.int) (V.int i :: r.map V.int)
    unfold Rps
    exact ⟨by unfold Rp; rfl, rps_ints r⟩
/-- a method's call -/
theorem me_ok {m : ME} {k : Kd} {ρ : Nat → Addr} {h : AH} {H : Hp} {σ : L2.St} {n : Nat} {ws : List W} {xs : List V} {Q : VK} (S : Sim B ρ h H) (rx : Rp B ρ h.length H (.loc n) (.ref (ρ n))) (rs : Rps B ρ h.length H ws xs)
    (o : OutE B W_ ρ h H σ (meH m k (.loc n) ws h) fun w ρ' h' H' => ∀ v, Rp B ρ' h'.length H' w v → Q v H') : ∃ T id r, meSel B.K m k = some (T, id, r) ∧ T = kdT k ∧ r (.ref (ρ n)) xs H Q := by
  have key : ∀ {m k}, (OutE B W_ ρ h H σ (meH m k (.loc n) ws h) fun w ρ' h' H' => ∀ v, Rp B ρ' h'.length H' w v → Q v H') → (∃ w, m = .append ∧ k = .lst ∧ ws = [w]) ∨ (∃ n2, m = .extend ∧ k = .lst ∧ ws = [.loc n2]) ∨ (m = .pop ∧ k = .lst ∧ ws = []) ∨ (∃ i, m = .pop ∧ k = .lst ∧ ws = [.int i]) ∨
      (m = .clear ∧ k = .lst ∧ ws = []) ∨ (∃ w, m = .index ∧ k = .lst ∧ ws = [w]) ∨ (m = .clear ∧ k = .dct ∧ ws = []) ∨ (∃ a b, m = .get ∧ k = .dct ∧ ws = [a, b]) ∨ (∃ i, m = .remove ∧ k = .lst ∧ ws = [.int i]) := by
    intro m k o
    cases m <;> cases k <;> first | (exact o.elim; done) | skip
    · match ws, o with
      | [w], o => exact .inl ⟨w, rfl, rfl, rfl⟩
      | [], o => exact o.elim
      | _ :: _ :: _, o => exact o.elim
    · match ws, o with
      | [.int i], o => exact .inr (.inr (.inr (.inl ⟨i, rfl, rfl, rfl⟩)))
      | [], o => exact .inr (.inr (.inl ⟨rfl, rfl, rfl⟩))
      | w :: _ :: _, o => cases w <;> exact o.elim
      | [.non], o => exact o.elim
      | [.bl _], o => exact o.elim
      | [.str _], o => exact o.elim
      | [.tup _], o => exact o.elim
      | [.loc _], o => exact o.elim
      | [.gl _], o => exact o.elim
    · match ws, o with
      | [a, b], o => exact .inr (.inr (.inr (.inr (.inr (.inr (.inr (.inl ⟨a, b, rfl, rfl, rfl⟩)))))))
      | [], o => exact o.elim
      | [_], o => exact o.elim
      | _ :: _ :: _ :: _, o => exact o.elim
    · match ws, o with
      | [], o => exact .inr (.inr (.inr (.inr (.inl ⟨rfl, rfl, rfl⟩))))
      | _ :: _, o => exact o.elim
    · match ws, o with
      | [], o => exact .inr (.inr (.inr (.inr (.inr (.inr (.inl ⟨rfl, rfl, rfl⟩))))))
      | _ :: _, o => exact o.elim
    · match ws, o with
      | [w], o => exact .inr (.inr (.inr (.inr (.inr (.inl ⟨w, rfl, rfl, rfl⟩)))))
      | [], o => exact o.elim
      | _ :: _ :: _, o => exact o.elim
    · match ws, o with
      | [.loc n2], o => exact .inr (.inl ⟨n2, rfl, rfl, rfl⟩)
      | [], o => exact o.elim
      | w :: _ :: _, o => cases w <;> exact o.elim
      | [.non], o => exact o.elim
      | [.bl _], o => exact o.elim
      | [.str _], o => exact o.elim
      | [.tup _], o => exact o.elim
      | [.int _], o => exact o.elim
      | [.gl _], o => exact o.elim
    · match ws, o with
      | [.int i], o => exact .inr (.inr (.inr (.inr (.inr (.inr (.inr (.inr ⟨i, rfl, rfl, rfl⟩)))))))
      | [], o => exact o.elim
      | w :: _ :: _, o => cases w <;> exact o.elim
      | [.non], o => exact o.elim
      | [.bl _], o => exact o.elim
      | [.str _], o => exact o.elim
      | [.tup _], o => exact o.elim
      | [.loc _], o => exact o.elim
      | [.gl _], o => exact o.elim
  rcases key o with ⟨w, rfl, rfl, rfl⟩ | ⟨m1, rfl, rfl, rfl⟩ | ⟨rfl, rfl, rfl⟩ | ⟨i, rfl, rfl, rfl⟩ | ⟨rfl, rfl, rfl⟩ | ⟨w, rfl, rfl, rfl⟩ | ⟨rfl, rfl, rfl⟩ | ⟨kk, dd, rfl, rfl, rfl⟩ | ⟨ri, rfl, rfl, rfl⟩
  · -- append
    refine ⟨_, _, _, rfl, rfl, ?_⟩
    unfold meH at o
    dsimp only at o
    obtain ⟨v, rfl, rv⟩ := rs.one_
    cases el : lstM h n with
    | none => rw [el] at o; exact o.elim
    | some ys =>
      rw [el] at o
      dsimp only at o
      split at o
      · rename_i hz
        obtain ⟨e2, zs, e3, r3⟩ := lstM_ S el
        rw [LN_eq] at hz
        refine ⟨ρ n, zs, v, rfl, rfl, e3, by rw [r3.len]; exact hz, ?_⟩
        exact outWr (u := .lst (zs ++ [v])) o S e2 (fun _ z => by cases z) (fun _ z => by cases z) (fun ρ' H' x' z => ⟨_, z, (r3.append (by unfold Rps; exact ⟨rv, by unfold Rps; trivial⟩)).ext x' S⟩) (by unfold Rp; rfl)
      · exact o.elim
  · -- extend
    refine ⟨_, _, _, rfl, rfl, ?_⟩
    unfold meH at o
    dsimp only at o
    obtain ⟨v, rfl, rv⟩ := rs.one_
    cases el : lstM h n with
    | none => rw [el] at o; exact o.elim
    | some ys =>
      cases em : lstM h m1 with
      | none => rw [el, em] at o; exact o.elim
      | some ys2 =>
        rw [el, em] at o
        dsimp only at o
        split at o
        · rename_i hz
          obtain ⟨e2, zs, e3, r3⟩ := lstM_ S el
          obtain ⟨e22, zs2, e32, r32⟩ := lstM_ S em
          rw [LN_eq] at hz
          obtain ⟨_, ev⟩ := rv.loc_
          subst ev
          refine ⟨ρ n, ρ m1, zs, zs2, rfl, rfl, e3, e32, by rw [r3.len, r32.len]; exact hz, ?_⟩
          exact outWr (u := .lst (zs ++ zs2)) o S e2 (fun _ z => by cases z) (fun _ z => by cases z) (fun ρ' H' x' z => ⟨_, z, (r3.append r32).ext x' S⟩) (by unfold Rp; rfl)
        · exact o.elim
  · -- pop
    refine ⟨_, _, _, rfl, rfl, ?_⟩
    unfold meH at o
    dsimp only at o
    rw [rs.nil_]
    cases el : lstM h n with
    | none => rw [el] at o; exact o.elim
    | some ys =>
      rw [el] at o
      dsimp only at o
      obtain ⟨e2, zs, e3, r3⟩ := lstM_ S el
      cases eg : ys[ys.length - 1]? with
      | none => rw [eg] at o; exact o.elim
      | some w =>
        rw [eg] at o
        obtain ⟨v, ev, rv⟩ := r3.get eg
        refine .inl ⟨ρ n, zs, v, rfl, rfl, e3, by rw [r3.len]; exact ev, ?_⟩
        exact outWr (u := .lst zs.dropLast) o S e2 (fun _ z => by cases z) (fun _ z => by cases z) (fun ρ' H' x' z => ⟨_, z, r3.dropLast.ext x' S⟩) rv
  · -- pop at
    refine ⟨_, _, _, rfl, rfl, ?_⟩
    unfold meH at o
    dsimp only at o
    obtain ⟨v, rfl, rv⟩ := rs.one_
    cases el : lstM h n with
    | none => rw [el] at o; exact o.elim
    | some ys =>
      rw [el] at o
      dsimp only at o
      obtain ⟨e2, zs, e3, r3⟩ := lstM_ S el
      split at o
      · rename_i hi
        cases ei : ixN ys.length i with
        | none => rw [ei] at o; exact o.elim
        | some j =>
          rw [ei] at o
          dsimp only at o
          cases eg : ys[j]? with
          | none => rw [eg] at o; exact o.elim
          | some w =>
            rw [eg] at o
            obtain ⟨v2, ev, rv2⟩ := r3.get eg
            have e63 : (2 : Int) ^ 63 = 9223372036854775808 := by decide
            have hj : seqIndex? i zs.length = some j := by
              rw [r3.len]
              unfold ixN at ei
              unfold seqIndex?
              by_cases h0 : 0 ≤ i
              · rw [if_pos h0] at ei
                split at ei
                · rename_i h1
                  cases ei
                  simp only [Int.not_lt.mpr h0, if_false, decide_true, h0, h1, Bool.and_self, and_self, if_true]
                · cases ei
              · rw [if_neg h0] at ei
                split at ei
                · rename_i h1
                  cases ei
                  have h2 : i < 0 := by omega
                  have h3 : 0 ≤ i + ↑ys.length := by omega
                  have h4 : i + ↑ys.length < ↑ys.length := by omega
                  simp only [h2, if_true, h3, h4, decide_true, Bool.and_self, and_self]
                · cases ei
            refine .inr ⟨ρ n, zs, i, j, v2, rfl, by rw [rv.int_], e3, by rw [e63]; exact hi.1, by rw [e63]; exact hi.2, hj, ev, ?_⟩
            exact outWr (u := .lst (zs.eraseIdx j)) o S e2 (fun _ z => by cases z) (fun _ z => by cases z) (fun ρ' H' x' z => ⟨_, z, (r3.erase j).ext x' S⟩) rv2
      · exact o.elim
  · -- clear
    refine ⟨_, _, _, rfl, rfl, ?_⟩
    unfold meH at o
    dsimp only at o
    rw [rs.nil_]
    cases el : lstM h n with
    | none => rw [el] at o; exact o.elim
    | some ys =>
      rw [el] at o
      obtain ⟨e2, zs, e3, r3⟩ := lstM_ S el
      exact ⟨ρ n, zs, rfl, rfl, e3, outWr (u := .lst []) o S e2 (fun _ z => by cases z) (fun _ z => by cases z) (fun ρ' H' x' z => ⟨_, z, by unfold Rps; trivial⟩) (by unfold Rp; rfl)⟩
  · -- index
    refine ⟨_, _, _, rfl, rfl, ?_⟩
    unfold meH at o
    dsimp only at o
    obtain ⟨v, rfl, rv⟩ := rs.one_
    cases el : lstM h n with
    | none => rw [el] at o; exact o.elim
    | some ys =>
      rw [el] at o
      dsimp only at o
      split at o
      · rename_i hz
        obtain ⟨g1, g2, g3, g4⟩ := hz
        cases ei : idxL w ys with
        | none => rw [ei] at o; exact o.elim
        | some i =>
          rw [ei] at o
          have el2 : lstAt h n = some ys := by
            have := (lstM_ S el).1
            unfold lstAt
            rw [this]
          obtain ⟨d1, c1⟩ := lst_Dp S el2 g1
          obtain ⟨d2, c2⟩ := Dp_of w g2 rv
          obtain ⟨z, z1, z2, z3⟩ := idxL_spec ei
          have gz := grs_at g1 z1
          refine ⟨ρ n, v, w.toD, toDs ys, i, z.toD, rfl, rfl, d1, d2, ?_, ?_, toDs_at z1, by rw [eqv_toD z w gz g2]; exact z2, fun m z' hm hz' => ?_, o ρ H S .refl _ (by unfold Rp; rfl)⟩
          · unfold SeqAt.shaped
            rw [Bool.and_eq_true, decide_eq_true_eq]
            refine ⟨by show PyData.canLayAll0 (toDs ys) = true; exact c1, ?_⟩
            show PyData.depthAll (toDs ys) + 1 ≤ 64
            rw [depths_toD]; omega
          · unfold SeqAt.shaped
            rw [Bool.and_eq_true, decide_eq_true_eq]
            exact ⟨c2, by rw [depth_toD]; omega⟩
          · obtain ⟨q, q1, q2⟩ := toDs_get hz'
            rw [q2, eqv_toD q w (grs_at g1 q1) g2]
            exact z3 m q hm q1
      · exact o.elim
  · -- clear, dict
    refine ⟨_, _, _, rfl, rfl, ?_⟩
    unfold meH at o
    dsimp only at o
    rw [rs.nil_]
    cases el : dctAt h n with
    | none => rw [el] at o; exact o.elim
    | some kvs =>
      rw [el] at o
      obtain ⟨ks, e3, r3, _⟩ := dct_ S (dctAt_ el)
      exact ⟨ρ n, ks, rfl, rfl, e3, outWr (u := .dK []) o S (dctAt_ el) (fun _ z => by cases z) (fun _ z => by cases z) (fun ρ' H' x' z => ⟨_, z, by unfold RpD; trivial, List.nodup_nil⟩) (by unfold Rp; rfl)⟩
  · -- get
    refine ⟨_, _, _, rfl, rfl, ?_⟩
    unfold meH at o
    dsimp only at o
    obtain ⟨v1, v2, rfl, r1, r2⟩ := rs.two_
    cases el : dctAt h n with
    | none => rw [el] at o; exact o.elim
    | some kvs =>
      rw [el] at o
      dsimp only at o
      split at o
      · rename_i g
        obtain ⟨ks, e3, r3, _⟩ := dct_ S (dctAt_ el)
        obtain ⟨yk, rk, ey⟩ := key_of_ g r1
        subst ey
        refine ⟨ρ n, valV ks yk, kV yk, v2, rfl, rfl, .k e3, ?_⟩
        rcases dget_ rk r3 with ⟨w', v, g1, g2, rv⟩ | ⟨g1, g2⟩
        · rw [g2]
          rw [g1] at o
          exact o ρ H S .refl _ rv
        · rw [g2]
          rw [g1] at o
          exact o ρ H S .refl _ r2
      · exact o.elim
  · -- remove
    refine ⟨_, _, _, rfl, rfl, ?_⟩
    unfold meH at o
    dsimp only at o
    obtain ⟨v, rfl, rv⟩ := rs.one_
    cases el : lstM h n with
    | none => rw [el] at o; exact o.elim
    | some ys =>
      rw [el] at o
      dsimp only at o
      obtain ⟨e2, zs, e3, r3⟩ := lstM_ S el
      cases ei : intsOf ys with
      | none => rw [ei] at o; exact o.elim
      | some is =>
        rw [ei] at o
        dsimp only at o
        split at o
        · rename_i hc
          have ez := ints_ ei r3
          subst ez
          refine ⟨ρ n, is, ri, rfl, by rw [rv.int_], e3, by simpa using hc, ?_⟩
          exact outWr (u := .lst ((is.erase ri).map V.int)) o S e2 (fun _ z => by cases z) (fun _ z => by cases z) (fun ρ' H' x' z => ⟨_, z, rps_ints _⟩) (by unfold Rp; rfl)
        · exact o.elim
/-- a tuple's method -/
theorem meT_ok {m : ME} {k : Kd} {ρ : Nat → Addr} {h : AH} {H : Hp} {σ : L2.St} {ws0 ws : List W} {v : V} {xs : List V} {Q : VK} {T id : String} {r : V → List V → Hp → VK → Prop} (hK : X.K = B.K) (e2 : meSel X.K m k = some (T, id, r)) (ek : k = .tup) (S : Sim B ρ h H) (rx : Rp B ρ h.length H (.tup ws0) v) (rs : Rps B ρ h.length H ws xs)
    (o : OutE B W_ ρ h H σ (meH m k (.tup ws0) ws h) fun w ρ' h' H' => ∀ v, Rp B ρ' h'.length H' w v → Q v H') : r v xs H Q := by
  subst ek
  cases m <;> first | (cases e2; done) | skip
  cases e2
  match ws, rs, o with
  | [.int i], rs, o =>
    obtain ⟨u, rfl, ru⟩ := rs.one_
    obtain ⟨a, zs, ev, t, rz⟩ := rx.tup_
    unfold meH at o
    dsimp only at o
    cases ei : intsOf ws0 with
    | none => rw [ei] at o; exact o.elim
    | some is =>
      rw [ei] at o
      dsimp only at o
      split at o
      · rename_i g
        have ez := ints_ ei rz
        subst ez
        rw [hK]
        exact ⟨a, i, is, ev, by rw [ru.int_], t, by simpa using g, (o : OutE B W_ ρ h H σ (ret (W.int ((is.idxOf i : Nat) : Int)) h) _).pure S _ (by unfold Rp; rfl)⟩
      · exact o.elim
  | [], _, o => exact o.elim
  | [.non], _, o => exact o.elim
  | [.bl _], _, o => exact o.elim
  | [.str _], _, o => exact o.elim
  | [.tup _], _, o => exact o.elim
  | [.loc _], _, o => exact o.elim
  | [.gl _], _, o => exact o.elim
  | w :: _ :: _, _, o => cases w <;> exact o.elim
/-- a method's call -/
def mMe (m : ME) (mo : Env → Mo W) (mr : Env → Mo (List W)) : Env → Mo W := fun s => bnd (mo s) fun x => bnd (rdO fun h => kndM h m x) fun k => bnd (mr s) fun ws => meH m k x ws
theorem me_read {m : ME} {t : TA} (hK : X.K = B.K) (hu : X.A.units + 66 < cLine) (hn : meName m = some name) (ht : ∀ σ H Q, LA B W_ mr σ H Q → t σ H Q) : ∀ σ H Q, LE B W_ (mMe m mo mr) σ H Q → tBMG X name (LE B W_ mo) t σ H Q := by
  rintro σ H Q ⟨ρ, h, s, S, E, o⟩
  refine ⟨ρ, h, s, S, E, (OutE.bnd o).mono fun x ρ1 h1 H1 s1 e1 k v rv => ?_⟩
  obtain ⟨kd, ek, k2⟩ := (OutE.bnd (k s1)).rdO s1
  unfold kndM at ek
  obtain ⟨kd2, ek2, ek3⟩ := Option.bind_eq_some_iff.mp ek
  split at ek3
  · rename_i hh
    cases ek3
    obtain ⟨T, id, r, e2, eT⟩ := meSel_has (K := X.K) hh
    rcases knd_ s1 rv ek2 with ⟨n, ex, ev, ty⟩ | ⟨ws0, ex, ekt, ty⟩
    rotate_left
    · subst ex
      refine ⟨T, id, r, meSel_ok hu hn e2, by rw [hK, eT]; exact ty, ht _ _ _ ⟨ρ1, h1, s, s1, E.ext e1 S, (OutE.bnd (k2 s1)).mono fun ws ρ2 h2 H2 s2 e3 k3 xs rxs => ?_⟩⟩
      exact meT_ok hK e2 ekt s2 (rv.ext e3 s1) rxs (k3 s2)
    subst ex ev
    refine ⟨T, id, r, meSel_ok hu hn e2, by rw [hK, eT]; exact ty, ht _ _ _ ⟨ρ1, h1, s, s1, E.ext e1 S, (OutE.bnd (k2 s1)).mono fun ws ρ2 h2 H2 s2 e3 k3 xs rxs => ?_⟩⟩
    have rv2 := rv.ext e3 s1
    have eρ : ρ2 n = ρ1 n := e3.old n rv.loc_.1
    rw [← eρ] at rv2 ⊢
    obtain ⟨T', id', r', e4, _, q⟩ := me_ok (m := m) s2 rv2 rxs (k3 s2)
    rw [hK, e4] at e2
    cases e2
    exact q
  · cases ek3
theorem snd_me0 {m : ME} (hK : X.K = B.K) (hu : X.A.units + 66 < cLine) (hn : meName m = some name) (ho : PE X o (LE B W_ mo)) (hz : notZC o = true) (hl : (apos.endLine == cpos.line) = true) :
    PE X (.Call (.Attribute o name apos) [] [] cpos) (LE B W_ (mMe m mo fun _ => ret [])) := PE.weak (pe_bmG0 ho (base_of hz) hl) (me_read hK hu hn LA.nil_)
theorem snd_me {m : ME} (hK : X.K = B.K) (hu : X.A.units + 66 < cLine) (hn : meName m = some name) (ho : PE X o (LE B W_ mo)) (ha : PA X (e :: es) (LA B W_ mr)) (hz : notZC o = true) (hst : ∀ x ∈ e :: es, isSt x = false) (hlen : (e :: es).length < 29) (hl : (apos.endLine == cpos.line) = true) :
    PE X (.Call (.Attribute o name apos) (e :: es) [] cpos) (LE B W_ (mMe m mo mr)) := PE.weak (pe_bmG ho ha (base_of hz) hst hlen hl) (me_read hK hu hn fun _ _ _ x => x)
end
end MI
/-! MI10: isinstance, calls of defs, list(range). -/
namespace MI
open PySem PySem.Spec PyProof.Rows L2
/-- a built-in class by its name -/
def tyS (y : Nm) : Option String := if y = "int" then some "int" else if y = "str" then some "str" else if y = "bool" then some "bool" else if y = "tuple" then some "tuple" else if y = "list" then some "list" else if y = "dict" then some "dict" else if y = "ValueError" then some "ValueError" else none
theorem six_cases {y : Nm} (h : six.contains y = true) : y = "int" ∨ y = "str" ∨ y = "bool" ∨ y = "tuple" ∨ y = "list" ∨ y = "dict" := by
  rw [List.contains_iff_mem] at h
  simpa [six] using h
/-- a class's value -/
structure ClR (K : PySem.W.Frag) (B : Bs) (sub : Sub) (y : Nm) (cv : V) (cu : Value) : Prop where
  cl : ClsV cv cu
  ty : six.contains y = true → ∃ T, tyS y = some T ∧ cu = .type T
  ex : ∀ c b, sub c y = some b → ExcC K (B.ca c) ∧ PySem.W.kitOne K (.ref (B.ca c)) cu = some b
inductive ClRs (K : PySem.W.Frag) (B : Bs) (sub : Sub) : List Nm → List V → List Value → Prop where
  | nil : ClRs K B sub [] [] []
  | cons {y : Nm} {cv : V} {cu : Value} {ys : List Nm} {cvs : List V} {cus : List Value} : ClR K B sub y cv cu → ClRs K B sub ys cvs cus → ClRs K B sub (y :: ys) (cv :: cvs) (cu :: cus)
theorem ClRs.paired {K : PySem.W.Frag} {B : Bs} {sub : Sub} {ys : List Nm} {cvs : List V} {cus : List Value} (h : ClRs K B sub ys cvs cus) : Paired ClsV cvs cus := by
  induction h with
  | nil => exact .nil
  | cons a _ ih => exact .cons a.cl ih
/-- what a value of a type is asked -/
def ansT (y : Nm) (t : String) : Bool := if t = "bool" then (y == "bool" || y == "int") else if t = "int" then y == "int" else if t = "str" then y == "str" else if t = "tuple" then y == "tuple" else if t = "list" then y == "list" else if t = "dict" then y == "dict" else false
def isT7 (t : String) : Prop := t = "NoneType" ∨ t = "bool" ∨ t = "int" ∨ t = "str" ∨ t = "tuple" ∨ t = "list" ∨ t = "dict"
theorem kit_six (K : PySem.W.Frag) {y : Nm} {t : String} (h : six.contains y = true) (ht : isT7 t) : ∃ T, tyS y = some T ∧ PySem.W.kitOne K (.type t) (.type T) = some (ansT y t) := by
  rcases six_cases h with e | e | e | e | e | e <;> subst e <;> rcases ht with e | e | e | e | e | e | e <;> subst e <;> exact ⟨_, rfl, rfl⟩
section
variable {B : Bs} {ρ : Nat → Addr} {h : AH} {H : Hp} {sub : Sub}
def isExn (h : AH) : W → Option Nm
  | .loc n => match h[n]? with
    | some (.exn c) => some c
    | _ => none
  | _ => none
theorem SqT_ty {a : Addr} {xs : List V} (q : SqT B.K H a xs) : TyX B.K H (.ref a) (.type "tuple") := by
  rcases q with q | ⟨o, its, n, e, c, _⟩
  · rcases q with e | ⟨o, e⟩
    · exact .base (.tup e)
    · exact .fTuple e
  · exact .kTuple e c
/-- a value's type -/
theorem ty_ {w : W} {v : V} (S : Sim B ρ h H) (r : Rp B ρ h.length H w v) {y : Nm} {b : Bool} (e : tyNm y w h = some b) : six.contains y = true ∧ ∃ t, isT7 t ∧ TyX B.K H v (.type t) ∧ ∀ z bz, tyNm z w h = some bz → six.contains z = true ∧ bz = ansT z t := by
  have sx : ∀ {z : Nm} {bz : Bool}, tyNm z w h = some bz → six.contains z = true := fun {z bz} e => by
    unfold tyNm at e
    split at e
    · cases e
    · rename_i g; exact Bool.not_eq_false _ ▸ (by simpa using g)
  refine ⟨sx e, ?_⟩
  have fin : ∀ {t : String} {f : Nm → Bool}, isT7 t → TyX B.K H v (.type t) → (∀ z, six.contains z = true → tyNm z w h = some (f z)) → (∀ z, six.contains z = true → f z = ansT z t) →
      ∃ t, isT7 t ∧ TyX B.K H v (.type t) ∧ ∀ z bz, tyNm z w h = some bz → six.contains z = true ∧ bz = ansT z t := fun {t f} i ty k1 k2 =>
    ⟨t, i, ty, fun z bz ez => ⟨sx ez, by have := k1 z (sx ez); rw [ez] at this; rw [Option.some.inj this]; exact k2 z (sx ez)⟩⟩
  have sixT : ∀ z : Nm, six.contains z = true → ∀ {β : Type} (a b : β), (if six.contains z = false then a else b) = b := fun z hz β a b => by rw [hz]; rfl
  cases w with
  | non => cases r.non_; exact fin (f := fun _ => false) (.inl rfl) (.base .non) (fun z hz => by unfold tyNm; rw [sixT z hz]) fun z hz => rfl
  | bl k => cases r.bl_; exact fin (f := fun z => z == "bool" || z == "int") (.inr (.inl rfl)) (.base (.bl k)) (fun z hz => by unfold tyNm; rw [sixT z hz]) fun z hz => rfl
  | int i => cases r.int_; exact fin (f := fun z => z == "int") (.inr (.inr (.inl rfl))) (.base (.int i)) (fun z hz => by unfold tyNm; rw [sixT z hz]) fun z hz => rfl
  | str i => cases r.str_.1; exact fin (f := fun z => z == "str") (.inr (.inr (.inr (.inl rfl)))) (.base (.str _)) (fun z hz => by unfold tyNm; rw [sixT z hz]) fun z hz => rfl
  | tup ws =>
    obtain ⟨a, xs, e1, t1, r1⟩ := r.tup_
    subst e1
    exact fin (f := fun z => z == "tuple") (.inr (.inr (.inr (.inr (.inl rfl))))) (SqT_ty t1) (fun z hz => by unfold tyNm; rw [sixT z hz]) fun z hz => rfl
  | loc n =>
    obtain ⟨hl, ev⟩ := r.loc_
    subst ev
    have e2 := e
    unfold tyNm at e2
    rw [sixT y (sx e)] at e2
    dsimp only at e2
    cases q : h[n]? with
    | none => rw [q] at e2; cases e2
    | some o =>
      rw [q] at e2
      cases o with
      | lst ws =>
        obtain ⟨xs, e1, _⟩ := S.obj n _ q
        exact fin (f := fun z => z == "list") (.inr (.inr (.inr (.inr (.inr (.inl rfl)))))) (.base (.lst e1)) (fun z hz => by unfold tyNm; rw [sixT z hz]; dsimp only; rw [q]) fun z hz => rfl
      | frl ws =>
        obtain ⟨xs, e1, _⟩ := S.obj n _ q
        refine fin (f := fun z => z == "list") (.inr (.inr (.inr (.inr (.inr (.inl rfl)))))) ?_ (fun z hz => by unfold tyNm; rw [sixT z hz]; dsimp only; rw [q]) fun z hz => rfl
        rcases e1 with ⟨ob, e1⟩ | ⟨o, its, k, e1, c1, _⟩
        · exact .base (.frz e1)
        · exact .kList e1 c1
      | dct kvs =>
        obtain ⟨ks, e1, _⟩ := S.obj n _ q
        exact fin (f := fun z => z == "dict") (.inr (.inr (.inr (.inr (.inr (.inr rfl)))))) (.base (.dK e1)) (fun z hz => by unfold tyNm; rw [sixT z hz]; dsimp only; rw [q]) fun z hz => rfl
      | _ => cases e2
  | gl y' =>
    unfold tyNm at e
    split at e <;> cases e
theorem tyAny_cons {w : W} {y : Nm} {r : List Nm} {b : Bool} (e : tyAny sub h w (y :: r) = some b) : ∃ a c, (match isExn h w with | some k => sub k y | none => tyNm y w h) = some a ∧ tyAny sub h w r = some c ∧ b = (a || c) := by
  unfold tyAny at e
  split at e
  · rename_i a c h1 h2
    refine ⟨a, c, ?_, h2, (Option.some.inj e).symm⟩
    rw [← h1]
    cases w with
    | loc n =>
      unfold isExn
      dsimp only
      cases q : h[n]? with
      | none => rfl
      | some o => cases o <;> rfl
    | _ => rfl
  · cases e
end
/-- what stands for an exception that is held -/
def ExnAt (H : Hp) (D a : Addr) : Prop := ∃ φ, H a = some (.ext φ) ∧ ∀ h : Heap, φ h → ∃ o, h.get? a = some o ∧ o.cls = .ref D ∧ o.dict = none ∧ ∃ vs, o.data = .fields vs
def rIsiE (K : PySem.W.Frag) : List V → Hp → VK → Prop := fun xs H Q => ∃ (a D : Addr) (c : V) (u : Value) (b : Bool), xs = [.ref a, c] ∧ ClsV c u ∧ ExnAt H D a ∧ ExcC K D ∧ PySem.W.kitOne K (.ref D) u = some b ∧ Q (.bl b) H
def rIsiTE (K : PySem.W.Frag) : List V → Hp → VK → Prop := fun xs H Q => ∃ (a D tp : Addr) (cs : List V) (us : List Value) (b : Bool), xs = [.ref a, .ref tp] ∧ H tp = some (.tup cs) ∧ Paired ClsV cs us ∧ ExnAt H D a ∧ ExcC K D ∧ PySem.W.kitAny K (.ref D) us = some b ∧ Q (.bl b) H
section
variable {X : Cx}
theorem exn_get {pins : List (Addr × Obj)} {s : Shared} {σ : L2.St} {H : Hp} {a D : Addr} (I : Inv X pins σ H s) (x : ExnAt H D a) : ∃ oe, PySem.W.InstAt s.heap a oe D none := by
  obtain ⟨φ, e, hφ⟩ := x
  have z : ObjOk X.prog X.w H s.heap a (.ext φ) := I.hok a _ e
  obtain ⟨oe, g, h1, h2, vs, h3⟩ := hφ _ z.1
  refine ⟨oe, ?_⟩
  obtain ⟨oc, od, oda, osl⟩ := oe
  dsimp only at h1 h2 h3
  subst h1 h2 h3
  exact ⟨g, rfl, rfl, trivial⟩
theorem call_isiE : CallR X (.builtin "isinstance") (rIsiE X.K) := by
  intro pins s σ H xs us Q I r h
  obtain ⟨a, D, c, u, b, rfl, k, x, C, e, q⟩ := h
  obtain ⟨u1, u2, rfl, r1, r2⟩ := vals2 r
  cases (show u1 = Value.ref a from r1)
  have e2 := k.eq r2
  subst e2
  obtain ⟨oe, J⟩ := exn_get I x
  exact PySem.W.kia_one (PySem.W.handS_kitx_exc C.hg C.hk C.hs C.hd C.ha C.hn C.ht C.hm) I.kIn J e (fun z => nomatch z) fun tk => ⟨.bl b, H, I.tok tk, rfl, q⟩
theorem call_isiTE : CallR X (.builtin "isinstance") (rIsiTE X.K) := by
  intro pins s σ H xs us Q I r h
  obtain ⟨a, D, tp, cs, ws, b, rfl, hT, k, x, C, e, q⟩ := h
  obtain ⟨u1, u2, rfl, r1, r2⟩ := vals2 r
  cases (show u1 = Value.ref a from r1)
  cases (show u2 = Value.ref tp from r2)
  obtain ⟨oe, J⟩ := exn_get I x
  obtain ⟨_, its, rv, o, h1, h2, n, h3⟩ := (show ObjOk X.prog X.w H s.heap tp (.tup cs) from I.hok tp _ hT)
  have e2 := ClsV.all k rv
  subst e2
  obtain ⟨oc, od, oda, osl⟩ := o
  dsimp only at h2 h3
  subst h2 h3
  exact PySem.W.kia_tup (PySem.W.handS_kitx_exc C.hg C.hk C.hs C.hd C.ha C.hn C.ht C.hm) I.kIn J h1 e (fun z => nomatch z) fun tk => ⟨.bl b, H, I.tok tk, rfl, q⟩
def rIsiM (K : PySem.W.Frag) : List V → Hp → VK → Prop := fun xs H Q => rIsi K xs H Q ∨ rIsiE K xs H Q ∨ rIsiT K xs H Q ∨ rIsiTE K xs H Q
theorem call_isiM : CallR X (.builtin "isinstance") (rIsiM X.K) := call_isi.or (call_isiE.or (call_isiT.or call_isiTE))
end
section
variable {B : Bs} {ρ : Nat → Addr} {h : AH} {H : Hp} {sub : Sub}
theorem exnAt_ {w : W} {v : V} {c : Nm} (S : Sim B ρ h H) (r : Rp B ρ h.length H w v) (e : isExn h w = some c) : ∃ a, v = .ref a ∧ ExnAt H (B.ca c) a := by
  cases w with
  | loc n =>
    obtain ⟨hl, ev⟩ := r.loc_
    unfold isExn at e
    dsimp only at e
    cases q : h[n]? with
    | none => rw [q] at e; cases e
    | some o =>
      rw [q] at e
      cases o with
      | exn c' => cases e; exact ⟨ρ n, ev, S.obj n _ q⟩
      | _ => cases e
  | _ => cases e
/-- one class -/
theorem isi_one {w : W} {v cv : V} {cu : Value} {y : Nm} {b : Bool} {Q : VK} (S : Sim B ρ h H) (r : Rp B ρ h.length H w v) (c : ClR B.K B sub y cv cu) (e : tyAny sub h w [y] = some b) (q : Q (.bl b) H) : rIsiM B.K [v, cv] H Q := by
  obtain ⟨a, d, e1, e2, e3⟩ := tyAny_cons e
  cases e2
  rw [Bool.or_false] at e3
  subst e3
  cases hx : isExn h w with
  | some k =>
    rw [hx] at e1
    obtain ⟨a, ev, x⟩ := exnAt_ S r hx
    subst ev
    obtain ⟨C, e4⟩ := c.ex k _ e1
    exact .inr (.inl ⟨a, _, cv, cu, _, rfl, c.cl, x, C, e4, q⟩)
  | none =>
    rw [hx] at e1
    obtain ⟨hs, t, i, ty, al⟩ := ty_ S r e1
    obtain ⟨T, eT, eu⟩ := c.ty hs
    obtain ⟨T', eT', ek⟩ := kit_six B.K hs i
    rw [eT] at eT'
    cases eT'
    refine .inl ⟨v, cv, _, cu, _, rfl, c.cl, ty, ?_, q⟩
    rw [eu, ek, (al y _ e1).2]
theorem kits_exn {w : W} {k : Nm} (hx : isExn h w = some k) {ys : List Nm} {cvs : List V} {cus : List Value} (cs : ClRs B.K B sub ys cvs cus) : ∀ {b : Bool}, tyAny sub h w ys = some b → PySem.W.kitAny B.K (.ref (B.ca k)) cus = some b ∧ (ys ≠ [] → ExcC B.K (B.ca k)) := by
  induction cs with
  | nil => intro b e; cases e; exact ⟨rfl, fun z => absurd rfl z⟩
  | cons c _ ih =>
    intro b e
    obtain ⟨a, d, e1, e2, e3⟩ := tyAny_cons e
    rw [hx] at e1
    obtain ⟨C, e4⟩ := c.ex k _ e1
    refine ⟨?_, fun _ => C⟩
    unfold PySem.W.kitAny
    rw [e4, e3]
    cases a with
    | true => rfl
    | false => exact (ih e2).1
theorem kits_ty {w : W} {v : V} (S : Sim B ρ h H) (r : Rp B ρ h.length H w v) (hx : isExn h w = none) {t : String} (i : isT7 t) (al : ∀ z bz, tyNm z w h = some bz → six.contains z = true ∧ bz = ansT z t) {ys : List Nm} {cvs : List V} {cus : List Value} (cs : ClRs B.K B sub ys cvs cus) :
    ∀ {b : Bool}, tyAny sub h w ys = some b → PySem.W.kitAny B.K (.type t) cus = some b := by
  induction cs with
  | nil => intro b e; cases e; rfl
  | cons c _ ih =>
    intro b e
    obtain ⟨a, d, e1, e2, e3⟩ := tyAny_cons e
    rw [hx] at e1
    obtain ⟨hs, ea⟩ := al _ _ e1
    obtain ⟨T, eT, eu⟩ := c.ty hs
    obtain ⟨T', eT', ek⟩ := kit_six B.K hs i
    rw [eT] at eT'
    cases eT'
    unfold PySem.W.kitAny
    rw [eu, ek, e3, ← ea]
    cases a with
    | true => rfl
    | false => exact ih e2
theorem isi_many {w : W} {v : V} {tp : Addr} {ys : List Nm} {cvs : List V} {cus : List Value} {b : Bool} {Q : VK} (S : Sim B ρ h H) (r : Rp B ρ h.length H w v) (cs : ClRs B.K B sub ys cvs cus) (hn : ys ≠ []) (hT : H tp = some (.tup cvs)) (e : tyAny sub h w ys = some b) (q : Q (.bl b) H) : rIsiM B.K [v, .ref tp] H Q := by
  cases hx : isExn h w with
  | some k =>
    obtain ⟨a, ev, x⟩ := exnAt_ S r hx
    subst ev
    obtain ⟨ek, C⟩ := kits_exn hx cs e
    exact .inr (.inr (.inr ⟨a, _, tp, cvs, cus, b, rfl, hT, cs.paired, x, C hn, ek, q⟩))
  | none =>
    cases ys with
    | nil => exact absurd rfl hn
    | cons y ys' =>
      obtain ⟨a, d, e1, e2, e3⟩ := tyAny_cons e
      rw [hx] at e1
      obtain ⟨hs, t, i, ty, al⟩ := ty_ S r e1
      exact .inr (.inr (.inl ⟨v, tp, cvs, _, cus, b, rfl, hT, cs.paired, ty, kits_ty S r hx i al cs e, q⟩))
end
section
variable {X : Cx} {B : Bs} {W_ : WX} {sub : Sub} {o e a b d : Expr} {es : List Expr} {pos p apos cpos : Pos} {ma mb md mo : Env → Mo W} {mr : Env → Mo (List W)} {x : Nm} {name : Str}
def mIsi (sub : Sub) (ts : List Nm) (ma : Env → Mo W) : Env → Mo W := fun s => bnd (ma s) fun x => bnd (rdO fun h => tyAny sub h x ts) fun b => ret (.bl b)
theorem snd_isi1 {y : Nm} {cv : V} {cu : Value} (hK : X.K = B.K) (hg : Gl X "isinstance") (hm : X.mg "isinstance" = none) (ha : PE X a (LE B W_ ma)) (hc : PE X e (tC cv)) (c : ClR B.K B sub y cv cu) (h1 : isSt a = false) (h2 : isSt e = false) :
    PE X (.Call (.Name "isinstance" p) [a, e] [] pos) (LE B W_ (mIsi sub [y] ma)) := by
  refine PE.weak (pe_callB call_isiM hg hm boot_isinstance (pa_cons ha (pa_cons hc pa_nil (star_cons h2)) (star_cons h1)) (by decide) (by decide) (star_cons h1) (back_any (by intro z hz; cases List.mem_singleton.mp hz; exact h2))) ?_
  rintro σ H Q ⟨ρ, h, s, S, E, o⟩
  refine ⟨ρ, h, s, S, E, (OutE.bnd o).mono fun w ρ1 h1 H1 s1 e1 k v rv => ?_⟩
  obtain ⟨b, eb, q⟩ := (OutE.bnd (k s1)).rdO s1
  show rIsiM X.K [v, cv] H1 Q
  rw [hK]
  exact isi_one s1 rv c eb ((q s1).pure s1 _ (by unfold Rp; rfl))
theorem snd_isiN {ys : List Nm} {cvs : List V} {cus : List Value} {n : Nat} {q : Pos} (hK : X.K = B.K) (hg : Gl X "isinstance") (hm : X.mg "isinstance" = none) (ha : PE X a (LE B W_ ma)) (hc : PA X es (fun _ H Q => Q cvs H)) (c : ClRs B.K B sub ys cvs cus) (hn : ys ≠ []) (hl : cvs.length ≤ 1000) (h1 : isSt a = false) :
    PE X (.Call (.Name "isinstance" p) [a, .Tuple es n q] [] pos) (LE B W_ (mIsi sub ys ma)) := by
  refine PE.weak (pe_callB call_isiM hg hm boot_isinstance (pa_cons ha (pa_cons (pe_tup hc) pa_nil (star_cons rfl)) (star_cons h1)) (by decide) (by decide) (star_cons h1) (back_any (by intro z hz; cases List.mem_singleton.mp hz; rfl))) ?_
  rintro σ H Q ⟨ρ, h, s, S, E, o⟩
  refine ⟨ρ, h, s, S, E, (OutE.bnd o).mono fun w ρ1 h1 H1 s1 e1 k v rv => ?_⟩
  refine ⟨by rw [sizeLine_eq]; omega, fun tp htp => ?_⟩
  show rIsiM X.K [v, .ref tp] (upd H1 tp (.tup cvs)) Q
  obtain ⟨S2, X2, _⟩ := side_new (u := .tup cvs) s1 htp
  cases eb : tyAny sub h1 w ys with
  | none =>
    have k := k s1
    unfold MI.bnd MI.rdO at k
    dsimp only at k
    rw [eb] at k
    exact k.elim
  | some b =>
    have k := k s1
    unfold MI.bnd MI.rdO at k
    dsimp only at k
    rw [eb] at k
    rw [hK]
    exact isi_many S2 (rv.ext X2 s1) c hn upd_same eb (k ρ1 _ S2 X2 _ (by unfold Rp; rfl))
/-! ### calls of defs -/
/-- a def's promise by its run -/
def spF (B : Bs) (n : Nat) (m : List W → Mo W) : Sp := fun vs H Q E => vs.length = n ∧ ∃ ρ h ws, Sim B ρ h H ∧ Rps B ρ h.length H ws vs ∧ (match m ws h with
  | .ok w h' => ∀ ρ' H' v, Sim B ρ' h' H' → Ext ρ h H ρ' h' H' → Rp B ρ' h'.length H' w v → Q v H'
  | .ex c h' => ∀ ρ' H', Sim B ρ' h' H' → Ext ρ h H ρ' h' H' → E (.ref (B.ca c)) none H'
  | .bad => False)
theorem snd_call {CX : CXT} {k : Nat} {f : Addr} {fd : FuncData} {ps : List Str} {m : List W → Mo W} {n : Nat} (F : FnG X.prog X.w X.K X.mg X.base CX k f fd ps (spF B n m)) (gd : X.A.guards = some []) (hr : Room k X.A) (hg : Gl X x) (hm : X.mg x = some (.ref f)) (hk : PySem.W.keepIn X.K (.ref f) = true) (hb : Binds X.K fd ps [])
    (hx : ∀ σ, PassesAt CX X σ (WE W_ σ)) (ha : PA X (e :: es) (LA B W_ mr)) (hdb : (x == ("__debug__" : Str)) = false) (hst : ∀ z ∈ e :: es, isSt z = false) (hl : ∀ s h ws h', mr s h = .ok ws h' → ws.length = n) :
    PE X (.Call (.Name x p) (e :: es) [] pos) (LE B W_ fun s => bnd (mr s) m) := by
  refine PE.weak (pe_callG F gd hr hg hm hk hb hx ha hdb (star_cons (hst e List.mem_cons_self)) (back_any fun z hz => hst z (List.mem_cons_of_mem _ hz))) ?_
  rintro σ H Q ⟨ρ, h, s, S, E, o⟩
  have o' := OutE.bnd o
  refine ⟨ρ, h, s, S, E, ?_⟩
  have lw := hl s h
  cases hm2 : mr s h with
  | bad => rw [hm2] at o'; exact o'
  | ex c h1 => rw [hm2] at o'; exact o'
  | ok ws h1 =>
    rw [hm2] at o'
    intro ρ1 H1 s1 e1 vs rvs
    have k := o' ρ1 H1 s1 e1 s1
    refine ⟨by rw [rvs.len]; exact lw ws h1 hm2, ρ1, h1, ws, s1, rvs, ?_⟩
    cases hf : m ws h1 with
    | bad => rw [hf] at k; exact k
    | ex c h2 => rw [hf] at k; exact k
    | ok w h2 => rw [hf] at k; exact fun ρ' H' v s' e' r => k ρ' H' s' e' v r
/-! ### list(range(..)) -/
theorem rg_ok {i j : Int} (h1 : smallR i = true) (h2 : smallR j = true) (h3 : (j - i).toNat ≤ LN) : RgOk i j := by
  have e62 : (2 : Int) ^ 62 = 4611686018427387904 := by decide
  have e24 : (2 : Nat) ^ 24 = 16777216 := by decide
  unfold smallR at h1 h2
  rw [Bool.and_eq_true, decide_eq_true_eq, decide_eq_true_eq] at h1 h2
  unfold RgOk
  rw [e62, e24]
  exact ⟨h1.1, h1.2, h2.1, h2.2, h3⟩
theorem rgL_Rps {ρ : Nat → Addr} {H : Hp} {L : Nat} {i j : Int} : Rps B ρ L H (rngL i (j - i).toNat) (rgV i j) := by
  unfold rngL rgV
  have : ∀ l : List Nat, Rps B ρ L H (l.map fun (k : Nat) => W.int (i + k)) (l.map fun (k : Nat) => V.int (i + k)) := fun l => by
    induction l with
    | nil => unfold Rps; trivial
    | cons a r ih =>
      rw [List.map_cons, List.map_cons]
      unfold Rps
      exact ⟨by unfold Rp; rfl, ih⟩
  exact this _
theorem rgL_len {i : Int} {n : Nat} : (rngL i n).length = n := by unfold rngL; rw [List.length_map, List.length_range]
theorem snd_listr1 {q2 : Pos} (hc : X.calm = true) (hg : Gl X "list") (hm : X.mg "list" = none) (hg2 : Gl X "range") (hm2 : X.mg "range" = none) (ha : PE X a (LE B W_ ma)) (h1 : isSt a = false) :
    PE X (.Call (.Name "list" p) [.Call (.Name "range" q2) [a] [] cpos] [] pos) (LE B W_ (mBi .listr fun s => bnd (ma s) fun x => bnd (ret []) fun xs => ret (x :: xs))) := by
  refine PE.weak (pe_listRg hc hg hm (prg_1 hg2 hm2 ha (star_cons h1)) (star_cons rfl)) ?_
  rintro σ H Q ⟨ρ, h, s, S, E, o⟩
  refine ⟨ρ, h, s, S, E, ((OutE.bnd o).bnd).mono fun w ρ1 h1 H1 s1 e1 k v rv => ?_⟩
  have k2 := ((k s1).pure s1) s1
  have o : OutE B W_ ρ1 h1 H1 σ (bnd (rdO fun h => biH h .listr [w]) (fun r => outM (some r)) h1) _ := k2
  obtain ⟨r, er, o⟩ := bi_out s1 o
  cases w with
  | int j =>
    unfold biH rngH at er
    dsimp only at er
    by_cases hj : smallR j = true
    · rw [if_pos hj] at er
      dsimp only at er
      split at er
      · rename_i hz
        cases er
        rw [rgL_len] at hz
        refine ⟨j, rv.int_, rg_ok (by decide) hj (by rw [Int.sub_zero]; exact hz), fun p hp => ?_⟩
        exact outAlloc (u := .lst (rgV 0 j)) o s1 (fun _ z => by cases z) hp fun ρ' H' x' z => ⟨_, z, by have := rgL_Rps (B := B) (ρ := ρ') (H := H') (L := (h1 ++ [O.lst (rngL 0 j.toNat)]).length) (i := 0) (j := j); rw [Int.sub_zero] at this; exact this⟩
      · cases er
    · rw [if_neg hj] at er; cases er
  | _ => cases er
theorem snd_listr2 {q2 : Pos} (hc : X.calm = true) (hg : Gl X "list") (hm : X.mg "list" = none) (hg2 : Gl X "range") (hm2 : X.mg "range" = none) (ha : PE X a (LE B W_ ma)) (hb : PE X b (LE B W_ mb)) (h1 : isSt a = false) (h2 : isSt b = false) :
    PE X (.Call (.Name "list" p) [.Call (.Name "range" q2) [a, b] [] cpos] [] pos) (LE B W_ (mBi .listr fun s => bnd (ma s) fun x => bnd (bnd (mb s) fun y => bnd (ret []) fun ys => ret (y :: ys)) fun xs => ret (x :: xs))) := by
  refine PE.weak (pe_listRg hc hg hm (prg_2 hg2 hm2 ha hb (star_cons h1) (star_cons h2) (back_any (by intro z hz; cases List.mem_singleton.mp hz; exact h2))) (star_cons rfl)) ?_
  rintro σ H Q ⟨ρ, h, s, S, E, o⟩
  refine ⟨ρ, h, s, S, E, ((OutE.bnd o).bnd).mono fun w ρ1 h1 H1 s1 e1 k v rv => ?_⟩
  refine ⟨ρ1, h1, s, s1, E.ext e1 S, (((k s1).bnd).bnd).mono fun w2 ρ2 h2 H2 s2 e2 k2 v2 rv2 => ?_⟩
  have k3 := ((((k2 s2).pure s2) s2).pure s2) s2
  have o : OutE B W_ ρ2 h2 H2 σ (bnd (rdO fun h => biH h .listr [w, w2]) (fun r => outM (some r)) h2) _ := k3
  obtain ⟨r, er, o⟩ := bi_out s2 o
  have rv := rv.ext e2 s1
  cases w with
  | int i =>
    cases w2 with
    | int j =>
      unfold biH rngH at er
      dsimp only at er
      by_cases hj : (smallR i && smallR j) = true
      · rw [if_pos hj] at er
        rw [Bool.and_eq_true] at hj
        dsimp only at er
        split at er
        · rename_i hz
          cases er
          rw [rgL_len] at hz
          refine ⟨i, j, rv.int_, rv2.int_, rg_ok hj.1 hj.2 hz, fun p hp => ?_⟩
          exact outAlloc (u := .lst (rgV i j)) o s2 (fun _ z => by cases z) hp fun ρ' H' x' z => ⟨_, z, rgL_Rps⟩
        · cases er
      · rw [if_neg hj] at er; cases er
    | _ => cases er
  | _ => cases er
end
end MI
/-! MU: a list taken apart to names. -/
namespace MI
open PySem PySem.Spec PyProof.Rows L2
section
variable {prog : Program} {w : World} {A : Around} {E : Value → Shared → Prop} {s : Shared}
theorem drawL {it t : Addr} {items : Array Value} (hne : t ≠ it) : ∀ (n i : Nat) (s : Shared) (Q : List Value → Shared → Prop), s.heap.IsListIter it t i → s.heap.IsList t items → i + n ≤ items.size →
    (∀ h', Heap.IsListIter h' it t (i + n) → Heap.SameBut it s.heap h' → Q ((items.toList.drop i).take n) { s with heap := h' }) → wpAny (model prog w) A (draw (.ref it) n) Q E s
  | 0, i, s, Q, hit, _, _, hQ => by
    show wpAny _ _ (pure []) Q E s
    exact wpAny_pure (by simpa using hQ s.heap hit (Heap.SameBut.refl ..))
  | n + 1, i, s, Q, hit, ht, hle, hQ => by
    have hlt : i < items.size := by omega
    show wpAny _ _ (pyNext (.ref it) >>= _) Q E s
    refine wpAny_bind (wpAny_pyNext_list_item hit ht (x := items[i]) (by simp [hlt]) fun h₁ hit₁ hs₁ => ?_)
    refine wpAny_bind (wpAny_holding (drawL hne n (i + 1) _ _ hit₁ (ht.extBut hs₁.extBut hne) (by omega) fun h₂ hit₂ hs₂ => wpAny_pure ?_))
    have hd : items.toList.drop i = items[i] :: items.toList.drop (i + 1) := by simp [List.drop_eq_getElem_cons, hlt]
    have := hQ h₂ (by rw [show i + (n + 1) = i + 1 + n by omega]; exact hit₂) (hs₁.trans hs₂)
    rw [hd, List.take_succ_cons] at this
    exact this
theorem unpackL {t : Addr} {items : Array Value} {Q : List Value → Shared → Prop} (hh : A.handled = none) (ht : s.heap.IsList t items)
    (hQ : ∀ h', Heap.ExtBut s.heap.objs.size s.heap h' → Q items.toList { s with heap := h' }) : wpAny (model prog w) A (unpackItems (.ref t) items.size none) Q E s := by
  have hlt : t ≠ s.heap.objs.size := by obtain ⟨o, ho, _⟩ := ht; exact Nat.ne_of_lt (Heap.lt_size ho)
  unfold unpackItems
  refine wpAny_bind ?_
  · unfold notIterableAtAll
    refine wpAny_bind (wpAny_specialOf ht.typeIs F.slot_list_iter.lookup ?_)
    refine wpAny_pure ?_
    simp only [Bool.false_eq_true, if_false]
    refine wpAny_bind (wpAny_holding (wpAny_pyIter_list ht ?_))
    refine wpAny_bind (wpAny_holding (drawL hlt items.size 0 _ _ ⟨_, Heap.get?_push_size _ rfl, rfl, rfl⟩ (ht.push _) (by omega) fun h₁ hit₁ hs₁ => ?_))
    have hall : List.take items.size (List.drop 0 items.toList) = items.toList := by
      rw [List.drop_zero]; exact List.take_of_length_le (by simp)
    rw [hall]
    rw [if_neg (by simp)]
    have ht₁ : h₁.IsList t items := (ht.push _).extBut hs₁.extBut hlt
    refine wpAny_bind (wpAny_holding (wpAny_pyNext_list_end hh hit₁ ht₁ (by simp) fun h₂ he₂ => ?_))
    simp only [Option.isSome_none, Bool.false_eq_true, if_false]
    refine wpAny_pure (hQ h₂ fun b o hb e => he₂ b o hb (hs₁.extBut b o hb (Heap.get?_push_of_some _ e)))
theorem assignL {env : PySem.Env} {elts : List Expr} {x1} {pos : Pos} {t : Addr} {items : Array Value} {Q : Unit → Shared → Prop} (hh : A.handled = none) (ht : s.heap.IsList t items)
    (hn : (assignEach elts env).length = items.size) (hstar : (assignEach elts env).findIdx? (·.1) = none)
    (h : ∀ h', Heap.ExtBut s.heap.objs.size s.heap h' → wpAny (model prog w) A (assignInOrder ((assignEach elts env).map (·.2)) items.toList) Q E { s with heap := h' }) :
    wpAny (model prog w) A (assign (.Tuple elts x1 pos) env (.ref t)) Q E s := by
  rw [assign_Tuple]
  refine wpAny_bind (wpAny_standAt ?_)
  unfold unpack
  rw [hn, hstar]
  exact wpAny_bind (wpAny_holding (unpackL hh ht h))
end
/-- a tuple's or a list's items to names -/
def gSq (K : PySem.W.Frag) (n : Nat) (t : TGs) : TG := fun v σ H Q => ∃ a xs, v = .ref a ∧ (SqT K H a xs ∨ SqL K H a xs) ∧ xs.length = n ∧ t xs σ H Q
theorem pg_sq {X : Cx} {pos : Pos} {es : List Expr} {k : Nat} {t : TGs} {n : Nat} (hc : X.calm = true) (h : PGs X es t)
    (hn : (assignEach es X.env).length = n := by rfl) (hst : (assignEach es X.env).findIdx? (·.1) = none := by rfl) : PG X (.Tuple es k pos) (gSq X.K n t) := by
  refine ⟨fun pins s σ H v u Q I r hw => ?_⟩
  obtain ⟨a, xs, e1, hq, hl, hw⟩ := hw
  subst e1
  rcases hq with hq | hq
  · exact (pg_tup (k := k) (pos := pos) hc h hn hst).run pins s σ H (.ref a) u Q I r ⟨a, xs, rfl, hq, hl, hw⟩
  · cases r
    obtain ⟨its, rv, ht, hz⟩ := I.list hq
    have hsz : (assignEach es X.env).length = its.toArray.size := by rw [hn, ← hl, List.size_toArray]; exact rv.length.symm ▸ rfl
    refine assignL (items := its.toArray) (I.ok.hd hc) ht.isList hsz hst fun h' hx => ?_
    have I1 : Inv X pins σ H { s with heap := h' } := I.kept (t' := s.toks) fun b o e => hx b o (Nat.ne_of_lt (Heap.lt_size e)) e
    exact h.run pins _ σ H xs _ Q I1 (by simpa using rv) hw
end MI
/-! MI11: walked things, targets, comprehensions, loops. -/
namespace MI
open PySem PySem.Spec PyProof.Rows L2
section
variable {B : Bs} {ρ ρ' : Nat → Addr} {h h' : AH} {H H' : Hp} {D : Addr}
theorem itR_of {J : It} {JJ : L2.It} (f : ∀ ρ1 h1 H1, Ext ρ h H ρ1 h1 H1 → Sim B ρ1 h1 H1 → ∀ i r, J.item h1 i = some r → match r with
    | some w => JJ.go i H1 ∧ ∀ x H2, JJ.yld i H1 x H2 → Sim B ρ1 h1 H2 ∧ Ext ρ1 h1 H1 ρ1 h1 H2 ∧ Rp B ρ1 h1.length H2 w x
    | none => JJ.stop i H1) : ItR B ρ h H J JJ := by
  intro ρ1 h1 H1 x1 S1 i
  cases e : J.item h1 i with
  | none => trivial
  | some r =>
    have := f ρ1 h1 H1 x1 S1 i r e
    cases r <;> exact this
theorem itR_lst {n : Nat} (hn : n < h.length) : ItR B ρ h H (.lst n) (Itl B.K (ρ n)) := itR_of fun ρ1 h1 H1 x1 S1 i r e => by
  have e : (lstAt h1 n).map (fun ws => ws[i]?) = some r := e
  obtain ⟨ws, el, e2⟩ := Option.map_eq_some_iff.mp e
  obtain ⟨_, xs, t, rr⟩ := lstAt_ S1 el
  rw [x1.old n hn] at t
  cases r with
  | none => exact ⟨xs, t, by rw [rr.len]; exact List.getElem?_eq_none_iff.mp e2⟩
  | some w =>
    obtain ⟨y, ey, ry⟩ := rr.get e2
    refine ⟨⟨xs, y, t, ey⟩, fun x H2 ⟨e2, k⟩ => ?_⟩
    subst e2
    have := k xs t
    rw [ey] at this
    cases this
    exact ⟨S1, .refl, ry⟩
theorem itR_tup {a : Addr} {ws : List W} {xs : List V} (S : Sim B ρ h H) (t : SqT B.K H a xs) (r : Rps B ρ h.length H ws xs) : ItR B ρ h H (.seq ws) (Itt B.K a) := itR_of fun ρ1 h1 H1 x1 S1 i o e => by
  have t1 := sqT_ext x1 S t
  have r1 := Rps.ext x1 S ws r
  have e : some ws[i]? = some o := e
  have e2 := Option.some.inj e
  cases o with
  | none => exact ⟨xs, t1, by rw [r1.len]; exact List.getElem?_eq_none_iff.mp e2⟩
  | some w =>
    obtain ⟨y, ey, ry⟩ := r1.get e2
    refine ⟨⟨xs, y, t1, ey⟩, fun x H2 ⟨e3, k⟩ => ?_⟩
    subst e3
    have := k xs t1
    rw [ey] at this
    cases this
    exact ⟨S1, .refl, ry⟩
theorem itR_str {s : List Nat} (ok : okS s = true) : ItR B ρ h H (.seq (s.map fun c => .str [c])) (Its (st_ s)) := itR_of fun ρ1 h1 H1 x1 S1 i o e => by
  have e0 : (st_ s).cps.size = s.length := List.size_toArray
  have e : some (s.map fun c => W.str [c])[i]? = some o := e
  have e2 := Option.some.inj e
  rw [List.getElem?_map] at e2
  cases ew : s[i]? with
  | none =>
    rw [ew] at e2
    subst e2
    exact (by rw [e0]; exact List.getElem?_eq_none_iff.mp ew : (st_ s).cps.size ≤ i)
  | some c =>
    rw [ew] at e2
    subst e2
    refine ⟨(by rw [e0]; exact (List.getElem?_eq_some_iff.mp ew).1 : i < (st_ s).cps.size), fun x H2 ⟨e2, c', ec, ex⟩ => ?_⟩
    subst e2
    have : (st_ s).cps[i]? = s[i]? := List.getElem?_toArray
    rw [this, ew] at ec
    cases ec
    refine ⟨S1, .refl, ?_⟩
    rw [ex]
    unfold Rp
    exact ⟨rfl, okS_get ok ew⟩
theorem itR_rng {lo : Int} {n : Nat} : ItR B ρ h H (.seq (rngL lo n)) (Itr lo n) := itR_of fun ρ1 h1 H1 x1 S1 i o e => by
  have e : some (rngL lo n)[i]? = some o := e
  have e2 := Option.some.inj e
  unfold rngL at e2
  rw [List.getElem?_map] at e2
  by_cases hi : i < n
  · rw [List.getElem?_range hi] at e2
    subst e2
    refine ⟨hi, fun x H2 ⟨e2, ex⟩ => ?_⟩
    subst e2
    refine ⟨S1, .refl, ?_⟩
    rw [ex]
    unfold Rp
    rfl
  · rw [List.getElem?_eq_none (by rw [List.length_range]; omega)] at e2
    subst e2
    exact (by omega : n ≤ i)
end
section
variable {X : Cx} {B : Bs} {W_ : WX} {tg e a b d : Expr} {es : List Expr} {pos p apos cpos : Pos} {ma mb md : Env → Mo W} {mr : Env → Mo (List W)}
/-- a dict that is only read from now on -/
theorem inv_frz {pins : List (Addr × Obj)} {σ : L2.St} {H : Hp} {s : Shared} {dd : Addr} {ks : List (Key × V)} (I : L2.Inv X pins σ H s) (e : H dd = some (.dK ks)) : ∃ o, L2.Inv X pins σ (upd H dd (.frz o (.dK ks))) s := by
  have ok := I.hok dd _ e
  have hx : ∃ o, s.heap.get? dd = some o := by
    obtain ⟨_, _, vs, _, o, es, ep, h1, _⟩ := (show ObjOk X.prog X.w H s.heap dd (.dK ks) from ok)
    exact ⟨o, h1⟩
  obtain ⟨o, ho⟩ := hx
  have ne : ∀ {b : Addr} {u : HO}, H b = some u → (∀ ks, u ≠ .dK ks) → b ≠ dd := fun {b u} q k z => by
    rw [z, e] at q; cases q; exact k ks rfl
  have neN : ∀ {b : Addr}, H b = none → b ≠ dd := fun {b} q z => by rw [z, e] at q; cases q
  refine ⟨o, I.ok, I.os, I.bare, ⟨I.base.keep, I.base.slot, fun b u q n hb => ?_, I.base.there, fun b xs q => ?_, fun b u1 u2 q => ?_, fun b ps q => ?_⟩, I.loc, I.cell, ?_, fun x c q => ?_, fun p hp => ?_, fun b u q => ?_, I.len⟩
  · have k := I.base.free b u q n hb
    rw [upd_ne (neN k)]; exact k
  · have k := I.base.tups b xs q
    rw [upd_ne (ne k fun _ z => by cases z)]; exact k
  · have k := I.base.frzs b u1 u2 q
    rw [upd_ne (ne k fun _ z => by cases z)]; exact k
  · obtain ⟨more, k⟩ := I.base.tbls b ps q
    exact ⟨more, by rw [upd_ne (ne k fun _ z => by cases z)]; exact k⟩
  · rw [upd_ne (neN I.free)]; exact I.free
  · rw [upd_ne (neN (I.freeC x c q))]; exact I.freeC x c q
  · obtain ⟨k1, k2, k3, k4, k5⟩ := I.pin p hp
    exact ⟨k1, by rw [upd_ne (neN k2)]; exact k2, k3, k4, k5⟩
  · have st : ∀ {u : HO} {b : Addr}, ObjOk X.prog X.w H s.heap b u → ObjOk X.prog X.w (upd H dd (.frz o (.dK ks))) s.heap b u := fun k => k.stay (fun _ _ _ q => q) (fun c q => by rw [upd_ne (ne q fun _ z => by cases z)]; exact q) fun c xs q => by rw [upd_ne (ne q fun _ z => by cases z)]; exact q
    by_cases z : b = dd
    · subst z
      rw [upd_same] at q
      cases q
      exact ⟨ho, st ok⟩
    · rw [upd_ne z] at q
      exact st (I.hok b u q)
/-- .. at an expression's end -/
def tFrz (td : TE) : TE := fun σ H Q => td σ H fun x H1 => ∃ dd ks, x = .ref dd ∧ H1 dd = some (.dK ks) ∧ ∀ o, Q x (upd H1 dd (.frz o (.dK ks)))
theorem pe_frz {td : TE} (he : PE X e td) : PE X e (tFrz td) := by
  refine ⟨fun pins s σ H Q I hyp => thn (he.run pins s σ H _ I hyp) fun u s1 ⟨x, H1, I1, rx, dd, ks, ex, ed, q⟩ => ?_⟩
  obtain ⟨o, I2⟩ := inv_frz I1 ed
  exact ⟨x, _, I2, rx, q o⟩
theorem itR_key {ρ : Nat → Addr} {h : AH} {H : Hp} {n : Nat} {kvs : List (W × W)} {ks : List (Key × V)} {o : Obj} (S : Sim B ρ h H) (e : h[n]? = some (.frd kvs)) (e1 : H (ρ n) = some (.frz o (.dK ks))) (r : RpD B ρ h.length H kvs ks) : ItR B ρ h H (.seq (kvs.map fun kv => kv.1)) (Itk (ρ n) o ks) := itR_of fun ρ1 h1 H1 x1 S1 i oo ei => by
  have f1 := (x1.frz n kvs e).2
  rw [e1] at f1
  have ei : some (kvs.map fun kv => kv.1)[i]? = some oo := ei
  have e2 := Option.some.inj ei
  rw [List.getElem?_map] at e2
  have key : ∀ {kvs : List (W × W)} {ks : List (Key × V)} {i : Nat} {p : W × W}, RpD B ρ h.length H kvs ks → kvs[i]? = some p → ∃ q, ks[i]? = some q ∧ KyR p.1 q.1 := by
    intro kvs
    induction kvs with
    | nil => intro ks i p _ z; simp at z
    | cons a t ih =>
      intro ks i p r z
      obtain ⟨a1, a2⟩ := a
      obtain ⟨y, x, q, rfl, r1, r2, r3⟩ := r.cons_
      cases i with
      | zero =>
        have : (a1, a2) = p := by simpa using z
        subst this
        exact ⟨(y, x), rfl, r1⟩
      | succ i =>
        obtain ⟨q2, h1, h2⟩ := ih r3 (by simpa using z)
        exact ⟨q2, by simpa using h1, h2⟩
  have kyV : ∀ {ρ2 : Nat → Addr} {L2 : Nat} {H2 : Hp} {w : W} {y : Key}, KyR w y → Rp B ρ2 L2 H2 w (kV y) := fun {ρ2 L2 H2 w y} q => by
    cases w <;> cases y <;> first | exact q.elim | skip
    · have q : _ = _ := q
      subst q; unfold Rp; rfl
    · obtain ⟨q1, q2⟩ := (show _ ∧ _ from q)
      subst q1; unfold Rp; exact ⟨rfl, q2⟩
  cases ew : kvs[i]? with
  | none =>
    rw [ew] at e2
    subst e2
    exact ⟨f1, by rw [r.len]; exact List.getElem?_eq_none_iff.mp ew⟩
  | some p =>
    rw [ew] at e2
    subst e2
    obtain ⟨q, h1', h2'⟩ := key r ew
    refine ⟨⟨f1, (List.getElem?_eq_some_iff.mp h1').1⟩, ?_⟩
    rintro x H2 ⟨e3, k, v, e4, e5⟩
    rw [h1'] at e4
    cases e4
    subst e3 e5
    exact ⟨S1, .refl, kyV h2'⟩
def mIt (ma : Env → Mo W) : Env → Mo It := fun s => bnd (ma s) itM
theorem snd_piV (hK : X.K = B.K) (ha : PE X e (LE B W_ ma)) : PI X tg e (LI B W_ (mIt ma)) := by
  refine ⟨fun pins s0 σ H R I ⟨ρ, h, s, S, E, o⟩ => ?_⟩
  have o := OutE.bnd o
  cases hm : ma s h with
  | bad => rw [hm] at o; exact o.elim
  | ex c h' =>
    rw [hm] at o
    exact (pi_list ha).run pins s0 σ H R I ⟨ρ, h, s, S, E, by rw [hm]; exact o⟩
  | ok x h' =>
    rw [hm] at o
    have key : ∀ ρ1 H1, Sim B ρ1 h' H1 → Ext ρ h H ρ1 h' H1 → OutE B W_ ρ1 h' H1 σ (itM x h') fun J ρ2 h2 H2 => ∀ JJ, ItR B ρ2 h2 H2 J JJ → R JJ H2 := fun ρ1 H1 s1 e1 => o ρ1 H1 s1 e1 s1
    have bads : itM x h' = .bad → PI.run (pi_list (tg := tg) ha) pins s0 σ H R I = PI.run (pi_list (tg := tg) ha) pins s0 σ H R I → wpAny (model X.prog X.w) X.A (eval e X.env) (fun v s1 => wpAny (model X.prog X.w) X.A (pyIter v) (PIE X pins σ tg R) X.xe s1) X.xe s0 := fun hb _ =>
      (pi_list ha).run pins s0 σ H R I ⟨ρ, h, s, S, E, by
        rw [hm]
        intro ρ1 H1 s1 e1 v rv
        have k := key ρ1 H1 s1 e1
        rw [hb] at k
        exact k.elim⟩
    cases x with
    | tup ws =>
      refine (pi_tup ha).run pins s0 σ H R I ⟨ρ, h, s, S, E, ?_⟩
      rw [hm]
      intro ρ1 H1 s1 e1 v rv
      obtain ⟨a, xs, ev, t, r⟩ := rv.tup_
      have k := (key ρ1 H1 s1 e1).pure s1
      exact ⟨a, ev, ⟨xs, by rw [hK]; exact t⟩, by rw [hK]; exact k _ (itR_tup s1 t r)⟩
    | str t =>
      refine (pi_str ha).run pins s0 σ H R I ⟨ρ, h, s, S, E, ?_⟩
      rw [hm]
      intro ρ1 H1 s1 e1 v rv
      have k := (key ρ1 H1 s1 e1).pure s1
      exact ⟨st_ t, rv.str_.1, k _ (itR_str rv.str_.2)⟩
    | loc n =>
      have lst : ∀ ws, lstAt h' n = some ws → itM (.loc n) h' = .ok (.lst n) h' → wpAny (model X.prog X.w) X.A (eval e X.env) (fun v s1 => wpAny (model X.prog X.w) X.A (pyIter v) (PIE X pins σ tg R) X.xe s1) X.xe s0 := fun ws el ei => by
        refine (pi_list ha).run pins s0 σ H R I ⟨ρ, h, s, S, E, ?_⟩
        rw [hm]
        intro ρ1 H1 s1 e1 v rv
        obtain ⟨hl, ev⟩ := rv.loc_
        have k := key ρ1 H1 s1 e1
        rw [ei] at k
        have k : ∀ JJ, ItR B ρ1 h' H1 (.lst n) JJ → R JJ H1 := k ρ1 H1 s1 .refl
        obtain ⟨_, xs, t, r⟩ := lstAt_ s1 el
        exact ⟨_, ev, ⟨xs, by rw [hK]; exact t⟩, by rw [hK]; exact k _ (itR_lst hl)⟩
      cases z : h'[n]? with
      | none => exact bads (by show dkyM n h' = _; unfold dkyM; rw [z]) rfl
      | some ob =>
        cases ob with
        | lst ws => exact lst ws (by unfold lstAt; rw [z]) (by show dkyM n h' = _; unfold dkyM; rw [z])
        | frl ws => exact lst ws (by unfold lstAt; rw [z]) (by show dkyM n h' = _; unfold dkyM; rw [z])
        | dct kvs =>
          have ei : itM (.loc n) h' = .ok (.seq (kvs.map fun kv => kv.1)) (h'.set n (.frd kvs)) := by show dkyM n h' = _; unfold dkyM; rw [z]
          refine (pi_keys (pe_frz ha)).run pins s0 σ H R I ⟨ρ, h, s, S, E, ?_⟩
          rw [hm]
          intro ρ1 H1 s1 e1 v rv
          obtain ⟨hl, ev⟩ := rv.loc_
          have k := key ρ1 H1 s1 e1
          rw [ei] at k
          obtain ⟨ks, e2, r2, nd⟩ := dct_ s1 z
          refine ⟨ρ1 n, ks, ev, e2, fun ob => ?_⟩
          obtain ⟨S2, X2⟩ := write_ok (o1 := .frd kvs) (u := .frz ob (.dK ks)) s1 z (fun _ q => by cases q) (fun _ q => by cases q) (fun _ q => by cases q) fun ρ' H' x' q => ⟨ks, ob, q, RpD.ext x' s1 _ r2, nd⟩
          have k2 : ∀ JJ, ItR B ρ1 (h'.set n (.frd kvs)) (upd H1 (ρ1 n) (.frz ob (.dK ks))) (.seq (kvs.map fun kv => kv.1)) JJ → R JJ _ := k ρ1 _ S2 X2
          exact ⟨ρ1 n, ob, ev, .inl ⟨ks, upd_same, k2 _ (itR_key S2 (List.getElem?_set_self hl) upd_same (RpD.ext X2 s1 _ r2))⟩⟩
        | frd kvs =>
          have ei : itM (.loc n) h' = .ok (.seq (kvs.map fun kv => kv.1)) h' := by show dkyM n h' = _; unfold dkyM; rw [z]
          refine (pi_keys ha).run pins s0 σ H R I ⟨ρ, h, s, S, E, ?_⟩
          rw [hm]
          intro ρ1 H1 s1 e1 v rv
          obtain ⟨hl, ev⟩ := rv.loc_
          have k := key ρ1 H1 s1 e1
          rw [ei] at k
          obtain ⟨ks, ob, e2, r2, nd⟩ := s1.obj n _ z
          have k2 : ∀ JJ, ItR B ρ1 h' H1 (.seq (kvs.map fun kv => kv.1)) JJ → R JJ _ := k ρ1 _ s1 .refl
          exact ⟨ρ1 n, ob, ev, .inl ⟨ks, e2, k2 _ (itR_key s1 z e2 r2)⟩⟩
        | _ => exact bads (by show dkyM n h' = _; unfold dkyM; rw [z]) rfl
    | _ => exact bads rfl rfl
theorem small_ {i : Int} (h : smallR i = true) : -(2 ^ 62) ≤ i ∧ i < 2 ^ 62 := by
  have e62 : (2 : Int) ^ 62 = 4611686018427387904 := by decide
  unfold smallR at h
  rw [Bool.and_eq_true, decide_eq_true_eq, decide_eq_true_eq] at h
  omega
def mRng (mr : Env → Mo (List W)) : Env → Mo It := fun s => bnd (mr s) fun ws => ofO (rngH ws)
theorem snd_piR1 (hg : Gl X "range") (hm : X.mg "range" = none) (ha : PE X a (LE B W_ ma)) (h1 : isSt a = false) : PI X tg (.Call (.Name "range" p) [a] [] pos) (LI B W_ (mRng fun s => bnd (ma s) fun x => bnd (ret []) fun xs => ret (x :: xs))) := by
  refine ⟨fun pins s0 σ H R I ⟨ρ, h, s, S, E, o⟩ => (pi_range1 hg hm (pa_cons ha pa_nil (star_cons h1)) (star_cons h1)).run pins s0 σ H R I ?_⟩
  refine ⟨ρ, h, s, S, E, ((OutE.bnd o).bnd).mono fun w ρ1 h1 H1 s1 e1 k xv rx => ?_⟩
  have k2 : OutE B W_ ρ1 h1 H1 σ (ofO (rngH [w]) h1) fun J ρ' h' H' => ∀ JJ, ItR B ρ' h' H' J JJ → R JJ H' := ((k s1).pure s1) s1
  cases hr : rngH [w] with
  | none => rw [hr] at k2; exact k2.elim
  | some J =>
    rw [hr] at k2
    have k3 : ∀ JJ, ItR B ρ1 h1 H1 J JJ → R JJ H1 := k2 ρ1 H1 s1 .refl
    cases w with
    | int j =>
      have hr : (if smallR j = true then some (It.seq (rngL 0 j.toNat)) else none) = some J := hr
      split at hr
      · rename_i g
        cases hr
        exact ⟨j, by rw [rx.int_], (small_ g).1, (small_ g).2, k3 _ itR_rng⟩
      · cases hr
    | _ => cases hr
theorem snd_piR2 (hg : Gl X "range") (hm : X.mg "range" = none) (ha : PE X a (LE B W_ ma)) (hb : PE X b (LE B W_ mb)) (h1 : isSt a = false) (h2 : isSt b = false) : PI X tg (.Call (.Name "range" p) [a, b] [] pos) (LI B W_ (mRng fun s => bnd (ma s) fun x => bnd (bnd (mb s) fun y => bnd (ret []) fun ys => ret (y :: ys)) fun xs => ret (x :: xs))) := by
  refine ⟨fun pins s0 σ H R I ⟨ρ, h, s, S, E, o⟩ => (pi_range2 hg hm (pa_cons ha (pa_cons hb pa_nil (star_cons h2)) (star_cons h1)) (by rw [star_cons h1, star_cons h2]; rfl) (by rw [star_cons h2]; rfl)).run pins s0 σ H R I ?_⟩
  refine ⟨ρ, h, s, S, E, ((OutE.bnd o).bnd).mono fun w ρ1 h1 H1 s1 e1 k xv rx => ?_⟩
  refine ⟨ρ1, h1, s, s1, E.ext e1 S, (((k s1).bnd).bnd).mono fun w2 ρ2 h2 H2 s2 e2 k2 yv ry => ?_⟩
  have k2 : OutE B W_ ρ2 h2 H2 σ (ofO (rngH [w, w2]) h2) fun J ρ' h' H' => ∀ JJ, ItR B ρ' h' H' J JJ → R JJ H' := ((((k2 s2).pure s2) s2).pure s2) s2
  have rx := rx.ext e2 s1
  cases hr : rngH [w, w2] with
  | none => rw [hr] at k2; exact k2.elim
  | some J =>
    rw [hr] at k2
    have k3 : ∀ JJ, ItR B ρ2 h2 H2 J JJ → R JJ H2 := k2 ρ2 H2 s2 .refl
    unfold rngH at hr
    split at hr
    · rename_i j' e1; cases e1
    · rename_i i' j' e1
      cases e1
      split at hr
      · rename_i g
        rw [Bool.and_eq_true] at g
        cases hr
        exact ⟨i', j', by rw [rx.int_, ry.int_], ⟨(small_ g.1).1, (small_ g.1).2, (small_ g.2).1, (small_ g.2).2⟩, k3 _ itR_rng⟩
      · cases hr
    · cases hr
theorem itR_rev {ρ : Nat → Addr} {h : AH} {H : Hp} {n : Nat} : ItR B ρ h H (.seq (rngL 0 n).reverse) (Itc (0 + (n : Int) - 1) (-1) n) := itR_of fun ρ1 h1 H1 x1 S1 i o e => by
  have e : some ((rngL 0 n).reverse)[i]? = some o := e
  have e2 := Option.some.inj e
  have hl : (rngL 0 n).length = n := by unfold rngL; rw [List.length_map, List.length_range]
  by_cases hi : i < n
  · rw [List.getElem?_reverse (by rw [hl]; exact hi), hl] at e2
    unfold rngL at e2
    rw [List.getElem?_map, List.getElem?_range (by omega)] at e2
    subst e2
    refine ⟨hi, fun x H2 ⟨e2, ex⟩ => ?_⟩
    subst e2
    refine ⟨S1, .refl, ?_⟩
    have ec : (0 : Int) + ((n - 1 - i : Nat) : Int) = 0 + (n : Int) - 1 + (i : Nat) * (-1) := by omega
    rw [ex, ← ec]
    unfold Rp
    rfl
  · rw [List.getElem?_eq_none (by rw [List.length_reverse, hl]; omega)] at e2
    subst e2
    exact (by omega : n ≤ i)
theorem snd_piRv {p2 pos2 : Pos} (hg : Gl X "reversed") (hm : X.mg "reversed" = none) (hg2 : Gl X "range") (hm2 : X.mg "range" = none) (ha : PE X a (LE B W_ ma)) (h1 : isSt a = false) : PI X tg (.Call (.Name "reversed" p) [.Call (.Name "range" p2) [a] [] pos2] [] pos) (LI B W_ fun s => bnd (ma s) fun x => ofO (revH x)) := by
  refine ⟨fun pins s0 σ H R I ⟨ρ, h, s, S, E, o⟩ => (pi_revR hg hm (prg_1 hg2 hm2 ha (star_cons h1))).run pins s0 σ H R I ?_⟩
  refine ⟨ρ, h, s, S, E, (OutE.bnd o).mono fun w ρ1 h1 H1 s1 e1 k xv rx => ?_⟩
  have k2 : OutE B W_ ρ1 h1 H1 σ (ofO (revH w) h1) fun J ρ' h' H' => ∀ JJ, ItR B ρ' h' H' J JJ → R JJ H' := k s1
  cases w with
  | int j =>
    unfold revH at k2
    dsimp only at k2
    split at k2
    · rename_i g
      have k3 : ∀ JJ, ItR B ρ1 h1 H1 (.seq (rngL 0 j.toNat).reverse) JJ → R JJ H1 := k2 ρ1 H1 s1 .refl
      refine ⟨j, by rw [rx.int_], by decide, by decide, (small_ g).1, (small_ g).2, ?_⟩
      rw [Int.sub_zero]
      exact k3 _ itR_rev
    · exact k2.elim
  | _ => exact k2.elim
/-! ### targets -/
def tnS : TN → List Nat
  | .one i => [i]
  | .many is => is
  | .tr ts => ttS ts
/-- a target's step -/
def TgR (B : Bs) (t : TN) (g : TG) : Prop := ∀ (ρ : Nat → Addr) (h : AH) (H : Hp) (s s' : Env) (σ : L2.St) (w : W) (v : V) (Q : L2.St → Hp → Prop), Sim B ρ h H → REnv B ρ h.length H s σ → Rp B ρ h.length H w v → bindT h t w s = some s' →
  (∀ σ', REnv B ρ h.length H s' σ' → (∀ vs : List Nat, (∀ i ∈ tnS t, i ∈ vs) → L2.wipe σ' vs = L2.wipe σ vs) → Q σ' H) → g v σ H Q
theorem wipe_at {σ : L2.St} {i : Nat} : ∀ {vs : List Nat}, i ∈ vs → i < σ.length → (L2.wipe σ vs)[i]? = some none
  | [], hm, _ => nomatch hm
  | v :: vs, hm, hl => by
    unfold L2.wipe
    by_cases e : v = i
    · subst e
      rw [List.getElem?_set_self (by rw [wipe_length]; exact hl)]
    · rw [List.getElem?_set_ne e]
      exact wipe_at ((List.mem_cons.mp hm).resolve_left fun z => e z.symm) hl
theorem wipe_congr {σ σ' : L2.St} {vs : List Nat} (hl : σ'.length = σ.length) (hg : ∀ i, i ∉ vs → σ'[i]? = σ[i]?) : L2.wipe σ' vs = L2.wipe σ vs := by
  apply List.ext_getElem?
  intro i
  by_cases hi : i ∈ vs
  · by_cases hb : i < σ.length
    · rw [wipe_at hi hb, wipe_at hi (by rw [hl]; exact hb)]
    · rw [List.getElem?_eq_none (by rw [wipe_length]; omega), List.getElem?_eq_none (by rw [wipe_length]; omega)]
  · rw [wipe_out hi, wipe_out hi, hg i hi]
theorem wipe_set {σ : L2.St} {i : Nat} {x : Option V} {vs : List Nat} (hi : i ∈ vs) : L2.wipe (σ.set i x) vs = L2.wipe σ vs :=
  wipe_congr List.length_set fun j hj => List.getElem?_set_ne fun e => hj (by rw [← e]; exact hi)
theorem wipe_wipe {σ : L2.St} {vs : List Nat} : L2.wipe (L2.wipe σ vs) vs = L2.wipe σ vs := wipe_congr (wipe_length _ _) fun i hi => wipe_out hi
theorem tg_one {i : Nat} : TgR B (.one i) (gName i) := by
  intro ρ h H s s' σ w v Q S E r e q
  cases e
  exact q _ (E.set i r) fun vs hv => wipe_set (hv i List.mem_cons_self)
def gNames : List Nat → TGs
  | [] => gNil
  | i :: r => gCons (gName i) (gNames r)
theorem names_ok {h : AH} {ρ : Nat → Addr} {H : Hp} : ∀ {is : List Nat} {ws : List W} {xs : List V} {s s' : Env} {σ : L2.St} {Q : L2.St → Hp → Prop}, REnv B ρ h.length H s σ → Rps B ρ h.length H ws xs → setAll s is ws = some s' →
    (∀ σ', REnv B ρ h.length H s' σ' → (∀ vs : List Nat, (∀ i ∈ is, i ∈ vs) → L2.wipe σ' vs = L2.wipe σ vs) → Q σ' H) → gNames is xs σ H Q
  | [], [], xs, s, s', σ, Q, E, r, e, q => by
    cases e
    exact ⟨r.nil_, q σ E fun _ _ => rfl⟩
  | [], _ :: _, _, _, _, _, _, _, _, e, _ => by cases e
  | _ :: _, [], _, _, _, _, _, _, _, e, _ => by cases e
  | i :: is, w :: ws, xs, s, s', σ, Q, E, r, e, q => by
    obtain ⟨y, ys, rfl, ry, rr⟩ := r.cons_
    refine ⟨y, ys, rfl, ?_⟩
    exact names_ok (E.set i ry) rr e fun σ' E' hw => q σ' E' fun vs hv => (hw vs fun j hj => hv j (List.mem_cons_of_mem _ hj)).trans (wipe_set (hv i List.mem_cons_self))
theorem tg_many {is : List Nat} : TgR B (.many is) (gSq B.K is.length (gNames is)) := by
  intro ρ h H s s' σ w v Q S E r e q
  unfold bindT at e
  dsimp only at e
  cases w with
  | tup ws =>
    have e : setAll s is ws = some s' := e
    obtain ⟨a, xs, ev, t, r1⟩ := r.tup_
    have ll : ∀ {is : List Nat} {ws : List W} {s s' : Env}, setAll s is ws = some s' → ws.length = is.length := by
      intro is
      induction is with
      | nil => intro ws s s' e; cases ws with | nil => rfl | cons _ _ => cases e
      | cons i is ih => intro ws s s' e; cases ws with | nil => cases e | cons w ws => rw [List.length_cons, List.length_cons, ih e]
    exact ⟨a, xs, ev, .inl t, by rw [r1.len, ll e], names_ok E r1 e q⟩
  | loc n =>
    obtain ⟨hl, ev⟩ := r.loc_
    cases el : lstAt h n with
    | none =>
      have e : (match lstAt h n with | some ws => setAll s is ws | none => none) = some s' := e
      rw [el] at e; cases e
    | some ws =>
      have e : (match lstAt h n with | some ws => setAll s is ws | none => none) = some s' := e
      rw [el] at e
      have e : setAll s is ws = some s' := e
      obtain ⟨_, xs, t, r1⟩ := lstAt_ S el
      have ll : ∀ {is : List Nat} {ws : List W} {s s' : Env}, setAll s is ws = some s' → ws.length = is.length := by
        intro is
        induction is with
        | nil => intro ws s s' e; cases ws with | nil => rfl | cons _ _ => cases e
        | cons i is ih => intro ws s s' e; cases ws with | nil => cases e | cons w ws => rw [List.length_cons, List.length_cons, ih e]
      exact ⟨_, xs, ev, .inr t, by rw [r1.len, ll e], names_ok E r1 e q⟩
  | _ => cases e
def gTt (K : PySem.W.Frag) : Tt → TG
  | .nm i => gName i
  | .tp is => gTup K is.length (gNames is)
def gTts (K : PySem.W.Frag) : List Tt → TGs
  | [] => gNil
  | t :: r => gCons (gTt K t) (gTts K r)
theorem setAll_len : ∀ {is : List Nat} {ws : List W} {s s' : Env}, setAll s is ws = some s' → ws.length = is.length
  | [], [], _, _, _ => rfl
  | [], _ :: _, _, _, e => by cases e
  | _ :: _, [], _, _, e => by cases e
  | _ :: is, _ :: ws, _, _, e => by rw [List.length_cons, List.length_cons, setAll_len (is := is) e]
theorem trs_ok {h : AH} {ρ : Nat → Addr} {H : Hp} : ∀ {ts : List Tt} {ws : List W} {xs : List V} {s s' : Env} {σ : L2.St} {Q : L2.St → Hp → Prop}, REnv B ρ h.length H s σ → Rps B ρ h.length H ws xs → setTr s ts ws = some s' →
    (∀ σ', REnv B ρ h.length H s' σ' → (∀ vs : List Nat, (∀ i ∈ ttS ts, i ∈ vs) → L2.wipe σ' vs = L2.wipe σ vs) → Q σ' H) → gTts B.K ts xs σ H Q
  | [], [], xs, s, s', σ, Q, E, r, e, q => by
    cases e
    exact ⟨r.nil_, q σ E fun _ _ => rfl⟩
  | [], _ :: _, _, _, _, _, _, _, _, e, _ => by cases e
  | .nm _ :: _, [], _, _, _, _, _, _, _, e, _ => by cases e
  | .tp _ :: _, [], _, _, _, _, _, _, _, e, _ => by cases e
  | .nm i :: ts, w :: ws, xs, s, s', σ, Q, E, r, e, q => by
    obtain ⟨y, ys, rfl, ry, rr⟩ := r.cons_
    refine ⟨y, ys, rfl, ?_⟩
    have e : setTr (s.set i (some w)) ts ws = some s' := by cases w <;> exact e
    exact trs_ok (E.set i ry) rr e fun σ' E' hw => q σ' E' fun vs hv => (hw vs fun j hj => hv j (List.mem_cons_of_mem _ hj)).trans (wipe_set (hv i List.mem_cons_self))
  | .tp is :: ts, w :: ws, xs, s, s', σ, Q, E, r, e, q => by
    obtain ⟨y, ys, rfl, ry, rr⟩ := r.cons_
    cases w with
    | tup vs =>
      have e : ((setAll s is vs).bind fun s2 => setTr s2 ts ws) = some s' := e
      cases ea : setAll s is vs with
      | none => rw [ea] at e; cases e
      | some s2 =>
        rw [ea] at e
        obtain ⟨a, zs, ev, t, r1⟩ := ry.tup_
        refine ⟨y, ys, rfl, a, zs, ev, t, by rw [r1.len, setAll_len ea], ?_⟩
        refine names_ok E r1 ea fun σ1 E1 hw1 => ?_
        exact trs_ok E1 rr e fun σ' E' hw => q σ' E' fun vs hv => (hw vs fun j hj => hv j (List.mem_append_right _ hj)).trans (hw1 vs fun j hj => hv j (List.mem_append_left _ hj))
    | _ => cases e
theorem tg_tr {ts : List Tt} : TgR B (.tr ts) (gSq B.K ts.length (gTts B.K ts)) := by
  intro ρ h H s s' σ w v Q S E r e q
  unfold bindT at e
  dsimp only at e
  cases w with
  | tup ws =>
    have e : setTr s ts ws = some s' := e
    obtain ⟨a, xs, ev, t, r1⟩ := r.tup_
    have ll : ∀ {ts : List Tt} {ws : List W} {s s' : Env}, setTr s ts ws = some s' → ws.length = ts.length := by
      intro ts
      induction ts with
      | nil => intro ws s s' e; cases ws with | nil => rfl | cons _ _ => cases e
      | cons i ts ih =>
        intro ws s s' e
        cases ws with
        | nil => cases i <;> cases e
        | cons w ws =>
          rw [List.length_cons, List.length_cons]
          cases i with
          | nm i => rw [ih (show setTr (s.set i (some w)) ts ws = some s' by cases w <;> exact e)]
          | tp is =>
            cases w with
            | tup vs =>
              have e : ((setAll s is vs).bind fun s2 => setTr s2 ts ws) = some s' := e
              obtain ⟨s2, _, e2⟩ := Option.bind_eq_some_iff.mp e
              rw [ih e2]
            | _ => cases e
    exact ⟨a, xs, ev, .inl t, by rw [r1.len, ll e], trs_ok E r1 e q⟩
  | loc n =>
    obtain ⟨hl, ev⟩ := r.loc_
    cases el : lstAt h n with
    | none =>
      have e : (match lstAt h n with | some ws => setTr s ts ws | none => none) = some s' := e
      rw [el] at e; cases e
    | some ws =>
      have e : (match lstAt h n with | some ws => setTr s ts ws | none => none) = some s' := e
      rw [el] at e
      have e : setTr s ts ws = some s' := e
      obtain ⟨_, xs, t, r1⟩ := lstAt_ S el
      have ll : ∀ {ts : List Tt} {ws : List W} {s s' : Env}, setTr s ts ws = some s' → ws.length = ts.length := by
        intro ts
        induction ts with
        | nil => intro ws s s' e; cases ws with | nil => rfl | cons _ _ => cases e
        | cons i ts ih =>
          intro ws s s' e
          cases ws with
          | nil => cases i <;> cases e
          | cons w ws =>
            rw [List.length_cons, List.length_cons]
            cases i with
            | nm i => rw [ih (show setTr (s.set i (some w)) ts ws = some s' by cases w <;> exact e)]
            | tp is =>
              cases w with
              | tup vs =>
                have e : ((setAll s is vs).bind fun s2 => setTr s2 ts ws) = some s' := e
                obtain ⟨s2, _, e2⟩ := Option.bind_eq_some_iff.mp e
                rw [ih e2]
              | _ => cases e
      exact ⟨_, xs, ev, .inr t, by rw [r1.len, ll e], trs_ok E r1 e q⟩
  | _ => cases e
end
end MI
/-! MI12: comprehensions, loops, statements. -/
namespace MI
open PySem PySem.Spec PyProof.Rows L2
section
variable {B : Bs} {W_ : WX} {ρ ρ' : Nat → Addr} {h h' : AH} {H H' : Hp} {D : Addr} {σ : L2.St}
theorem Ext.ununp (x : Ext ρ h H ρ' h' (MI.unp H' D)) (e : H D = none) (S : Sim B ρ h H) : Ext ρ h H ρ' h' H' := by
  refine ⟨x.len, x.knd, x.old, fun a o ea hc => ?_, x.new, fun n kvs en => ?_⟩
  rotate_left
  · obtain ⟨e1, e2⟩ := x.frz n kvs en
    obtain ⟨ks, ob, e3, _⟩ := S.obj n _ en
    rw [unp_ne fun z => by rw [z, e] at e3; cases e3] at e2
    exact ⟨e1, e2⟩
  have q := x.fr a o ea hc
  rw [unp_ne fun z => by subst z; rw [e] at ea; cases ea] at q
  exact q
/-- no exception leaves -/
abbrev WN : WX := fun _ _ _ _ => False
/-- a comprehension's list, when it is done -/
def OutC (B : Bs) (ρ : Nat → Addr) (h : AH) (H : Hp) (r : R (List W)) (Q : VK) : Prop := match r with
  | .ok acc h' => ∀ ρ' H' v, Sim B ρ' (h' ++ [.lst acc]) H' → Ext ρ h H ρ' (h' ++ [.lst acc]) H' → Rp B ρ' (h' ++ [O.lst acc]).length H' (.loc h'.length) v → Q v H'
  | _ => False
def mComp (mi : Env → Mo It) (test : Env → Mo Bool) (elt : Env → Mo W) (t : TN) (own : List Nat) : Env → Mo W := fun s => noEx (bnd (mi s) fun J => bnd (compN test elt t J J.fuel 0 [] (wipeE s own)) fun acc => alloc (.lst acc))
theorem comp_read {mi : Env → Mo It} {test : Env → Mo Bool} {elt : Env → Mo W} {t : TN} {own : List Nat} {g : TG} (hg : TgR B t g) (hown : ∀ i ∈ tnS t, i ∈ own) : ∀ σ H Q, LE B W_ (mComp mi test elt t own) σ H Q → tLc (LI B W_ mi) g (LT B WN test) (LE B WN elt) own σ H Q := by
  rintro σ H Q ⟨ρ, h, s, S, E, o⟩
  refine ⟨ρ, h, s, S, E, ?_⟩
  unfold mComp noEx at o
  cases hm : mi s h with
  | bad => unfold MI.bnd at o; rw [hm] at o; exact o
  | ex c h' => unfold MI.bnd at o; rw [hm] at o; exact o.elim
  | ok J h1 =>
    intro ρ1 H1 S1 X1 JJ it D hD
    have E1 := E.ext X1 S
    -- what is left
    have o1 : OutC B ρ1 h1 H1 (compN test elt t J J.fuel 0 [] (wipeE s own) h1) Q := by
      unfold MI.bnd at o
      rw [hm] at o
      dsimp only at o
      cases hc : compN test elt t J J.fuel 0 [] (wipeE s own) h1 with
      | bad => rw [hc] at o; exact o
      | ex c h2 => rw [hc] at o; exact o.elim
      | ok acc h2 =>
        rw [hc] at o
        exact fun ρ2 H2 v S2 X2 r => o ρ2 H2 S2 (X1.trans X2 S2) v r
    refine ⟨fun i m H2 => ∃ ρ2 h2 ws xs, Sim B ρ2 h2 H2 ∧ Side ρ2 h2 D ∧ H2 D = some (.lst xs) ∧ Rps B ρ2 h2.length H2 ws xs ∧ Ext ρ1 h1 H1 ρ2 h2 (MI.unp H2 D) ∧ OutC B ρ1 h1 H1 (compN test elt t J m i ws (wipeE s own) h2) Q, ⟨J.fuel, ?_⟩, ?_⟩
    · obtain ⟨S2, X2, sd⟩ := side_new (u := .lst []) S1 hD
      refine ⟨ρ1, h1, [], [], S2, sd, upd_same, by unfold Rps; trivial, ?_, o1⟩
      rw [unp_upd, unp_none hD]
      exact .refl
    · rintro i m H2 ⟨ρ2, h2, ws, xs, S2, sd, eD, r, X2, oc⟩
      have X2' := X2.ununp hD S1
      have hso : ∀ v, H2 D = some v → sideO v := fun v ev => by rw [eD] at ev; cases ev; trivial
      cases m with
      | zero => exact oc.elim
      | succ m =>
        unfold compN MI.bnd MI.rdO at oc
        have iti := it ρ2 h2 H2 X2' S2 i
        cases ej : J.item h2 i with
        | none => dsimp only at oc; rw [ej] at oc; exact oc.elim
        | some o2 =>
          rw [ej] at iti
          dsimp only at oc
          rw [ej] at oc
          cases o2 with
          | none =>
            refine .inl ⟨iti, ?_⟩
            obtain ⟨S3, X3⟩ := side_in (o := .lst ws) S2 sd eD trivial (fun _ z => by cases z) X2 fun ρ' H' x' z => ⟨xs, z, Rps.ext x' (S2.unp sd hso) ws (r.unp hso)⟩
            refine oc _ H2 _ S3 X3 ?_
            unfold Rp
            exact ⟨by rw [List.length_append, List.length_singleton]; omega, by rw [at_same]⟩
          | some w =>
            obtain ⟨go, yld⟩ := iti
            refine .inr ⟨go, fun H3 => ∃ ρ2 h2 ws xs, Sim B ρ2 h2 H3 ∧ Side ρ2 h2 D ∧ H3 D = some (.lst xs) ∧ Rps B ρ2 h2.length H3 ws xs ∧ Ext ρ1 h1 H1 ρ2 h2 (MI.unp H3 D) ∧ OutC B ρ1 h1 H1 (compN test elt t J m (i + 1) ws (wipeE s own) h2) Q,
              fun H3 q => ⟨m, Nat.lt_succ_self m, q⟩, fun x H3 hy => ?_⟩
            obtain ⟨S3, X3, rw_⟩ := yld x H3 hy
            have eD3 := sd.kept X3 eD
            have sd3 : Side ρ2 h2 D := sd
            have r3 := Rps.ext X3 S2 ws r
            have hs3 : ∀ v, H3 D = some v → sideO v := fun v ev => by rw [eD3] at ev; cases ev; trivial
            have X23 : Ext ρ1 h1 H1 ρ2 h2 (MI.unp H3 D) := X2.trans X3.unp (S3.unp sd3 hs3)
            have E3 : REnv B ρ2 h2.length H3 s σ := E1.ext (X23.ununp hD S1) S1
            dsimp only at oc
            cases eb : bindT h2 t w (wipeE s own) with
            | none => rw [eb] at oc; exact oc.elim
            | some s' =>
              rw [eb] at oc
              dsimp only at oc
              refine hg ρ2 h2 H3 _ s' _ w x _ S3 (E3.wipe own) rw_ eb fun σ2 E2 hw => ⟨(hw own hown).trans wipe_wipe, ?_⟩
              refine ⟨ρ2, h2, s', S3, E2, ?_⟩
              cases ht : test s' h2 with
              | bad => rw [ht] at oc; exact oc
              | ex c h3 => rw [ht] at oc; exact oc.elim
              | ok b h3 =>
                rw [ht] at oc
                intro ρ3 H4 S4 X4
                have eD4 := sd3.kept X4 eD3
                have sd4 := sd3.ext X4 (by rw [eD3]; exact fun z => by cases z)
                have r4 := Rps.ext X4 S3 ws r3
                have hs4 : ∀ v, H4 D = some v → sideO v := fun v ev => by rw [eD4] at ev; cases ev; trivial
                have X34 : Ext ρ1 h1 H1 ρ3 h3 (MI.unp H4 D) := X23.trans X4.unp (S4.unp sd4 hs4)
                cases b with
                | false =>
                  dsimp only
                  rw [if_neg (by decide)]
                  exact ⟨ρ3, h3, ws, xs, S4, sd4, eD4, r4, X34, oc⟩
                | true =>
                  dsimp only
                  rw [if_pos rfl]
                  refine ⟨ρ3, h3, s', S4, E2.ext X4 S3, ?_⟩
                  dsimp only at oc
                  cases he : elt s' h3 with
                  | bad => rw [he] at oc; exact oc
                  | ex c h4 => rw [he] at oc; exact oc.elim
                  | ok y h4 =>
                    rw [he] at oc
                    dsimp only at oc
                    intro ρ4 H5 S5 X5 v rv
                    have eD5 := sd4.kept X5 eD4
                    have sd5 := sd4.ext X5 (by rw [eD4]; exact fun z => by cases z)
                    have r5 := Rps.ext X5 S4 ws r4
                    have hs5 : ∀ v, H5 D = some v → sideO v := fun v ev => by rw [eD5] at ev; cases ev; trivial
                    have X45 : Ext ρ1 h1 H1 ρ4 h4 (MI.unp H5 D) := X34.trans X5.unp (S5.unp sd5 hs5)
                    split at oc
                    · rename_i hz
                      rw [LN_eq] at hz
                      refine ⟨xs, eD5, by rw [r5.len]; exact hz, ρ4, h4, ws ++ [y], xs ++ [v], ?_, sd5, upd_same, ?_, ?_, oc⟩
                      · have z := (side_new (u := .lst (xs ++ [v])) (S5.unp sd5 hs5) unp_same).1
                        rw [upd_unp] at z
                        exact z
                      · have z := (side_new (u := .lst (xs ++ [v])) (S5.unp sd5 hs5) unp_same).2.1
                        rw [upd_unp] at z
                        exact Rps.ext z (S5.unp sd5 hs5) _ ((r5.append (by unfold Rps; exact ⟨rv, by unfold Rps; trivial⟩)).unp hs5)
                      · rw [unp_upd]
                        exact X45
                    · exact oc.elim
end
section
variable {X : Cx} {B : Bs} {W_ : WX} {tg e a b d elt iter : Expr} {es ifs : List Expr} {pos p apos cpos : Pos} {ma mb md : Env → Mo W} {mr : Env → Mo (List W)}
theorem fold_of (h : ∀ es k q, e ≠ .Set es k q) : ∀ x, foldedSetIterable e X.env x = pure x := by
  intro x
  cases e <;> first | rfl | exact absurd rfl (h _ _ _)
theorem snd_comp {scope : Scope} {own : List (Str × Nat)} {mi : Env → Mo It} {mt : Env → Mo Bool} {me : Env → Mo W} {t : TN} {g : TG} (hc : X.calm = true) (hN : X.N.Nodup) (hi : PI X tg iter (LI B W_ mi)) (ok : BlkOk X.N X.env.scope scope own) (hg : TgR B t g) (hown : ∀ i ∈ tnS t, i ∈ own.map (·.2))
    (pg : ∀ (s : Shared) (H : Hp) (C : Addr) (cl : List (Str × Addr)) (fp : List Addr), PG (X.blk s H scope (compEnvC scope cl C X.env) fp) tg g) (pt : ∀ (s : Shared) (H : Hp) (C : Addr) (cl : List (Str × Addr)) (fp : List Addr), PTs (X.blk s H scope (compEnvC scope cl C X.env) fp) ifs (LT B WN mt))
    (pe : ∀ (s : Shared) (H : Hp) (C : Addr) (cl : List (Str × Addr)) (fp : List Addr), PE (X.blk s H scope (compEnvC scope cl C X.env) fp) elt (LE B WN me)) (hs : ∀ es k q, iter ≠ .Set es k q) :
    PE X (.ListComp elt [⟨tg, iter, ifs, 0⟩] scope pos) (LE B W_ (mComp mi mt me t (own.map (·.2)))) :=
  PE.weak (pe_lc hc hN hi ok pg pt pe (fold_of hs)) (comp_read hg hown)
end
/-! ### statements -/
section
variable {B : Bs} {W_ : WX} {ρ ρ' : Nat → Addr} {h h' : AH} {H H' : Hp} {σ : L2.St}
theorem OutF.from_ {r : R Fl} {D : Ends} (o : OutF B W_ ρ h H r D) (x : Ext ρ h H ρ' h' H') : OutF B W_ ρ' h' H' r D := by
  cases r with
  | bad => exact o
  | ex c h2 => exact o
  | ok f h2 => cases f with
    | nx s' => exact fun ρ2 H2 σ2 s2 e2 => o ρ2 H2 σ2 s2 (x.trans e2 s2)
    | rt w => exact fun ρ2 H2 y s2 e2 => o ρ2 H2 y s2 (x.trans e2 s2)
    | bk s' => exact fun ρ2 H2 σ2 s2 e2 => o ρ2 H2 σ2 s2 (x.trans e2 s2)
    | ct s' => exact fun ρ2 H2 σ2 s2 e2 => o ρ2 H2 σ2 s2 (x.trans e2 s2)
    | xn c s' => exact fun ρ2 H2 σ2 s2 e2 => o ρ2 H2 σ2 s2 (x.trans e2 s2)
/-- an expression within a statement -/
theorem eb_out {α : Type} {m : Mo α} {s : Env} {k : α → Mo Fl} {D : Ends} (S : Sim B ρ h H) (E : REnv B ρ h.length H s σ) (o : OutF B W_ ρ h H (eb m s k h) D) :
    OutE B W_ ρ h H σ (m h) fun a ρ1 h1 H1 => Sim B ρ1 h1 H1 → Ext ρ h H ρ1 h1 H1 → OutF B W_ ρ1 h1 H1 (k a h1) D := by
  unfold eb at o
  cases hm : m h with
  | bad => rw [hm] at o; exact o
  | ex c h1 => rw [hm] at o; exact fun ρ1 H1 s1 e1 => o ρ1 H1 σ s1 e1 (E.ext e1 S)
  | ok a h1 => rw [hm] at o; exact fun ρ1 H1 s1 e1 _ _ => OutF.from_ o e1
theorem PS.weak {X : Cx} {st : Stmt} {t t' : TS} (p : PS X st t) (f : ∀ D σ H, t' D σ H → t D σ H) : PS X st t' := ⟨fun pins s σ H D I h => p.run pins s σ H D I (f D σ H h)⟩
theorem PSs.weak {X : Cx} {st : List Stmt} {t t' : TS} (p : PSs X st t) (f : ∀ D σ H, t' D σ H → t D σ H) : PSs X st t' := ⟨fun pins s σ H D I h => p.run pins s σ H D I (f D σ H h)⟩
theorem for_read {mi : Env → Mo It} {body : Env → Mo Fl} {t : TN} {g : TG} (hg : TgR B t g) : ∀ D σ H, LS B W_ (fun s => eb (mi s) s fun J => forN body t J J.fuel 0 s) D σ H → tFor (LI B W_ mi) g (LS B W_ body) D σ H := by
  rintro D σ H ⟨ρ, h, s, S, E, o⟩
  refine ⟨ρ, h, s, S, E, (eb_out S E o).mono fun J ρ1 h1 H1 S1 X1 k JJ it => ?_⟩
  refine ⟨fun i m σ2 H2 => ∃ ρ2 h2 s2, Sim B ρ2 h2 H2 ∧ Ext ρ1 h1 H1 ρ2 h2 H2 ∧ REnv B ρ2 h2.length H2 s2 σ2 ∧ OutF B W_ ρ2 h2 H2 (forN body t J m i s2 h2) D, ⟨J.fuel, ρ1, h1, s, S1, .refl, E.ext X1 S, k S1 X1⟩, ?_⟩
  rintro i m σ2 H2 ⟨ρ2, h2, s2, S2, X2, E2, oc⟩
  cases m with
  | zero => exact oc.elim
  | succ m =>
    unfold forN MI.bnd MI.rdO at oc
    have iti := it ρ2 h2 H2 X2 S2 i
    cases ej : J.item h2 i with
    | none => dsimp only at oc; rw [ej] at oc; exact oc.elim
    | some o2 =>
      rw [ej] at iti
      dsimp only at oc
      rw [ej] at oc
      cases o2 with
      | none => exact .inl ⟨iti, oc ρ2 H2 σ2 S2 .refl E2⟩
      | some w =>
        obtain ⟨go, yld⟩ := iti
        refine .inr ⟨go, fun σ3 H3 => ∃ ρ3 h3 s3, Sim B ρ3 h3 H3 ∧ Ext ρ1 h1 H1 ρ3 h3 H3 ∧ REnv B ρ3 h3.length H3 s3 σ3 ∧ OutF B W_ ρ3 h3 H3 (forN body t J m (i + 1) s3 h3) D, fun σ' H' q => ⟨m, Nat.lt_succ_self m, q⟩, fun x H3 hy => ?_⟩
        obtain ⟨S3, X3, rx⟩ := yld x H3 hy
        dsimp only at oc
        cases eb : bindT h2 t w s2 with
        | none => rw [eb] at oc; exact oc.elim
        | some s' =>
          rw [eb] at oc
          dsimp only at oc
          refine hg ρ2 h2 H3 s2 s' σ2 w x _ S3 (E2.ext X3 S2) rx eb fun σ3 E3 _ => ⟨ρ2, h2, s', S3, E3, ?_⟩
          have oc := OutF.from_ (ρ' := ρ2) (h' := h2) (H' := H3) oc X3
          have X23 := X2.trans X3 S3
          cases hb : body s' h2 with
          | bad => rw [hb] at oc; exact oc
          | ex c h3 => rw [hb] at oc; exact oc
          | ok f h3 =>
            rw [hb] at oc
            dsimp only at oc
            cases f with
            | nx s4 => exact fun ρ4 H4 σ4 S4 X4 E4 => ⟨ρ4, h3, s4, S4, X23.trans X4 S4, E4, OutF.from_ oc X4⟩
            | ct s4 => exact fun ρ4 H4 σ4 S4 X4 E4 => ⟨ρ4, h3, s4, S4, X23.trans X4 S4, E4, OutF.from_ oc X4⟩
            | bk s4 => exact oc
            | rt w4 => exact oc
            | xn c s4 => exact oc
theorem while_read {mt : Env → Mo Bool} {body : Env → Mo Fl} : ∀ D σ H, LS B W_ (fun s => whileN mt body WF s) D σ H → tWhile (LT B W_ mt) (LS B W_ body) D σ H := by
  rintro D σ H ⟨ρ, h, s, S, E, o⟩
  refine ⟨fun m σ2 H2 => ∃ ρ2 h2 s2, Sim B ρ2 h2 H2 ∧ REnv B ρ2 h2.length H2 s2 σ2 ∧ OutF B W_ ρ2 h2 H2 (whileN mt body m s2 h2) D, ⟨WF, ρ, h, s, S, E, o⟩, ?_⟩
  rintro m σ2 H2 ⟨ρ2, h2, s2, S2, E2, oc⟩
  cases m with
  | zero => exact oc.elim
  | succ m =>
    unfold whileN at oc
    refine ⟨ρ2, h2, s2, S2, E2, (eb_out S2 E2 oc).mono fun b ρ3 h3 H3 S3 X3 k => ?_⟩
    have oc := k S3 X3
    have E3 := E2.ext X3 S2
    cases b with
    | false =>
      dsimp only
      rw [if_neg (by decide)]
      exact oc ρ3 H3 σ2 S3 .refl E3
    | true =>
      dsimp only
      rw [if_pos rfl]
      refine ⟨fun σ' H' => ∃ ρ4 h4 s4, Sim B ρ4 h4 H' ∧ REnv B ρ4 h4.length H' s4 σ' ∧ OutF B W_ ρ4 h4 H' (whileN mt body m s4 h4) D, fun σ' H' q => ⟨m, Nat.lt_succ_self m, q⟩, ρ3, h3, s2, S3, E3, ?_⟩
      unfold MI.bnd at oc
      dsimp only at oc
      cases hb : body s2 h3 with
      | bad => rw [hb] at oc; exact oc
      | ex c h4 => rw [hb] at oc; exact oc
      | ok f h4 =>
        rw [hb] at oc
        dsimp only at oc
        cases f with
        | nx s4 => exact fun ρ4 H4 σ4 S4 X4 E4 => ⟨ρ4, h4, s4, S4, E4, OutF.from_ oc X4⟩
        | ct s4 => exact fun ρ4 H4 σ4 S4 X4 E4 => ⟨ρ4, h4, s4, S4, E4, OutF.from_ oc X4⟩
        | bk s4 => exact oc
        | rt w4 => exact oc
        | xn c s4 => exact oc
theorem asg_read {ma : Env → Mo W} {t : TN} {g : TG} (hg : TgR B t g) : ∀ D σ H, LS B W_ (fun s => eb (ma s) s fun w => bnd (rdO (bindT · t w s)) fun s' => ret (.nx s')) D σ H → tAsg (LE B W_ ma) g D σ H := by
  rintro D σ H ⟨ρ, h, s, S, E, o⟩
  refine ⟨ρ, h, s, S, E, (eb_out S E o).mono fun w ρ1 h1 H1 S1 X1 k v rv => ?_⟩
  have oc := k S1 X1
  unfold MI.bnd MI.rdO at oc
  dsimp only at oc
  cases eb : bindT h1 t w s with
  | none => rw [eb] at oc; exact oc.elim
  | some s' =>
    rw [eb] at oc
    exact hg ρ1 h1 H1 s s' σ w v _ S1 (E.ext X1 S) rv eb fun σ' E' _ => oc ρ1 H1 σ' S1 .refl E'
theorem expr_read {ma : Env → Mo W} : ∀ D σ H, LS B W_ (fun s => eb (ma s) s fun _ => ret (.nx s)) D σ H → tDrop (LE B W_ ma) D σ H := by
  rintro D σ H ⟨ρ, h, s, S, E, o⟩
  exact ⟨ρ, h, s, S, E, (eb_out S E o).mono fun w ρ1 h1 H1 S1 X1 k v rv => k S1 X1 ρ1 H1 σ S1 .refl (E.ext X1 S)⟩
theorem ret_read {ma : Env → Mo W} : ∀ D σ H, LS B W_ (fun s => eb (ma s) s fun w => ret (.rt w)) D σ H → tRet (LE B W_ ma) D σ H := by
  rintro D σ H ⟨ρ, h, s, S, E, o⟩
  exact ⟨ρ, h, s, S, E, (eb_out S E o).mono fun w ρ1 h1 H1 S1 X1 k v rv => k S1 X1 ρ1 H1 v S1 .refl rv⟩
theorem retN_read : ∀ D σ H, LS B W_ (fun _ => ret (.rt .non)) D σ H → tRetN D σ H := by
  rintro D σ H ⟨ρ, h, s, S, E, o⟩
  exact o ρ H .non S .refl (by unfold Rp; rfl)
theorem nx_read : ∀ D σ H, LS B W_ (fun s => ret (.nx s)) D σ H → tNext D σ H := by
  rintro D σ H ⟨ρ, h, s, S, E, o⟩
  exact o ρ H σ S .refl E
theorem bk_read : ∀ D σ H, LS B W_ (fun s => ret (.bk s)) D σ H → tBreak D σ H := by
  rintro D σ H ⟨ρ, h, s, S, E, o⟩
  exact o ρ H σ S .refl E
theorem ct_read : ∀ D σ H, LS B W_ (fun s => ret (.ct s)) D σ H → tCont D σ H := by
  rintro D σ H ⟨ρ, h, s, S, E, o⟩
  exact o ρ H σ S .refl E
theorem if_read {mt : Env → Mo Bool} {m1 m2 : Env → Mo Fl} : ∀ D σ H, LS B W_ (fun s => eb (mt s) s fun k => match k with | true => m1 s | false => m2 s) D σ H → tIfS (LT B W_ mt) (LS B W_ m1) (LS B W_ m2) D σ H := by
  rintro D σ H ⟨ρ, h, s, S, E, o⟩
  refine ⟨ρ, h, s, S, E, (eb_out S E o).mono fun b ρ1 h1 H1 S1 X1 k => ?_⟩
  have oc := k S1 X1
  cases b with
  | true => dsimp only; rw [if_pos rfl]; exact ⟨ρ1, h1, s, S1, E.ext X1 S, oc⟩
  | false => dsimp only; rw [if_neg (by decide)]; exact ⟨ρ1, h1, s, S1, E.ext X1 S, oc⟩
theorem seq_read {m1 m2 : Env → Mo Fl} : ∀ D σ H, LS B W_ (fun s => bnd (m1 s) fun o => match o with | .nx s2 => m2 s2 | o => ret o) D σ H → tSeq (LS B W_ m1) (LS B W_ m2) D σ H := by
  rintro D σ H ⟨ρ, h, s, S, E, o⟩
  refine ⟨ρ, h, s, S, E, ?_⟩
  unfold MI.bnd at o
  dsimp only at o
  cases hm : m1 s h with
  | bad => rw [hm] at o; exact o
  | ex c h1 => rw [hm] at o; exact o
  | ok f h1 =>
    rw [hm] at o
    cases f with
    | nx s2 => exact fun ρ1 H1 σ1 S1 X1 E1 => ⟨ρ1, h1, s2, S1, E1, OutF.from_ o X1⟩
    | rt w => exact o
    | bk s2 => exact o
    | ct s2 => exact o
    | xn c s2 => exact o
end
end MI
/-! MSL: xs[a:c] = ys. -/
namespace MI
open PySem PySem.Spec PyProof.Rows L2
section
variable {X : Cx} {B : Bs} {W_ : WX}
def rSetS (o : V) (lo hi : Option Int) (v : V) (H : Hp) (Q : Hp → Prop) : Prop := ∃ l b xs ys a c, o = .ref l ∧ v = .ref b ∧ lo = some a ∧ hi = some c ∧ H l = some (.lst xs) ∧ H b = some (.lst ys) ∧ l ≠ b ∧ 0 ≤ a ∧ a ≤ c ∧ c ≤ xs.length ∧ xs.length + ys.length ≤ sizeLine ∧ Q (upd H l (.lst (xs.take a.toNat ++ ys ++ xs.drop c.toNat)))
def gSubL (to : TE) (tl th : TO) : TG := fun v σ H Q => to σ H fun o H1 => tl σ H1 fun l H2 => th σ H2 fun u H3 => rSetS o l u v H3 fun H4 => Q σ H4
theorem part_int {v : Value} {i : Int} (p : IsPart v (some i)) : RelV (.int i) v := by
  cases p with
  | int i t => exact ⟨t, rfl⟩
theorem pg_subL {o : Expr} {lo hi : Option Expr} {to : TE} {tl th : TO} {p2 pos : Pos} (ho : PE X o to) (hl : PO X lo tl) (hh : PO X hi th) : PG X (.Subscript o (.Slice lo hi none p2) pos) (gSubL to tl th) := by
  refine ⟨fun pins s σ H v u Q I r h => ?_⟩
  have ha : assign (.Subscript o (.Slice lo hi none p2) pos) X.env u = (do
    let ov ← holding [u] (eval o X.env)
    let iv ← holding [u, ov] (eval (.Slice lo hi none p2) X.env)
    standAt pos
    holding [u, ov, iv] (setItem ov iv u)
    release [iv, u, ov] []) := by rfl
  rw [ha]
  refine wpAny_bind (wpAny_holding (thn (ho.run pins s σ H _ I h) fun ov s1 ⟨x, H1, I1, r1, q1⟩ => ?_))
  refine wpAny_bind (wpAny_holding ?_)
  refine PySem.wpAny_Slice (thn (hl.run pins s1 σ H1 _ I1 q1) fun vl s2 ⟨l, H2, I2, pl, q2⟩ => thn (hh.run pins s2 σ H2 _ I2 q2) fun vu s3 ⟨uu, H3, I3, pu, q3⟩ => ?_)
  rw [evalPart_none]
  refine wpAny_pure ?_
  have I4 : Inv X pins σ H3 { s3 with heap := s3.heap.push { cls := .type "slice", data := .fields #[vl, vu, .none] } } := I3.kept (t' := s3.toks) fun b ob q => Heap.get?_push_of_some _ q
  obtain ⟨l0, b0, xs, ys, a, c, rfl, rfl, rfl, rfl, e1, e2, hne, h0, hac, hc, hz, q⟩ := q3
  cases r1
  cases r
  refine wpAny_bind (wpAny_standAt (wpAny_bind (wpAny_holding ?_)))
  refine set_slice I4 e1 e2 hne (Heap.IsSliceOf.new ..) (part_int pl) (part_int pu) h0 hac hc hz fun s' I5 => ?_
  exact wpAny_release ⟨σ, _, I5, q⟩
theorem asgL_read {me mo : Env → Mo W} {ml mh : Env → Mo (Option Int)} : ∀ D σ H, LS B W_ (fun s => eb (bnd (me s) fun w => bnd (mo s) fun x => bnd (ml s) fun l => bnd (mh s) fun u => match x with
    | .loc n => setSl n l u w
    | _ => bad) s fun _ => ret (.nx s)) D σ H → tAsg (LE B W_ me) (gSubL (LE B W_ mo) (LO B W_ ml) (LO B W_ mh)) D σ H := by
  rintro D σ H ⟨ρ, h, s, S, E, o⟩
  have o1 := eb_out S E o
  refine ⟨ρ, h, s, S, E, (OutE.bnd o1).mono fun w ρ1 h1 H1 S1 X1 k1 v rv => ?_⟩
  refine ⟨ρ1, h1, s, S1, E.ext X1 S, (OutE.bnd (k1 S1)).mono fun x ρ2 h2 H2 S2 X2 k2 ov ro => ?_⟩
  refine ⟨ρ2, h2, s, S2, (E.ext X1 S).ext X2 S1, (OutE.bnd (k2 S2)).mono fun l ρ3 h3 H3 S3 X3 k3 => ?_⟩
  refine ⟨ρ3, h3, s, S3, ((E.ext X1 S).ext X2 S1).ext X3 S2, (OutE.bnd (k3 S3)).mono fun u ρ4 h4 H4 S4 X4 k4 => ?_⟩
  have k4 := k4 S4
  have rv4 := ((rv.ext X2 S1).ext X3 S2).ext X4 S3
  have ro4 := (ro.ext X3 S2).ext X4 S3
  have E4 := (((E.ext X1 S).ext X2 S1).ext X3 S2).ext X4 S3
  have X14 : Ext ρ h H ρ4 h4 H4 := ((X1.trans X2 S2).trans X3 S3).trans X4 S4
  cases x with
  | loc n =>
    obtain ⟨hl, eo⟩ := ro4.loc_
    have k4 : OutE B W_ ρ4 h4 H4 σ (setSl n l u w h4) fun a ρ1 h1 H1 => Sim B ρ1 h1 H1 → Ext ρ h H ρ1 h1 H1 → OutF B W_ ρ1 h1 H1 (ret (.nx s) h1) D := k4
    unfold setSl at k4
    cases l with
    | none => exact k4.elim
    | some a =>
      cases u with
      | none => exact k4.elim
      | some c =>
        cases w with
        | loc m =>
          dsimp only at k4
          cases el : lstM h4 n with
          | none => rw [el] at k4; exact k4.elim
          | some xs =>
            cases em : lstM h4 m with
            | none => rw [el, em] at k4; exact k4.elim
            | some ys =>
              rw [el, em] at k4
              dsimp only at k4
              split at k4
              · rename_i g
                obtain ⟨g1, g2, g3, g4, g5⟩ := g
                obtain ⟨e2, zs, e3, r3⟩ := lstM_ S4 el
                obtain ⟨e22, zs2, e32, r32⟩ := lstM_ S4 em
                rw [LN_eq] at g5
                obtain ⟨hm, ev⟩ := rv4.loc_
                refine ⟨ρ4 n, ρ4 m, zs, zs2, a, c, eo, ev, rfl, rfl, e3, e32, fun z => g1 (S4.inj n m hl hm (isF_of e2 fun _ z => by cases z) (isF_of e22 fun _ z => by cases z) z), g2, g3, by rw [r3.len]; exact g4, by rw [r3.len, r32.len]; exact g5, ?_⟩
                obtain ⟨S5, X5⟩ := write_ok (u := .lst (zs.take a.toNat ++ zs2 ++ zs.drop c.toNat)) (o1 := .lst (xs.take a.toNat ++ ys ++ xs.drop c.toNat)) S4 e2 (fun _ q => by cases q) (fun _ q => by cases q) (fun _ q => by cases q) fun ρ' H' x' q => ⟨_, q, (((r3.take _).append r32).append (r3.drop _)).ext x' S4⟩
                exact k4 ρ4 _ S5 X5 S5 (X14.trans X5 S5) ρ4 _ σ S5 .refl (E4.ext X5 S4)
              · exact k4.elim
        | _ => exact k4.elim
  | _ => cases l <;> cases u <;> exact k4.elim
end
/-! ### xs += a tuple -/
section
variable {M : Model} {A : Around} {E : Value → Shared → Prop} {s : Shared}
theorem binop1_none2 {a b : Value} {TA TB nm : String} {Q : Option Value → Shared → Prop} (ha : s.TypeIs a TA) (hb : s.TypeIs b TB) (hne : (Value.type TA == Value.type TB) = false)
    (fa : fillsNumberSlot (.type TA) nm = pure false) (fb : fillsNumberSlot (.type TB) nm = pure false) (h : Q none s) : wpAny M A (binaryOp1 nm a b) Q E s := by
  simp only [binaryOp1]
  refine wpAny_bind (wpAny_typeOf ha (wpAny_bind (wpAny_typeOf hb (wpAny_bind (wpAny_of_eq fa ?_)))))
  simp only [hne, Bool.false_eq_true, if_false]
  refine wpAny_bind (wpAny_of_eq fb ?_)
  simp only [pure_bind, Bool.false_and, Bool.and_false, Bool.false_eq_true, if_false]
  exact wpAny_pure h
theorem iadd_road2 {a b : Value} {Q : Value → Shared → Prop} (ha : s.TypeIs a "list") (hb : s.TypeIs b "tuple") (hc : wpAny M A (call (.builtin "list.__iadd__") [a, b]) Q E s) : wpAny M A (inplaceOp .Add a b) Q E s := by
  have hsl : typeLookup (.type "list") (dunderI "add") = pure (some (.builtin "list.__iadd__")) := PySem.F.slot_list_iadd.lookup
  have hsq : isSeqSlot (some (.builtin "list.__iadd__")) = true := by decide +kernel
  have hfi : fillsInplaceSlot (.type "list") "add" (Operator.Add == .Add) = pure false := by
    unfold fillsInplaceSlot
    show (typeLookup (.type "list") (dunderI "add") >>= fun fi => pure (fi.isSome && !isSeqSlot fi)) = pure false
    rw [hsl]
    show (pure (true && !isSeqSlot (some (.builtin "list.__iadd__"))) : Sem Bool) = pure false
    rw [hsq] <;> rfl
  have hsi : seqSlot? (.type "list") (dunderI "add") = pure (some (.builtin "list.__iadd__")) := PySem.seqSlot_of hsl hsq
  unfold inplaceOp
  refine wpAny_holding ?_
  refine wpAny_bind (wpAny_typeOf ha (wpAny_bind (wpAny_of_eq hfi ?_)))
  show wpAny M A (if false = true then _ else _) Q E s
  rw [if_neg Bool.false_ne_true]
  refine wpAny_bind (binop1_none2 (nm := "add") ha hb (by decide) noFill_list_add noFill_tuple_add ?_)
  refine wpAny_bind (wpAny_of_eq hsi ?_)
  exact wpAny_bind (wpAny_rule hc)
end
theorem iadd_tup (l : Addr) (items : Array Value) (n : Nat) (b : Addr) (items2 : Array Value) (n2 : Nat) (od : Option Addr) (os2 : Array (Option Value)) (hs0 : ¬(!items.isEmpty && Builtin.List.listTooLong (items.size + items2.size)) = true) (hs1 : items.size ≤ sizeLine) (hs2 : items.size + items2.size ≤ sizeLine + 1) :
    Meets (Builtin.«list.__iadd__» ⟨[.ref l, .ref b], []⟩) (fun _ R s => s.heap.get? l = some { cls := .type "list", dict := none, data := .seq items n, slots := #[] } ∧ s.heap.get? b = some { cls := .type "tuple", dict := od, data := .seq items2 n2, slots := os2 } ∧ R (.ok (.ret (Value.ref l))) { s with heap := s.heap.update l (Obj.mapSeq fun x => x ++ items2), toks := s.toks }) :=
  .of_wp fun prog w A R s h => by
    obtain ⟨hp, g, d, tk, os⟩ := s; obtain ⟨hl, hb, h⟩ := h; have f1 := AutoSeq1.idx_int; have f2 := AutoSeq1.sub_tuple_tuple; have f3 := AutoSeq1.sub_list_list; have f4 := AutoSeq1.sub_tuple_list; have f5 := AutoSeq1.sub_list_tuple;
    have hz' : (items ++ items2).size ≤ sizeLine + 1 := by rw [Array.size_append]; exact hs2
    wp_walk using (wpAny_updateSeq hl rfl (hz := hs1) (_hz' := hz')), AutoSeq1.wpAny_loadPart' hl, AutoSeq1.wpAny_loadPart' hb; exact ⟨_, rfl, h⟩
section
variable {X : Cx}
def rExtT (K : PySem.W.Frag) : R2 := fun x y H Q => ∃ l b xs zs, x = .ref l ∧ y = .ref b ∧ H l = some (.lst xs) ∧ SqT K H b zs ∧ xs.length + zs.length ≤ sizeLine ∧ Q (.ref l) (upd H l (.lst (xs ++ zs)))
theorem iop_extT : OpR X (inplaceOp .Add) (rExtT X.K) := by
  intro pins s σ H x y v u Q I rx ry h
  obtain ⟨l, b, xs, zs, rfl, rfl, hH, hB, hz, q⟩ := h
  cases rx
  cases ry
  obtain ⟨z, its, n, r, hl, e⟩ := I.lstM hH
  obtain ⟨its2, r2, pl, z2⟩ := I.tuple hB
  obtain ⟨o2, e2, ec, n2, ed⟩ := pl
  obtain ⟨oc, od, oda, os2⟩ := o2
  simp only at ec ed
  subst ec ed
  have hl2 := r2.length
  have hsz : its.toArray.size + its2.toArray.size ≤ sizeLine := by rw [List.size_toArray, List.size_toArray]; omega
  have hlong : ¬ (!its.toArray.isEmpty && Builtin.List.listTooLong (its.toArray.size + its2.toArray.size)) = true := by
    rw [notLongL hsz, Bool.and_false]
    exact Bool.false_ne_true
  refine iadd_road2 ⟨_, e, rfl⟩ ⟨_, e2, rfl⟩ (call_meets PySem.F.slot_list_iadd ⟨_, e, rfl⟩ PySem.F.entry_list_iadd (PySem.F.args_list_iadd_2 _ _)
    (iadd_tup l its.toArray n b its2.toArray n2 od os2 hlong (by rw [List.size_toArray]; omega) (by omega)) ⟨e, e2, ?_⟩)
  refine ⟨.ref l, _, I.lset (its' := its ++ its2) (t' := s.toks) hH e (by simp) (r.append r2) ?_, rfl, q⟩
  rw [List.length_append]
  omega
end
end MI
/-! MI13: enumerate over a tuple (the hand layer has it over a list). -/
namespace MI
open PySem PySem.Spec PyProof.Rows L2
open Builtin in
/-- enumerate(t), t a tuple: what stands then -/
theorem enumNewT (t : Addr) (items : Array Value) (n : Nat) (dct : Option Addr) (sl : Array (Option Value)) :
    Meets (Builtin.«enumerate.__new__» ⟨[.type "enumerate", .ref t], []⟩) (fun _ R s => s.heap.get? t = some { cls := .type "tuple", dict := dct, data := .seq items n, slots := sl } ∧
      R (.ok (.ret (.ref (s.heap.push { cls := .type "tuple_iterator", data := .fields #[.ref t, .int 0 0] }).objs.size)))
        { s with heap := (s.heap.push { cls := .type "tuple_iterator", data := .fields #[.ref t, .int 0 0] }).push { cls := .type "enumerate", data := .fields #[.none, .bool false, .ref s.heap.objs.size, rawInt 0, .none, .none] } }) := by
  refine Meets.of_wp fun prog w A R s0 hyp => ?_
  obtain ⟨heap0, gens0, drawn0, tk0, os0⟩ := s0
  obtain ⟨ht, fin⟩ := hyp
  have hsub := sub_enumerate
  have hT : Heap.IsTuple (Shared.heap ⟨heap0, gens0, drawn0, tk0, os0⟩) t items := ⟨_, ht, rfl, n, rfl⟩
  wp_walk using AutoSeq1.wpAny_loadPart' ht
  refine wpAny_stack_any fun stk => wpAny_pure ?_
  split
  · rename_i c _ _ _ _ _
    cases (c == Value.type "enumerate") <;> (wp_walk using AutoSeq1.wpAny_loadPart' ht, wpAny_pyIter_tuple hT; exact ⟨_, rfl, fin⟩)
  · wp_walk using AutoSeq1.wpAny_loadPart' ht, wpAny_pyIter_tuple hT
    exact ⟨_, rfl, fin⟩
section
variable {prog : Program} {w : World} {A : Around} {E : Value → Shared → Prop} {s : Shared}
theorem call_enumT {t : Addr} {items : Array Value} {Q : Value → Shared → Prop} (hT : s.heap.IsTuple t items)
    (fin : ∀ h', IsEnum h' (s.heap.objs.size + 1) s.heap.objs.size 0 .none → h'.IsTupleIter s.heap.objs.size t 0 → (∀ b o, s.heap.get? b = some o → h'.get? b = some o) → Q (.ref (s.heap.objs.size + 1)) { s with heap := h' }) :
    wpAny (model prog w) A (call (.type "enumerate") [.ref t]) Q E s := by
  obtain ⟨⟨oc, od, dt, sl⟩, ht, hc, n, hd⟩ := hT
  dsimp only at hc hd
  subst hc hd
  have sz : (s.heap.push { cls := .type "tuple_iterator", data := .fields #[.ref t, .int 0 0] }).objs.size = s.heap.objs.size + 1 := Heap.size_push ..
  refine callType_new F.called_enumerate (by decide) (F.typeCall_enumerate_1 _) (F.newCall_enumerate_1 _) (fun ob => F.args_object_init_2 ob _) F.entry_enumerate_new (enumNewT t items n od sl) ⟨ht, ?_⟩
  show _ ∧ _
  rw [sz]
  have en : IsEnum ((s.heap.push { cls := .type "tuple_iterator", data := .fields #[.ref t, .int 0 0] }).push { cls := .type "enumerate", data := .fields #[.none, .bool false, .ref s.heap.objs.size, rawInt 0, .none, .none] }) (s.heap.objs.size + 1) s.heap.objs.size 0 .none := by
    have q := Heap.get?_push_size (s.heap.push { cls := .type "tuple_iterator", data := .fields #[.ref t, .int 0 0] }) (o := { cls := .type "enumerate", data := .fields #[.none, .bool false, .ref s.heap.objs.size, rawInt 0, .none, .none] }) rfl
    rw [sz] at q
    exact q
  exact ⟨⟨_, en, rfl⟩, fin _ en ⟨_, Heap.get?_push_of_some _ (Heap.get?_push_size _ rfl), rfl, rfl⟩ fun b o x => Heap.get?_push_of_some _ (Heap.get?_push_of_some _ x)⟩
end
section
variable {X : Cx} {pins : List (Addr × Obj)} {σ : L2.St} {H : Hp} {s : Shared} {E : Value → Shared → Prop}
/-- a new pair of a place and an item -/
def NewP (H : Hp) (i : Nat) (x y : V) (H' : Hp) : Prop := ∃ T ob, y = .ref T ∧ H T = none ∧ ob.cls = .type "tuple" ∧ ob.dict = none ∧ H' = upd H T (.frz ob (.tup [.int (i : Nat), x]))
/-- one turn of enumerate -/
theorem enum_step {e it : Addr} {fp : List Addr} {n i : Nat} {P : Nat → Value → Prop} {St : Nat → Heap → Prop} {old : Value} {x : V} {u : Value} {elts : List Expr} {kk : Nat} {tpos : Pos}
    (I : L2.Inv X pins σ H s) (hf : ∀ b ∈ [e, it], FpOk X pins H b) (D : Draws X.prog X.w X.A.in1 it fp n P St) (he : IsEnum s.heap e it ((i : Nat) : Int) old) (hst : St i s.heap) (hlt : i < n) (hne : e ≠ it) (hef : e ∉ fp)
    (hP : ∀ y, P i y → y = u) (ru : RelV x u) :
    wpAny (model X.prog X.w) X.A (pyNext (.ref e)) (fun r s1 => ∃ v, r = some v ∧ wpAny (model X.prog X.w) X.A (letOwnedTupleGo (.Tuple elts kk tpos) (.ref e) v)
      (fun _ s2 => ∃ y H', L2.Inv X pins σ H' s2 ∧ RelV y v ∧ NewP H i x y H' ∧ ((∃ old, IsEnum s2.heap e it (((i + 1 : Nat)) : Int) old) ∧ St (i + 1) s2.heap) ∧ ∀ b ∈ [e, it], H' b = none) E s1) E s := by
  refine wpAny_pyNext_enum_itemD D he hst hlt hne hef fun z h1 tk hz ho st1 hT hsz kp => ?_
  have ez := hP z hz
  subst ez
  refine ⟨_, rfl, wpAny_letOwnedTupleGo_enum (s := { s with heap := h1, toks := tk + 1 }) ho fun h2 he2 sb => ?_⟩
  have le : e < s.heap.objs.size := Heap.lt_size he
  have li : it < s.heap.objs.size := let ⟨_, q⟩ := D.live i s.heap hst; Heap.lt_size q
  have hT2 := (sb.2 _ (Nat.ne_of_gt le)).trans hT
  have new : ObjOk X.prog X.w (upd H s.heap.objs.size (.frz { cls := .type "tuple", data := .seq #[.int i tk, z] } (.tup [.int (i : Nat), x]))) h2 s.heap.objs.size (.frz { cls := .type "tuple", data := .seq #[.int i tk, z] } (.tup [.int (i : Nat), x])) :=
    ⟨hT2, by show 2 ≤ sizeLine; decide, [.int i tk, z], .cons ⟨tk, rfl⟩ (.cons ru .nil), ⟨_, hT2, rfl, _, rfl⟩⟩
  have I2 := I.turnedNew (t' := tk + 1) (ch := [e, it]) (fun b o hb q => (sb.2 b (fun w => hb (by rw [w]; exact List.mem_cons_self))).trans (kp b o (fun w => hb (by rw [w]; exact List.mem_cons_self)) (fun w => hb (by rw [w]; exact List.mem_cons_of_mem _ List.mem_cons_self)) q)) hf (Nat.le_refl _) new
  refine ⟨.ref s.heap.objs.size, _, I2, rfl, ⟨_, _, rfl, I.hok.fresh (Nat.le_refl _), rfl, rfl, rfl⟩, ⟨⟨z, ?_⟩, D.frame _ _ _ st1 fun b hb o q => (sb.2 b (fun w => hef (by rw [← w]; exact hb))).trans q⟩, fun b hb => ?_⟩
  · rw [show (((i + 1 : Nat)) : Int) = (i : Int) + 1 from by omega]
    exact he2
  · have lb : b < s.heap.objs.size := by
      rcases List.mem_cons.mp hb with w | w
      · rw [w]; exact le
      · rw [List.mem_singleton.mp w]; exact li
    rw [upd_ne (Nat.ne_of_lt lb)]
    exact (hf b hb).1
end
/-- the tuple at a, each item in a new pair -/
def IteT (K : PySem.W.Frag) (a : Addr) (m : Nat) : L2.It :=
  ⟨fun i H => ∃ (xs : List V) (x : V), SqT K H a xs ∧ xs[i]? = some x ∧ i < m, fun i H v H' => ∃ x, NewP H i x v H' ∧ ∀ xs, SqT K H a xs → xs[i]? = some x, fun i H => ∃ xs : List V, SqT K H a xs ∧ xs.length = m ∧ m ≤ i⟩
theorem turnT {P : Program} {w : World} {K : PySem.W.Frag} {elts : List Expr} {kk : Nat} {tpos : Pos} {a e it : Addr} {m : Nat} (h1 : e ≠ it) (h2 : e ≠ a) (h3 : a ≠ it) :
    Turn P w K (.Tuple elts kk tpos) (IteT K a m) [e, it] e (fun i h => (∃ old, IsEnum h e it ((i : Nat) : Int) old) ∧ h.IsTupleIter it a i ∧ i ≤ m) where
  mem := List.mem_cons_self
  obj := by
    rintro i h ⟨⟨old, he⟩, ⟨o, ho, hc, hd⟩, _⟩ b hb
    rcases List.mem_cons.mp hb with z | z
    · rw [z]; exact ⟨_, he, fun v q => nomatch q⟩
    · exact ⟨o, by rw [List.mem_singleton.mp z]; exact ho, fun v q => by rw [hd] at q; cases q⟩
  keep := by
    rintro i h h' ⟨⟨old, he⟩, hi, hm⟩ k
    exact ⟨⟨old, k e List.mem_cons_self _ he⟩, hi.at fun o q => k it (List.mem_cons_of_mem _ List.mem_cons_self) o q, hm⟩
  item := by
    intro X hP hw hK hc i pins s σ H E I hf st go
    subst hP hw hK
    obtain ⟨⟨old, he⟩, hit, _⟩ := st
    obtain ⟨xs, x, sq, ex, him⟩ := go
    obtain ⟨its, rv, pl, hz⟩ := I.tuple sq
    have ht : s.heap.IsTuple a its.toArray := pl
    obtain ⟨u, eu, ru⟩ := rv.get ex
    have D := Draws.tuple (prog := X.prog) (w := X.w) (A := X.A.in1) (I.ok.hd hc) it a h3 its.toArray
    have hlt : i < its.toArray.size := by rw [List.size_toArray]; exact (List.getElem?_eq_some_iff.mp eu).1
    refine wpAny_mono (enum_step (elts := elts) (kk := kk) (tpos := tpos) (E := E) I hf D he ⟨hit, ht⟩ hlt h1 (fun hm => by
      rcases List.mem_cons.mp hm with z | z
      · exact h1 z
      · exact h2 (List.mem_singleton.mp z)) (fun y hy => by rw [List.getElem?_toArray, eu] at hy; exact (Option.some.inj hy).symm) ru) (fun r s1 q => ?_) fun _ _ z => z
    obtain ⟨v, ev, q⟩ := q
    refine ⟨v, ev, wpAny_mono q (fun _ s2 q => ?_) fun _ _ z => z⟩
    obtain ⟨y, H', I2, r2, np, st2, fr⟩ := q
    exact ⟨y, H', I2, r2, ⟨x, np, fun ys hy => by rw [I.tuple_inj hy sq]; exact ex⟩, ⟨st2.1, st2.2.1, him⟩, fr⟩
  done := by
    intro X hP hw hK hc i pins s σ H E I hf st hg
    subst hP hw hK
    obtain ⟨⟨old, he⟩, hit, him⟩ := st
    obtain ⟨xs, sq, hl, hm⟩ := hg
    obtain ⟨its, rv, pl, hz⟩ := I.tuple sq
    have ht : s.heap.IsTuple a its.toArray := pl
    have en : i = its.toArray.size := by
      have := rv.length
      rw [List.size_toArray]
      omega
    have D := Draws.tuple (prog := X.prog) (w := X.w) (A := X.A.in1) (I.ok.hd hc) it a h3 its.toArray
    obtain ⟨f0, f1, f2, f3, f4, f5⟩ := hf it (List.mem_cons_of_mem _ List.mem_cons_self)
    refine wpAny_pyNext_enum_endD D he ⟨by rw [← en]; exact hit, ht⟩ fun h' eb => ⟨rfl, I.turned (t' := s.toks) (fun b o hb q => eb b o hb q) f0 f1 f3 f4 f5⟩
  self := fun A i s Q E st q => let ⟨⟨_, he⟩, _⟩ := st; wpAny_pyIter_enum he q
/-- the list at a as it stands at each turn, each item in a new pair -/
def IteL (K : PySem.W.Frag) (a : Addr) : L2.It :=
  ⟨fun i H => ∃ (xs : List V) (x : V), SqL K H a xs ∧ xs[i]? = some x, fun i H v H' => ∃ x, NewP H i x v H' ∧ ∀ xs, SqL K H a xs → xs[i]? = some x, fun i H => ∃ xs : List V, SqL K H a xs ∧ xs.length ≤ i⟩
theorem turnL {P : Program} {w : World} {K : PySem.W.Frag} {elts : List Expr} {kk : Nat} {tpos : Pos} {a e it : Addr} (h1 : e ≠ it) (h2 : e ≠ a) (h3 : a ≠ it) :
    Turn P w K (.Tuple elts kk tpos) (IteL K a) [e, it] e (fun i h => (∃ old, IsEnum h e it ((i : Nat) : Int) old) ∧ h.IsListIter it a i) where
  mem := List.mem_cons_self
  obj := by
    rintro i h ⟨⟨old, he⟩, ⟨o, ho, hc, hd⟩⟩ b hb
    rcases List.mem_cons.mp hb with z | z
    · rw [z]; exact ⟨_, he, fun v q => nomatch q⟩
    · exact ⟨o, by rw [List.mem_singleton.mp z]; exact ho, fun v q => by rw [hd] at q; cases q⟩
  keep := by
    rintro i h h' ⟨⟨old, he⟩, hi⟩ k
    exact ⟨⟨old, k e List.mem_cons_self _ he⟩, hi.at fun o q => k it (List.mem_cons_of_mem _ List.mem_cons_self) o q⟩
  item := by
    intro X hP hw hK hc i pins s σ H E I hf st go
    subst hP hw hK
    obtain ⟨⟨old, he⟩, hit⟩ := st
    obtain ⟨xs, x, sq, ex⟩ := go
    obtain ⟨its, rv, pl, hz⟩ := I.list sq
    obtain ⟨u, eu, ru⟩ := rv.get ex
    have D := Draws.list (prog := X.prog) (w := X.w) (A := X.A.in1) (I.ok.hd hc) it a h3 its.toArray
    have hlt : i < its.toArray.size := by rw [List.size_toArray]; exact (List.getElem?_eq_some_iff.mp eu).1
    refine wpAny_mono (enum_step (elts := elts) (kk := kk) (tpos := tpos) (E := E) I hf D he ⟨hit, pl.isList⟩ hlt h1 (fun hm => by
      rcases List.mem_cons.mp hm with z | z
      · exact h1 z
      · exact h2 (List.mem_singleton.mp z)) (fun y hy => by rw [List.getElem?_toArray, eu] at hy; exact (Option.some.inj hy).symm) ru) (fun r s1 q => ?_) fun _ _ z => z
    obtain ⟨v, ev, q⟩ := q
    refine ⟨v, ev, wpAny_mono q (fun _ s2 q => ?_) fun _ _ z => z⟩
    obtain ⟨y, H', I2, r2, np, st2, fr⟩ := q
    exact ⟨y, H', I2, r2, ⟨x, np, fun ys hy => by rw [I.list_inj hy sq]; exact ex⟩, ⟨st2.1, st2.2.1⟩, fr⟩
  done := by
    intro X hP hw hK hc i pins s σ H E I hf st hg
    subst hP hw hK
    obtain ⟨⟨old, he⟩, hit⟩ := st
    obtain ⟨xs, sq, hx⟩ := hg
    obtain ⟨its, rv, pl, hz⟩ := I.list sq
    have en := rv.length
    obtain ⟨f0, f1, f2, f3, f4, f5⟩ := hf it (List.mem_cons_of_mem _ List.mem_cons_self)
    exact wpAny_pyNext_enum_end (I.ok.hd hc) he hit pl.isList (Array.getElem?_eq_none (by rw [List.size_toArray]; omega)) fun h' eb => ⟨rfl, I.turned (t' := s.toks) (fun b o hb q => eb b o hb q) f0 f1 f3 f4 f5⟩
  self := fun A i s Q E st q => let ⟨⟨_, he⟩, _⟩ := st; wpAny_pyIter_enum he q
/-- the walked thing: a list or a tuple -/
theorem enumL_at : ∀ {ws : List W} {n i : Nat}, (enumL n ws)[i]? = ws[i]?.map fun w => .tup [.int ((n + i : Nat) : Int), w]
  | [], n, i => by simp [enumL]
  | w :: r, n, 0 => by simp [enumL]
  | w :: r, n, i + 1 => by
    unfold enumL
    rw [List.getElem?_cons_succ, List.getElem?_cons_succ, enumL_at]
    have : n + 1 + i = n + (i + 1) := by omega
    rw [this]
section
variable {B : Bs} {ρ ρ' : Nat → Addr} {h h' : AH} {H H' : Hp} {D : Addr}
theorem pair_new {w : W} {v y : V} {i : Nat} {H2 : Hp} (S : Sim B ρ h H) (np : NewP H i v y H2) (r : Rp B ρ h.length H w v) : Sim B ρ h H2 ∧ Ext ρ h H ρ h H2 ∧ Rp B ρ h.length H2 (.tup [.int i, w]) y := by
  obtain ⟨T, ob, rfl, hT, hc, hd, rfl⟩ := np
  obtain ⟨S2, X2, _⟩ := side_new (u := .frz ob (.tup [.int (i : Nat), v])) S hT
  refine ⟨S2, X2, ?_⟩
  unfold Rp
  refine ⟨T, _, rfl, ⟨.inl (.inr ⟨ob, upd_same⟩), .inl ⟨ob, _, upd_same, hc, hd⟩⟩, ?_⟩
  unfold Rps
  refine ⟨by unfold Rp; rfl, ?_⟩
  unfold Rps
  exact ⟨r.ext X2 S, by unfold Rps; trivial⟩
theorem itR_enuT {a : Addr} {ws : List W} {xs : List V} (S : Sim B ρ h H) (t : SqT B.K H a xs) (r : Rps B ρ h.length H ws xs) : ItR B ρ h H (.seq (enumL 0 ws)) (IteT B.K a xs.length) := itR_of fun ρ1 h1 H1 x1 S1 i o e => by
  have t1 := sqT_ext x1 S t
  have r1 := Rps.ext x1 S ws r
  have e : some (enumL 0 ws)[i]? = some o := e
  have e2 := Option.some.inj e
  rw [enumL_at, Nat.zero_add] at e2
  cases ew : ws[i]? with
  | none =>
    rw [ew] at e2
    subst e2
    exact ⟨xs, t1, rfl, by rw [r1.len]; exact List.getElem?_eq_none_iff.mp ew⟩
  | some w =>
    rw [ew] at e2
    subst e2
    obtain ⟨y, ey, ry⟩ := r1.get ew
    refine ⟨⟨xs, y, t1, ey, (List.getElem?_eq_some_iff.mp ey).1⟩, ?_⟩
    rintro x H2 ⟨z, np, k⟩
    have := k xs t1
    rw [ey] at this
    cases this
    exact pair_new S1 np ry
theorem itR_enuL {n : Nat} (hn : n < h.length) : ItR B ρ h H (.enu n) (IteL B.K (ρ n)) := itR_of fun ρ1 h1 H1 x1 S1 i r e => by
  have e : (lstAt h1 n).map (fun ws => ws[i]?.map fun w => .tup [.int i, w]) = some r := e
  obtain ⟨ws, el, e2⟩ := Option.map_eq_some_iff.mp e
  obtain ⟨_, xs, t, rr⟩ := lstAt_ S1 el
  rw [x1.old n hn] at t
  cases ew : ws[i]? with
  | none =>
    rw [ew] at e2
    subst e2
    exact ⟨xs, t, by rw [rr.len]; exact List.getElem?_eq_none_iff.mp ew⟩
  | some w =>
    rw [ew] at e2
    subst e2
    obtain ⟨y, ey, ry⟩ := rr.get ew
    refine ⟨⟨xs, y, t, ey⟩, ?_⟩
    rintro x H2 ⟨z, np, k⟩
    have := k xs t
    rw [ey] at this
    cases this
    exact pair_new S1 np ry
end
section
variable {X : Cx} {B : Bs} {W_ : WX} {e : Expr} {pos p tpos : Pos} {ma : Env → Mo W} {elts : List Expr} {kk : Nat}
def mEnu (ma : Env → Mo W) : Env → Mo It := fun s => bnd (ma s) fun x => match x with
    | .tup xs => ret (.seq (enumL 0 xs))
    | .loc n => bnd (rdO fun h => lstAt h n) fun _ => ret (.enu n)
    | _ => bad
def iEnuL (K : PySem.W.Frag) (te : TE) : TI := fun σ H R => te σ H fun v H1 => ∃ a xs, v = .ref a ∧ SqL K H1 a xs ∧ R (IteL K a) H1
theorem pi_enuL (hg : Gl X "enumerate") (hm : X.mg "enumerate" = none) (he : PE X e (LE B W_ ma)) (h1 : isSt e = false) : PI X (.Tuple elts kk tpos) (.Call (.Name "enumerate" p) [e] [] pos) (iEnuL X.K (LE B W_ ma)) := by
  refine ⟨fun pins s σ H R I hyp => Call_ (ld_blt I hg hm boot_enumerate (PyProof.Rows.callWith_type1 (thn ((pa_cons he pa_nil (star_cons h1)).run pos pins s σ H (fun vs H1 => ∃ a xs, vs = [V.ref a] ∧ SqL X.K H1 a xs ∧ R (IteL X.K a) H1) I ?_) fun us s1 ⟨vs, H1, I1, r1, q1⟩ => ?_) (star_cons h1) rfl))⟩
  · obtain ⟨ρ, h, s, S, E, o⟩ := hyp
    exact ⟨ρ, h, s, S, E, o.mono fun w ρ1 h1 H1 S1 X1 k v rv => let ⟨a, xs, ev, sq, q⟩ := k v rv; ⟨a, xs, by rw [ev], sq, q⟩⟩
  · obtain ⟨a, xs, ex, sq, q⟩ := q1
    subst ex
    obtain ⟨u, rfl, ru⟩ := vals1 r1
    cases ru
    obtain ⟨its, rv, pl, hz⟩ := I1.list sq
    have la : a < s1.heap.objs.size := by obtain ⟨o, z, _⟩ := pl.isList; exact Heap.lt_size z
    refine call_enumerate_list pl.isList fun h' en hit _ keep => wpAny_pyIter_enum en ?_
    have I2 : L2.Inv X pins σ H1 { s1 with heap := h' } := I1.kept (t' := s1.toks) keep
    refine ⟨s1.heap.objs.size + 1, [s1.heap.objs.size + 1, s1.heap.objs.size], _, _, H1, rfl, I2, turnL (Nat.succ_ne_self _) (fun z => absurd la (by rw [← z]; exact Nat.not_lt.mpr (Nat.le_succ _))) (Nat.ne_of_lt la), ⟨⟨.none, en⟩, hit⟩, fun b hb => ?_, q⟩
    have le : s1.heap.objs.size ≤ b := by
      rcases List.mem_cons.mp hb with z | z
      · rw [z]; exact Nat.le_succ _
      · rw [List.mem_singleton.mp z]; exact Nat.le_refl _
    exact I1.fpOk le (I1.hok.fresh le)
def iEnuT (K : PySem.W.Frag) (te : TE) : TI := fun σ H R => te σ H fun v H1 => ∃ a xs, v = .ref a ∧ SqT K H1 a xs ∧ R (IteT K a xs.length) H1
theorem pi_enuT (hg : Gl X "enumerate") (hm : X.mg "enumerate" = none) (he : PE X e (LE B W_ ma)) (h1 : isSt e = false) : PI X (.Tuple elts kk tpos) (.Call (.Name "enumerate" p) [e] [] pos) (iEnuT X.K (LE B W_ ma)) := by
  refine ⟨fun pins s σ H R I hyp => Call_ (ld_blt I hg hm boot_enumerate (PyProof.Rows.callWith_type1 (thn ((pa_cons he pa_nil (star_cons h1)).run pos pins s σ H (fun vs H1 => ∃ a xs, vs = [V.ref a] ∧ SqT X.K H1 a xs ∧ R (IteT X.K a xs.length) H1) I ?_) fun us s1 ⟨vs, H1, I1, r1, q1⟩ => ?_) (star_cons h1) rfl))⟩
  · obtain ⟨ρ, h, s, S, E, o⟩ := hyp
    exact ⟨ρ, h, s, S, E, o.mono fun w ρ1 h1 H1 S1 X1 k v rv => let ⟨a, xs, ev, sq, q⟩ := k v rv; ⟨a, xs, by rw [ev], sq, q⟩⟩
  · obtain ⟨a, xs, ex, sq, q⟩ := q1
    subst ex
    cases r1 with
    | cons r rr =>
      cases rr
      cases r
      obtain ⟨its, rv, pl, hz⟩ := I1.tuple sq
      have ht : s1.heap.IsTuple a its.toArray := pl
      have la : a < s1.heap.objs.size := by obtain ⟨o, z, _⟩ := ht; exact Heap.lt_size z
      refine call_enumT ht fun h' en hit keep => wpAny_pyIter_enum en ?_
      have I2 : L2.Inv X pins σ H1 { s1 with heap := h' } := I1.kept (t' := s1.toks) keep
      refine ⟨s1.heap.objs.size + 1, [s1.heap.objs.size + 1, s1.heap.objs.size], _, _, H1, rfl, I2, turnT (m := xs.length) (Nat.succ_ne_self _) (fun z => absurd la (by rw [← z]; exact Nat.not_lt.mpr (Nat.le_succ _))) (Nat.ne_of_lt la), ⟨⟨.none, en⟩, hit, Nat.zero_le _⟩, fun b hb => ?_, q⟩
      have le : s1.heap.objs.size ≤ b := by
        rcases List.mem_cons.mp hb with z | z
        · rw [z]; exact Nat.le_succ _
        · rw [List.mem_singleton.mp z]; exact Nat.le_refl _
      exact I1.fpOk le (I1.hok.fresh le)
theorem snd_piE (hK : X.K = B.K) (hg : Gl X "enumerate") (hm : X.mg "enumerate" = none) (he : PE X e (LE B W_ ma)) (h1 : isSt e = false) : PI X (.Tuple elts kk tpos) (.Call (.Name "enumerate" p) [e] [] pos) (LI B W_ (mEnu ma)) := by
  refine ⟨fun pins s0 σ H R I ⟨ρ, h, s, S, E, o⟩ => ?_⟩
  have o := OutE.bnd o
  cases hm2 : ma s h with
  | bad => rw [hm2] at o; exact o.elim
  | ex c h' =>
    rw [hm2] at o
    exact (pi_enuT hg hm he h1).run pins s0 σ H R I ⟨ρ, h, s, S, E, by rw [hm2]; exact o⟩
  | ok x h' =>
    rw [hm2] at o
    cases x with
    | tup ws =>
      refine (pi_enuT hg hm he h1).run pins s0 σ H R I ⟨ρ, h, s, S, E, ?_⟩
      rw [hm2]
      intro ρ1 H1 s1 e1 v rv
      obtain ⟨a, xs, ev, t, r⟩ := rv.tup_
      have k := (o ρ1 H1 s1 e1 s1).pure s1
      exact ⟨a, xs, ev, by rw [hK]; exact t, by rw [hK]; exact k _ (itR_enuT s1 t r)⟩
    | loc n =>
      refine (pi_enuL hg hm he h1).run pins s0 σ H R I ⟨ρ, h, s, S, E, ?_⟩
      rw [hm2]
      intro ρ1 H1 s1 e1 v rv
      obtain ⟨hl, ev⟩ := rv.loc_
      obtain ⟨ws, el, k⟩ := (OutE.bnd (o ρ1 H1 s1 e1 s1)).rdO s1
      obtain ⟨_, xs, t, r⟩ := lstAt_ s1 el
      have k := (k s1).pure s1
      exact ⟨ρ1 n, xs, by rw [ev], by rw [hK]; exact t, by rw [hK]; exact k _ (itR_enuL hl)⟩
    | _ =>
      refine (pi_enuT hg hm he h1).run pins s0 σ H R I ⟨ρ, h, s, S, E, ?_⟩
      rw [hm2]
      intro ρ1 H1 s1 e1 v rv
      exact (o ρ1 H1 s1 e1 s1 : False).elim
end
end MI
/-! MZ: zip of two, each a tuple or a list; each pair a new exact tuple. -/
namespace MI
open PySem PySem.Spec PyProof.Rows L2
/-- a tuple or a list at an address -/
def SqZ (k : Bool) (K : PySem.W.Frag) (H : Hp) (a : Addr) (xs : List V) : Prop := match k with
  | true => SqT K H a xs
  | false => SqL K H a xs
def ZSeq (k : Bool) (h : Heap) (a : Addr) (its : Array Value) : Prop := match k with
  | true => h.IsTuple a its
  | false => h.IsList a its
def ZIt (k : Bool) (h : Heap) (it a : Addr) (i : Nat) : Prop := match k with
  | true => h.IsTupleIter it a i
  | false => h.IsListIter it a i
def zObj (k : Bool) (a : Addr) : Obj := match k with
  | true => { cls := .type "tuple_iterator", data := .fields #[.ref a, .int 0 0] }
  | false => { cls := .type "list_iterator", data := .fields #[.ref a, .int 0 0] }
theorem begZ (k : Bool) (a : Addr) (its : Array Value) : Begins (.ref a) (zObj k a) fun h => ZSeq k h a its := by
  cases k
  · exact begins_list a its
  · exact begins_tuple a its
theorem drawsZ {prog : Program} {w : World} {A : Around} (k : Bool) (hh : A.handled = none) (it a : Addr) (hne : a ≠ it) (its : Array Value) :
    Draws prog w A it [it, a] its.size (fun i v => its[i]? = some v) (fun i h => ZIt k h it a i ∧ ZSeq k h a its) := by
  cases k
  · exact Draws.list hh it a hne its
  · exact Draws.tuple hh it a hne its
theorem zit_new {k : Bool} {h : Heap} {it a : Addr} (e : h.get? it = some (zObj k a)) : ZIt k h it a 0 := by
  cases k <;> exact ⟨_, e, rfl, rfl⟩
theorem zit_obj {k : Bool} {h : Heap} {it a : Addr} {i : Nat} (z : ZIt k h it a i) : ∃ o, h.get? it = some o ∧ ∀ v, o.data ≠ .seq v 0 := by
  cases k <;> (obtain ⟨o, e, _, d⟩ := z; exact ⟨o, e, fun v q => by rw [d] at q; cases q⟩)
theorem zit_at {k : Bool} {h h' : Heap} {it a : Addr} {i : Nat} (z : ZIt k h it a i) (x : ∀ o, h.get? it = some o → h'.get? it = some o) : ZIt k h' it a i := by
  cases k
  · exact Heap.IsListIter.at z x
  · exact Heap.IsTupleIter.at z x
theorem zseq_lt {k : Bool} {h : Heap} {a : Addr} {its : Array Value} (z : ZSeq k h a its) : a < h.objs.size := by
  cases k <;> (obtain ⟨o, e, _⟩ := z; exact Heap.lt_size e)
section
variable {X : Cx} {pins : List (Addr × Obj)} {σ : L2.St} {H : Hp} {s : Shared} {E : Value → Shared → Prop}
theorem inv_seq {k : Bool} {a : Addr} {xs : List V} (I : L2.Inv X pins σ H s) (q : SqZ k X.K H a xs) : ∃ its : List Value, Vals xs its ∧ ZSeq k s.heap a its.toArray := by
  cases k
  · obtain ⟨its, r, p, _⟩ := I.list q
    exact ⟨its, r, p.isList⟩
  · obtain ⟨its, r, p, _⟩ := I.tuple q
    exact ⟨its, r, p⟩
theorem inv_inj {k : Bool} {a : Addr} {xs ys : List V} (I : L2.Inv X pins σ H s) (q : SqZ k X.K H a xs) (q' : SqZ k X.K H a ys) : xs = ys := by
  cases k
  · exact I.list_inj q q'
  · exact I.tuple_inj q q'
end
/-- a new pair of two items -/
def NewZ (H : Hp) (x y v : V) (H' : Hp) : Prop := ∃ T ob, v = .ref T ∧ H T = none ∧ ob.cls = .type "tuple" ∧ ob.dict = none ∧ H' = upd H T (.frz ob (.tup [x, y]))
def ItZ (K : PySem.W.Frag) (k1 : Bool) (a : Addr) (k2 : Bool) (b : Addr) : L2.It :=
  ⟨fun i H => ∃ (xs ys : List V) (x y : V), SqZ k1 K H a xs ∧ SqZ k2 K H b ys ∧ xs[i]? = some x ∧ ys[i]? = some y,
    fun i H v H' => ∃ x y, NewZ H x y v H' ∧ (∀ xs, SqZ k1 K H a xs → xs[i]? = some x) ∧ ∀ ys, SqZ k2 K H b ys → ys[i]? = some y,
    fun i H => ∃ xs ys : List V, SqZ k1 K H a xs ∧ SqZ k2 K H b ys ∧ i ≤ xs.length ∧ i ≤ ys.length ∧ (xs.length ≤ i ∨ ys.length ≤ i)⟩
theorem turnZ {P : Program} {w : World} {K : PySem.W.Frag} {elts : List Expr} {kk : Nat} {tpos : Pos} {k1 k2 : Bool} {a b z TI TO i1 i2 : Addr} (D : ZipSep2 z TI TO i1 i2 [i1, a] [i2, b]) (ai1 : a ≠ i1) (bi2 : b ≠ i2) :
    Turn P w K (.Tuple elts kk tpos) (ItZ K k1 a k2 b) [z, TI, TO, i1, i2] z (fun i h => IsZip h z TI TO .none ∧ IsTupOf2 h TI (.ref i1) (.ref i2) ∧ (∃ x y, IsTupOf2 h TO x y) ∧ ZIt k1 h i1 a i ∧ ZIt k2 h i2 b i) := by
  have i1z : i1 ≠ z := fun q => D.zf1 (by rw [q]; exact List.mem_cons_self)
  have i2z : i2 ≠ z := fun q => D.zf2 (by rw [q]; exact List.mem_cons_self)
  have i1TO : i1 ≠ TO := fun q => D.Tf1 (by rw [q]; exact List.mem_cons_self)
  have i2TO : i2 ≠ TO := fun q => D.Tf2 (by rw [q]; exact List.mem_cons_self)
  have i12 : i1 ≠ i2 := fun q => D.sep1_2 (by rw [q]; exact List.mem_cons_self)
  exact {
    mem := by simp
    obj := fun i h st c hc => by
      obtain ⟨hz, hTI, ⟨x, y, hTO⟩, h1, h2⟩ := st
      have e' : c = z ∨ c = TI ∨ c = TO ∨ c = i1 ∨ c = i2 := by simpa using hc
      rcases e' with q | q | q | q | q
      · rw [q]; exact ⟨_, hz, fun v q => nomatch q⟩
      · rw [q]; exact ⟨_, hTI, fun v q => nomatch q⟩
      · rw [q]; exact ⟨_, hTO, fun v q => nomatch q⟩
      · rw [q]; cases k1 <;> (obtain ⟨o, e, _, d⟩ := h1; exact ⟨o, e, fun v q => by rw [d] at q; cases q⟩)
      · rw [q]; cases k2 <;> (obtain ⟨o, e, _, d⟩ := h2; exact ⟨o, e, fun v q => by rw [d] at q; cases q⟩)
    keep := fun i h h' st k => by
      obtain ⟨hz, hTI, ⟨x, y, hTO⟩, h1, h2⟩ := st
      exact ⟨k z (by simp) _ hz, k TI (by simp) _ hTI, ⟨x, y, k TO (by simp) _ hTO⟩, zit_at h1 fun o q => k i1 (by simp) o q, zit_at h2 fun o q => k i2 (by simp) o q⟩
    item := by
      intro X hP hw hK hc i pins s σ H E I hf st go
      subst hP hw hK
      obtain ⟨hz, hTI, ⟨x0, y0, hTO⟩, h1, h2⟩ := st
      obtain ⟨xs, ys, x, y, hqx, hqy, hx, hy⟩ := go
      obtain ⟨its, rv, p⟩ := inv_seq I hqx
      obtain ⟨its2, rv2, p2⟩ := inv_seq I hqy
      obtain ⟨u, hu, ru⟩ := rv.get hx
      obtain ⟨u2, hu2, ru2⟩ := rv2.get hy
      have hzl : z < s.heap.objs.size := Heap.lt_size hz
      have D1 := drawsZ (prog := X.prog) (w := X.w) (A := X.A.in1) k1 (I.ok.hd hc) i1 a ai1 its.toArray
      have D2 := drawsZ (prog := X.prog) (w := X.w) (A := X.A.in1) k2 (I.ok.hd hc) i2 b bi2 its2.toArray
      have hlt1 : i < its.toArray.size := by rw [List.size_toArray]; exact (List.getElem?_eq_some_iff.mp hu).1
      have hlt2 : i < its2.toArray.size := by rw [List.size_toArray]; exact (List.getElem?_eq_some_iff.mp hu2).1
      refine wpAny_pyNext_zipD2_item D D1 D2 hz hTI hTO ⟨h1, p⟩ ⟨h2, p2⟩ hlt1 hlt2 fun x1 x2 h' tk y1 y2 z' TO' st1 st2 hT hsz hk => ?_
      have e1 : x1 = u := by
        have y1 : its.toArray[i]? = some x1 := y1
        rw [List.getElem?_toArray, hu] at y1; exact (Option.some.inj y1).symm
      have e2 : x2 = u2 := by
        have y2 : its2.toArray[i]? = some x2 := y2
        rw [List.getElem?_toArray, hu2] at y2; exact (Option.some.inj y2).symm
      subst e1 e2
      refine ⟨_, rfl, wpAny_letOwnedTupleGo_zip (s := { s with heap := h', toks := tk }) z' fun h'' z'' sb => ?_⟩
      have hT2 : h''.get? s.heap.objs.size = some { cls := .type "tuple", data := .seq #[x1, x2] } := (sb.2 _ (Nat.ne_of_gt hzl)).trans hT
      have new : ObjOk X.prog X.w (upd H s.heap.objs.size (.frz { cls := .type "tuple", data := .seq #[x1, x2] } (.tup [x, y]))) h'' s.heap.objs.size (.frz { cls := .type "tuple", data := .seq #[x1, x2] } (.tup [x, y])) :=
        ⟨hT2, by show 2 ≤ sizeLine; decide, [x1, x2], .cons ru (.cons ru2 .nil), ⟨_, hT2, rfl, _, rfl⟩⟩
      have I1 := I.turnedNew (t' := tk) (ch := [z, TI, TO, i1, i2]) (fun c o hb q => (sb.2 c (fun q' => hb (by simp [q']))).trans (hk c o (fun q' => hb (by simp [q'])) (fun q' => hb (by simp [q'])) (fun q' => hb (by simp [q'])) (fun q' => hb (by simp [q'])) q)) hf (Nat.le_refl _) new
      refine ⟨.ref s.heap.objs.size, _, I1, rfl, ⟨x, y, ⟨_, _, rfl, I.hok.fresh (Nat.le_refl _), rfl, rfl, rfl⟩, fun l hl => by rw [inv_inj I hl hqx]; exact hx, fun l hl => by rw [inv_inj I hl hqy]; exact hy⟩, ⟨z'', ?_, ⟨x1, x2, ?_⟩, ?_, ?_⟩, fun c hcm => ?_⟩
      · exact (sb.2 _ D.TIz).trans (hk _ _ D.TIz D.TITO D.TIi1 D.TIi2 hTI)
      · exact (sb.2 _ D.TOz).trans TO'
      · exact zit_at st1.1 fun o q => (sb.2 _ i1z).trans q
      · exact zit_at st2.1 fun o q => (sb.2 _ i2z).trans q
      · have hlt : c < s.heap.objs.size := by
          have e' : c = z ∨ c = TI ∨ c = TO ∨ c = i1 ∨ c = i2 := by simpa using hcm
          rcases e' with q | q | q | q | q
          · rw [q]; exact hzl
          · rw [q]; exact Heap.lt_size hTI
          · rw [q]; exact Heap.lt_size hTO
          · rw [q]; obtain ⟨_, e1, _⟩ := zit_obj h1; exact Heap.lt_size e1
          · rw [q]; obtain ⟨_, e2, _⟩ := zit_obj h2; exact Heap.lt_size e2
        rw [upd_ne (Nat.ne_of_lt hlt)]
        exact (hf c hcm).1
    done := by
      intro X hP hw hK hc i pins s σ H E I hf st hg
      subst hP hw hK
      obtain ⟨hz, hTI, ⟨x0, y0, hTO⟩, h1, h2⟩ := st
      obtain ⟨xs, ys, hqx, hqy, l1, l2, hend⟩ := hg
      obtain ⟨its, rv, p⟩ := inv_seq I hqx
      obtain ⟨its2, rv2, p2⟩ := inv_seq I hqy
      have e1 := rv.length
      have e2 := rv2.length
      have D1 := drawsZ (prog := X.prog) (w := X.w) (A := X.A.in1) k1 (I.ok.hd hc) i1 a ai1 its.toArray
      have D2 := drawsZ (prog := X.prog) (w := X.w) (A := X.A.in1) k2 (I.ok.hd hc) i2 b bi2 its2.toArray
      refine wpAny_pyNext_zipD2_end D D1 D2 hz hTI hTO ⟨h1, p⟩ ⟨h2, p2⟩ (by rw [List.size_toArray]; omega) (by rw [List.size_toArray]; omega) (by rw [List.size_toArray, List.size_toArray]; omega) fun h' tk hk => ⟨rfl, I.turnedL (t' := tk) (ch := [z, TI, TO, i1, i2]) (fun c o hb q =>
        hk c o (fun q' => hb (by simp [q'])) (fun q' => hb (by simp [q'])) (fun q' => hb (by simp [q'])) (fun q' => hb (by simp [q'])) q) hf⟩
    self := fun A i s Q E st h => wpAny_pyIter_zip st.1 h }
section
variable {B : Bs} {ρ ρ' : Nat → Addr} {h h' : AH} {H H' : Hp}
theorem pair_newZ {w w2 : W} {v v2 y : V} {H2 : Hp} (S : Sim B ρ h H) (np : NewZ H v v2 y H2) (r : Rp B ρ h.length H w v) (r2 : Rp B ρ h.length H w2 v2) : Sim B ρ h H2 ∧ Ext ρ h H ρ h H2 ∧ Rp B ρ h.length H2 (.tup [w, w2]) y := by
  obtain ⟨T, ob, rfl, hT, hc, hd, rfl⟩ := np
  obtain ⟨S2, X2, _⟩ := side_new (u := .frz ob (.tup [v, v2])) S hT
  refine ⟨S2, X2, ?_⟩
  unfold Rp
  refine ⟨T, _, rfl, ⟨.inl (.inr ⟨ob, upd_same⟩), .inl ⟨ob, _, upd_same, hc, hd⟩⟩, ?_⟩
  unfold Rps
  refine ⟨r.ext X2 S, ?_⟩
  unfold Rps
  exact ⟨r2.ext X2 S, by unfold Rps; trivial⟩
def kz : W → Bool
  | .tup _ => true
  | _ => false
/-- one side of a zip as it stands, then and later -/
def ZaR (B : Bs) (ρ : Nat → Addr) (h : AH) (H : Hp) (z : Za) (k : Bool) (ad : Addr) : Prop := ∀ ρ1 h1 H1, Ext ρ h H ρ1 h1 H1 → Sim B ρ1 h1 H1 → ∀ ws, z.get h1 = some ws → ∃ xs, SqZ k B.K H1 ad xs ∧ Rps B ρ1 h1.length H1 ws xs
theorem za_R {x : W} {v : V} {z : Za} (S : Sim B ρ h H) (e : zaH h x = some z) (r : Rp B ρ h.length H x v) : ∃ ad xs, v = .ref ad ∧ ZaR B ρ h H z (kz x) ad ∧ SqZ (kz x) B.K H ad xs := by
  cases x with
  | tup ws =>
    cases e
    obtain ⟨a, xs, ev, t, rr⟩ := r.tup_
    exact ⟨a, xs, ev, fun ρ1 h1 H1 x1 S1 us e => by cases e; exact ⟨xs, sqT_ext x1 S t, Rps.ext x1 S ws rr⟩, t⟩
  | loc n =>
    obtain ⟨ws, el, ez⟩ := Option.map_eq_some_iff.mp e
    subst ez
    obtain ⟨hl, ev⟩ := r.loc_
    obtain ⟨_, xs, t, rr⟩ := lstAt_ S el
    refine ⟨ρ n, xs, ev, fun ρ1 h1 H1 x1 S1 us e => ?_, t⟩
    obtain ⟨_, xs1, t1, r1⟩ := lstAt_ S1 e
    rw [x1.old n hl] at t1
    exact ⟨xs1, t1, r1⟩
  | _ => cases e
theorem itR_zip {a b : Za} {k1 k2 : Bool} {ad bd : Addr} (ra : ZaR B ρ h H a k1 ad) (rb : ZaR B ρ h H b k2 bd) : ItR B ρ h H (.zip a b) (ItZ B.K k1 ad k2 bd) := itR_of fun ρ1 h1 H1 x1 S1 i r e => by
  unfold It.item at e
  dsimp only at e
  cases ea : a.get h1 with
  | none => rw [ea] at e; cases e
  | some xs =>
    cases eb : b.get h1 with
    | none => rw [ea, eb] at e; cases e
    | some ys =>
      rw [ea, eb] at e
      dsimp only at e
      obtain ⟨us, t1, r1⟩ := ra ρ1 h1 H1 x1 S1 xs ea
      obtain ⟨vs, t2, r2⟩ := rb ρ1 h1 H1 x1 S1 ys eb
      split at e
      · rename_i hl
        have e := Option.some.inj e
        have n1 := r1.len
        have n2 := r2.len
        cases ex : xs[i]? with
        | none =>
          rw [ex] at e
          subst e
          exact ⟨us, vs, t1, t2, by omega, by omega, .inl (by rw [n1]; exact List.getElem?_eq_none_iff.mp ex)⟩
        | some x =>
          cases ey : ys[i]? with
          | none =>
            rw [ex, ey] at e
            subst e
            exact ⟨us, vs, t1, t2, by omega, by omega, .inr (by rw [n2]; exact List.getElem?_eq_none_iff.mp ey)⟩
          | some y =>
            rw [ex, ey] at e
            subst e
            obtain ⟨u, eu, ru⟩ := r1.get ex
            obtain ⟨v, ev, rv⟩ := r2.get ey
            refine ⟨⟨us, vs, u, v, t1, t2, eu, ev⟩, ?_⟩
            rintro q H2 ⟨u', v', np, p1, p2⟩
            have g1 := p1 us t1
            have g2 := p2 vs t2
            rw [eu] at g1
            rw [ev] at g2
            cases g1
            cases g2
            exact pair_newZ S1 np ru rv
      · cases e
end
section
variable {X : Cx} {B : Bs} {W_ : WX} {e e2 : Expr} {pos p tpos : Pos} {mr : Env → Mo (List W)} {elts : List Expr} {kk : Nat}
def iZip2 (K : PySem.W.Frag) (k1 k2 : Bool) (ta : TA) : TI := fun σ H R => ta σ H fun vs H1 => ∃ a b xs ys, vs = [.ref a, .ref b] ∧ SqZ k1 K H1 a xs ∧ SqZ k2 K H1 b ys ∧ R (ItZ K k1 a k2 b) H1
theorem pi_zip2 {ta : TA} {k1 k2 : Bool} (hg : Gl X "zip") (hm : X.mg "zip" = none) (ha : PA X [e, e2] ta) (hs : ∀ x ∈ [e, e2], isSt x = false) :
    PI X (.Tuple elts kk tpos) (.Call (.Name "zip" p) [e, e2] [] pos) (iZip2 X.K k1 k2 ta) := by
  have s1 : isSt e = false := hs e List.mem_cons_self
  have s2 : isSt e2 = false := hs e2 (List.mem_cons_of_mem _ List.mem_cons_self)
  have st1 : starEach [e, e2] X.env = (false, eval e X.env) :: starEach [e2] X.env := star_cons s1
  have st2 : (backTo pos (starEach [e2] X.env)).any (·.1) = false := by
    rw [star_cons s2]
    rfl
  refine ⟨fun pins s σ H R I h => ?_⟩
  refine Call_ (ld_blt I hg hm PyProof.Rows.boot_zip (PyProof.Rows.callWith_type1 (thn (ha.run pos pins s σ H _ I h) fun us s1 ⟨vs, H1, I1, r1, q1⟩ => ?_) st1 st2))
  obtain ⟨a, b, xs, ys, ex, hqx, hqy, q⟩ := q1
  subst ex
  cases r1 with
  | cons r rr =>
    cases rr with
    | cons r' rr =>
      cases rr
      cases r
      cases r'
      obtain ⟨its, rv, p1⟩ := inv_seq I1 hqx
      obtain ⟨its2, rv2, p2⟩ := inv_seq I1 hqy
      have la := zseq_lt p1
      have lb := zseq_lt p2
      refine zip_begins2 (begZ k1 a its.toArray) (begZ k2 b its2.toArray) p1 p2 fun h' hz hTI hTO h1 h2 hsz hk => wpAny_pyIter_zip hz ?_
      have I2 : Inv X pins σ H1 { s1 with heap := h' } := I1.kept (t' := s1.toks) hk
      have D : ZipSep2 (s1.heap.objs.size + 4) (s1.heap.objs.size + 2) (s1.heap.objs.size + 3) s1.heap.objs.size (s1.heap.objs.size + 1) [s1.heap.objs.size, a] [s1.heap.objs.size + 1, b] :=
        zip_sep2 (fun c hc => by rw [List.mem_singleton.mp hc]; exact la) (fun c hc => by rw [List.mem_singleton.mp hc]; exact lb)
      have n1 : a ≠ s1.heap.objs.size := Nat.ne_of_lt la
      have n2 : b ≠ s1.heap.objs.size + 1 := Nat.ne_of_lt (Nat.lt_succ_of_lt lb)
      refine ⟨s1.heap.objs.size + 4, [s1.heap.objs.size + 4, s1.heap.objs.size + 2, s1.heap.objs.size + 3, s1.heap.objs.size, s1.heap.objs.size + 1], _, _, H1, rfl, I2, turnZ D n1 n2, ⟨hz, hTI, ⟨_, _, hTO⟩, zit_new h1, zit_new h2⟩, fun c hcm => ?_, q⟩
      have e' : c = s1.heap.objs.size + 4 ∨ c = s1.heap.objs.size + 2 ∨ c = s1.heap.objs.size + 3 ∨ c = s1.heap.objs.size ∨ c = s1.heap.objs.size + 1 := by simpa using hcm
      have hle : s1.heap.objs.size ≤ c := by
        rcases e' with z | z | z | z | z
        · rw [z]; exact Nat.le_add_right _ _
        · rw [z]; exact Nat.le_add_right _ _
        · rw [z]; exact Nat.le_add_right _ _
        · rw [z]; exact Nat.le_refl _
        · rw [z]; exact Nat.le_add_right _ _
      exact I1.fpOk hle (I1.hok.fresh hle)
def mZip (mr : Env → Mo (List W)) : Env → Mo It := fun s => bnd (mr s) zipM
theorem snd_piZ (hK : X.K = B.K) (hg : Gl X "zip") (hm : X.mg "zip" = none) (ha : PA X [e, e2] (LA B W_ mr)) (hs : ∀ x ∈ [e, e2], isSt x = false) : PI X (.Tuple elts kk tpos) (.Call (.Name "zip" p) [e, e2] [] pos) (LI B W_ (mZip mr)) := by
  refine ⟨fun pins s0 σ H R I ⟨ρ, h, s, S, E, o⟩ => ?_⟩
  have o := OutE.bnd o
  cases hm2 : mr s h with
  | bad => rw [hm2] at o; exact o.elim
  | ex c h' =>
    rw [hm2] at o
    exact (pi_zip2 (k1 := true) (k2 := true) hg hm ha hs).run pins s0 σ H R I ⟨ρ, h, s, S, E, by rw [hm2]; exact o⟩
  | ok ws h' =>
    rw [hm2] at o
    match ws, hm2, o with
    | [x, y], hm2, o =>
      refine (pi_zip2 (k1 := kz x) (k2 := kz y) hg hm ha hs).run pins s0 σ H R I ⟨ρ, h, s, S, E, ?_⟩
      rw [hm2]
      intro ρ1 H1 s1 e1 vs rv
      unfold Rps at rv
      match vs, rv with
      | [], rv => exact rv.elim
      | v1 :: vr, rv =>
        obtain ⟨rx, rv⟩ := rv
        unfold Rps at rv
        match vr, rv with
        | [], rv => exact rv.elim
        | v2 :: vr, rv =>
          obtain ⟨ry, rv⟩ := rv
          unfold Rps at rv
          match vr, rv with
          | _ :: _, rv => exact rv.elim
          | [], _ =>
            have k := o ρ1 H1 s1 e1 s1
            have k : OutE B W_ ρ1 h' H1 σ (bnd (rdO fun h => zaH h x) (fun a => bnd (rdO fun h => zaH h y) fun b => ret (MI.It.zip a b)) h') (fun J ρ' h' H' => ∀ (JJ : L2.It), ItR B ρ' h' H' J JJ → R JJ H') := k
            obtain ⟨za, ea, k⟩ := (OutE.bnd k).rdO s1
            obtain ⟨zb, eb, k⟩ := (OutE.bnd (k s1)).rdO s1
            have k := (k s1).pure s1
            obtain ⟨ad, xs, ev1, ra, qa⟩ := za_R s1 ea rx
            obtain ⟨bd, ys, ev2, rb, qb⟩ := za_R s1 eb ry
            rw [hK]
            exact ⟨ad, bd, xs, ys, by rw [ev1, ev2], qa, qb, k _ (itR_zip ra rb)⟩
    | [], hm2, o =>
      refine (pi_zip2 (k1 := true) (k2 := true) hg hm ha hs).run pins s0 σ H R I ⟨ρ, h, s, S, E, ?_⟩
      rw [hm2]
      intro ρ1 H1 s1 e1 vs rv
      exact (o ρ1 H1 s1 e1 s1 : False).elim
    | [_], hm2, o =>
      refine (pi_zip2 (k1 := true) (k2 := true) hg hm ha hs).run pins s0 σ H R I ⟨ρ, h, s, S, E, ?_⟩
      rw [hm2]
      intro ρ1 H1 s1 e1 vs rv
      exact (o ρ1 H1 s1 e1 s1 : False).elim
    | _ :: _ :: _ :: _, hm2, o =>
      refine (pi_zip2 (k1 := true) (k2 := true) hg hm ha hs).run pins s0 σ H R I ⟨ρ, h, s, S, E, ?_⟩
      rw [hm2]
      intro ρ1 H1 s1 e1 vs rv
      exact (o ρ1 H1 s1 e1 s1 : False).elim
end
end MI
/-! MIE: dict(enumerate(t)), t a tuple or list. -/
namespace MI
open PySem PySem.Spec PyProof.Rows L2
section
variable {prog : Program} {w : World} {A : Around} {E : Value → Shared → Prop} {s : Shared}
open Builtin in
/-- the next pair while the one ahead is still out -/
theorem heldNext0 {e it T : Addr} {fp : List Addr} {n i : Nat} {P : Nat → Value → Prop} {St : Nat → Heap → Prop} {last : Value} {f : Bool} {oT : Obj} {Q : Value → Shared → Prop}
    (D : Draws prog w A it fp n P St) (en : IsEnumHeld s.heap e it i last T f) (eT : s.heap.get? T = some oT) (Te : T ≠ e) (Ti : T ≠ it) (st : St i s.heap) (il : i < n) (ei : e ≠ it) (ef : e ∉ fp)
    (q : ∀ x h' tk, P i x → IsEnumHeld h' e it ((i : Int) + 1) last T true → St (i + 1) h' → h'.get? s.heap.objs.size = some { cls := .type "tuple", data := .seq #[.int i tk, x] } →
      (∀ b o, b ≠ e → b ≠ it → s.heap.get? b = some o → h'.get? b = some o) → Q (.ref s.heap.objs.size) { s with heap := h', toks := tk + 1 }) :
    wpAny (model prog w) A (Builtin.«enumerate.__next__» ⟨[.ref e], []⟩) (fun fin s2 => ∃ v, fin = .done (.ret v) ∧ Q v s2) E s := by
  obtain ⟨h0, gs, dr, t0, os⟩ := s
  show wpAny _ _ (field (.ref e) 2 >>= _) _ _ ⟨h0, gs, dr, t0, os⟩
  refine wpAny_bind (wpAny_field en rfl (x := .ref it) rfl (wpAny_bind (D.item i _ _ _ il st fun x ha tk px sa ba => ?_)))
  replace ba : Heap.SameBut it h0 ha := ba
  have ea : IsEnumHeld ha e it i last T f := (ba.2 e ei).trans en
  show wpAny _ _ (field (.ref e) 3 >>= _) _ _ ⟨ha, gs, dr, tk, os⟩
  refine wpAny_bind (wpAny_field ea rfl (x := rawInt i) rfl ?_)
  show wpAny _ _ (field (.ref e) 4 >>= _) _ _ ⟨ha, gs, dr, tk, os⟩
  refine wpAny_bind (wpAny_field ea rfl (x := .none) rfl ?_)
  show wpAny _ _ (mkInt i >>= _) _ _ ⟨ha, gs, dr, tk, os⟩
  refine wpAny_bind (wpAny_mkInt ?_)
  show wpAny _ _ (setField (.ref e) 3 (rawInt ((i : Int) + 1)) >>= _) _ _ ⟨ha, gs, dr, tk + 1, os⟩
  refine wpAny_bind (wpAny_setField_rec ea (by simp) fun hb eb bb => ?_)
  replace bb : Heap.SameBut e ha hb := bb
  replace eb : IsEnumHeld hb e it ((i : Int) + 1) last T f := eb
  show wpAny _ _ (setField (.ref e) 4 .none >>= _) _ _ ⟨hb, gs, dr, tk + 1, os⟩
  refine wpAny_bind (wpAny_setField_rec eb (by simp) fun hc ec bc => ?_)
  replace bc : Heap.SameBut e hb hc := bc
  replace ec : IsEnumHeld hc e it ((i : Int) + 1) last T f := ec
  show wpAny _ _ (newTuple [.int i tk, x] >>= _) _ _ ⟨hc, gs, dr, tk + 1, os⟩
  refine wpAny_bind (wpAny_newTuple ?_)
  have zc : hc.objs.size = h0.objs.size := by rw [bc.1, bb.1, ba.1]
  have keep : ∀ b o, b ≠ e → ha.get? b = some o → (hc.push { cls := .type "tuple", data := .seq #[.int i tk, x] }).get? b = some o := fun b o be y => Heap.get?_push_of_some _ (bc.extBut b o be (bb.extBut b o be y))
  have ed : IsEnumHeld (hc.push { cls := .type "tuple", data := .seq #[.int i tk, x] }) e it ((i : Int) + 1) last T f := Heap.get?_push_of_some _ ec
  have nd : (hc.push { cls := .type "tuple", data := .seq #[.int i tk, x] }).get? h0.objs.size = some { cls := .type "tuple", data := .seq #[.int i tk, x] } := by rw [← zc]; exact Heap.get?_push_size _ rfl
  generalize hc.push { cls := .type "tuple", data := .seq #[.int i tk, x] } = hd at keep ed nd
  show wpAny _ _ (Builtin.SmallTypes.ownedTupleIsFree (.ref e) >>= _) _ _ ⟨hd, gs, dr, tk + 1, os⟩
  rw [zc]
  refine wpAny_bind (wpAny_tupleHeld_enum (s := ⟨hd, gs, dr, tk + 1, os⟩) ed (keep T oT Te (ba.extBut T oT Ti eT)) fun he ee be => ?_)
  replace be : Heap.SameBut e hd he := be
  have le : e < h0.objs.size := Heap.lt_size en
  simp only [Bool.false_eq_true, if_false]
  refine wpAny_pure ⟨_, rfl, q x he tk px ee ?_ (be.extBut _ _ (Nat.ne_of_gt le) nd) fun b o b1 b2 y => be.extBut b o b1 (keep b o b1 (ba.extBut b o b2 y))⟩
  exact D.frame _ _ _ sa fun b hb o y => have b1 : b ≠ e := fun z => ef (z ▸ hb); be.extBut b o b1 (keep b o b1 y)
theorem heldNext {e it T : Addr} {fp : List Addr} {n i : Nat} {P : Nat → Value → Prop} {St : Nat → Heap → Prop} {last : Value} {f : Bool} {oT : Obj} {Q : Option Value → Shared → Prop}
    (D : Draws prog w A.in1 it fp n P St) (en : IsEnumHeld s.heap e it i last T f) (eT : s.heap.get? T = some oT) (Te : T ≠ e) (Ti : T ≠ it) (st : St i s.heap) (il : i < n) (ei : e ≠ it) (ef : e ∉ fp)
    (q : ∀ x h' tk, P i x → IsEnumHeld h' e it ((i : Int) + 1) last T true → St (i + 1) h' → h'.get? s.heap.objs.size = some { cls := .type "tuple", data := .seq #[.int i tk, x] } →
      (∀ b o, b ≠ e → b ≠ it → s.heap.get? b = some o → h'.get? b = some o) → Q (some (.ref s.heap.objs.size)) { s with heap := h', toks := tk + 1 }) :
    wpAny (model prog w) A (pyNext (.ref e)) Q E s := by
  have ty : s.TypeIs (.ref e) "enumerate" := ⟨_, en, rfl⟩
  unfold pyNext
  refine wpAny_bind (wpAny_attempt (wpAny_callSpecial?_slot (name := Str.ofString "__next__") ty F.slot_enumerate_next ?_))
  exact wpAny_call_entry F.slot_enumerate_next ty F.entry_enumerate_next (heldNext0 D en eT Te Ti st il ei ef fun x h' tk a b c d k => wpAny_pure (q x h' tk a b c d k)) (F.args_enumerate_next_1 _)
theorem heldEnd {e it T : Addr} {fp : List Addr} {n : Nat} {P : Nat → Value → Prop} {St : Nat → Heap → Prop} {i : Int} {last : Value} {f : Bool} {Q : Option Value → Shared → Prop}
    (D : Draws prog w A.in1 it fp n P St) (en : IsEnumHeld s.heap e it i last T f) (st : St n s.heap) (q : ∀ h', Heap.ExtBut it s.heap h' → Q none { s with heap := h' }) : wpAny (model prog w) A (pyNext (.ref e)) Q E s := by
  have ty : s.TypeIs (.ref e) "enumerate" := ⟨_, en, rfl⟩
  unfold pyNext
  refine wpAny_bind (wpAny_attempt (wpAny_callSpecial?_slot (name := Str.ofString "__next__") ty F.slot_enumerate_next ?_))
  refine wpAny_call_entry F.slot_enumerate_next ty F.entry_enumerate_next ?_ (F.args_enumerate_next_1 _)
  show wpAny _ _ (field (.ref e) 2 >>= _) _ _ s
  refine wpAny_bind (wpAny_field en rfl (x := .ref it) rfl (wpAny_bind (D.done _ _ _ st fun h' x k hx => ?_)))
  obtain ⟨o, ho, hc⟩ := hx
  exact wpAny_bind (wpAny_isInstance (T := "StopIteration") (b := true) ⟨o, ho, hc⟩ isSubtype_stop (wpAny_pure (q _ k)))
end
/-- enumerate(..) as the argument of dict(..) -/
theorem pairE {prog : Program} {w : World} {e it : Addr} {fp : List Addr} {n : Nat} {P : Nat → Value → Prop} {St : Nat → Heap → Prop} (D : ∀ A : Around, A.handled = none → Draws prog w A it fp n P St) (ei : e ≠ it) (ef : e ∉ fp) (itf : it ∈ fp)
    (there : ∀ h, St 0 h → ∀ b ∈ fp, ∃ o, h.get? b = some o) (fr : ∀ i h h', St i h → (∀ b ∈ fp, ∀ o, h.get? b = some o → h'.get? b = some o) → St i h') :
    PairArg prog w "enumerate" e (e :: fp) [e, it] n (fun i k v => (∃ t, k = .int i t) ∧ P i v) (fun h => (∃ last, IsEnum h e it 0 last) ∧ St 0 h) where
  type := fun s ok => let ⟨⟨_, en⟩, _⟩ := ok; ⟨_, en, rfl⟩
  notDict := by decide
  keep := fun h h' ok k => let ⟨⟨last, en⟩, st⟩ := ok; ⟨⟨last, k _ _ en⟩, fr _ _ _ st fun b _ o => k b o⟩
  there := fun h ok b hb => by
    obtain ⟨⟨last, en⟩, st⟩ := ok
    rcases List.mem_cons.mp hb with z | z
    · rw [z]; exact ⟨_, en⟩
    · exact there h st b z
  sub := fun b hb => by
    rcases List.mem_cons.mp hb with z | z
    · rw [z]; exact List.mem_cons_self
    · rw [List.mem_singleton.mp z]; exact List.mem_cons_of_mem _ itf
  noKeys := fun A s Q E hA ok h => let ⟨⟨_, en⟩, _⟩ := ok; getAttrOr_miss_enumerate en rfl rfl rfl enumerate_no_keys (by decide +kernel) hA h
  iter := fun A s d Q E hA ok hd hdf h => by
    obtain ⟨⟨last, en⟩, st⟩ := ok
    have de : d ≠ e := fun z => hdf (by rw [z]; exact List.mem_cons_self)
    have df : ∀ b ∈ fp, b ≠ d := fun b hb z => hdf (by rw [← z]; exact List.mem_cons_of_mem _ hb)
    refine wpAny_pyIter_enum en (h e [e, it] (fun i h => St i h ∧ ((∃ last, IsEnum h e it i last) ∨ ∃ last T f oT, IsEnumHeld h e it i last T f ∧ h.get? T = some oT ∧ T ≠ e ∧ T ≠ it ∧ T ≠ d)) s.heap s.toks ?_ ⟨st, .inl ⟨last, en⟩⟩ (fun _ _ y => y) fun b hb => .inl hb)
    refine ⟨fun hm => ?_, ?_, ?_, ?_⟩
    · rcases List.mem_cons.mp hm with z | z
      · exact de z
      · exact df it itf (List.mem_singleton.mp z).symm
    · rintro i ha hb ⟨sa, ea⟩ k
      refine ⟨fr _ _ _ sa fun b hb o => k b o (df b hb), ?_⟩
      rcases ea with ⟨last, ea⟩ | ⟨last, T, f, oT, ea, eT, r1, r2, r3⟩
      · exact .inl ⟨last, k _ _ (Ne.symm de) ea⟩
      · exact .inr ⟨last, T, f, oT, k _ _ (Ne.symm de) ea, k _ _ r3 eT, r1, r2, r3⟩
    · rintro i s1 Q1 E1 il ⟨sa, ea⟩ hds q
      have ci : (((i + 1 : Nat)) : Int) = (i : Int) + 1 := by omega
      have lit : it < s1.heap.objs.size := let ⟨_, y⟩ := (D A.in1 hA).live i _ sa; Heap.lt_size y
      rcases ea with ⟨last, ea⟩ | ⟨last, T, f, oT, ea, eT, r1, r2, r3⟩
      · refine wpAny_pyNext_enum_itemD (D A.in1 hA) ea sa il ei ef fun x h' tk px ho st' hT _ k => ?_
        refine q s1.heap.objs.size _ _ h' (tk + 1) ⟨⟨tk, rfl⟩, px⟩ (.inl ⟨_, hT, rfl, _, rfl⟩) ⟨st', .inr ⟨x, s1.heap.objs.size, false, _, ?_, hT, Nat.ne_of_gt (Heap.lt_size ea), Nat.ne_of_gt lit, Nat.ne_of_gt hds⟩⟩ fun b o hb y => ?_
        · rw [ci]; exact ho
        · exact k b o (fun z => hb (by rw [z]; exact List.mem_cons_self)) (fun z => hb (by rw [z]; exact List.mem_cons_of_mem _ List.mem_cons_self)) y
      · refine heldNext (D A.in1 hA) ea eT r1 r2 sa il ei ef fun x h' tk px ho st' hT k => ?_
        refine q s1.heap.objs.size _ _ h' (tk + 1) ⟨⟨tk, rfl⟩, px⟩ (.inl ⟨_, hT, rfl, _, rfl⟩) ⟨st', .inr ⟨last, T, true, oT, ?_, k _ _ r1 r2 eT, r1, r2, r3⟩⟩ fun b o hb y => ?_
        · rw [ci]; exact ho
        · exact k b o (fun z => hb (by rw [z]; exact List.mem_cons_self)) (fun z => hb (by rw [z]; exact List.mem_cons_of_mem _ List.mem_cons_self)) y
    · rintro s1 Q1 E1 ⟨sa, ea⟩ q
      rcases ea with ⟨last, ea⟩ | ⟨last, T, f, oT, ea, eT, r1, r2, r3⟩
      · exact wpAny_pyNext_enum_endD (D A.in1 hA) ea sa fun h' k => q h' s1.toks fun b o hb y => k b o (fun z => hb (by rw [z]; exact List.mem_cons_of_mem _ List.mem_cons_self)) y
      · exact heldEnd (D A.in1 hA) ea sa fun h' k => q h' s1.toks fun b o hb y => k b o (fun z => hb (by rw [z]; exact List.mem_cons_of_mem _ List.mem_cons_self)) y
/-- places as keys -/
def enumK (n : Nat) : List V → List (Key × V)
  | [] => []
  | x :: r => (.inl (n : Int), x) :: enumK (n + 1) r
def enumU (n : Nat) : List Value → List (Key × Value)
  | [] => []
  | x :: r => (.inl (n : Int), x) :: enumU (n + 1) r
theorem enumU_len : ∀ {us : List Value} {n : Nat}, (enumU n us).length = us.length
  | [], _ => rfl
  | _ :: r, n => by unfold enumU; rw [List.length_cons, List.length_cons, enumU_len]
theorem enumK_len : ∀ {us : List V} {n : Nat}, (enumK n us).length = us.length
  | [], _ => rfl
  | _ :: r, n => by unfold enumK; rw [List.length_cons, List.length_cons, enumK_len]
theorem enumU_at : ∀ {us : List Value} {n i : Nat} {u : Value}, us[i]? = some u → (enumU n us)[i]? = some (.inl ((n + i : Nat) : Int), u)
  | [], _, _, _, e => by simp at e
  | x :: r, n, 0, u, e => by
    have : x = u := by simpa using e
    subst this
    rfl
  | x :: r, n, i + 1, u, e => by
    unfold enumU
    rw [List.getElem?_cons_succ, enumU_at (i := i) (by simpa using e)]
    rw [show n + 1 + i = n + (i + 1) from by omega]
theorem enum_KV : ∀ {xs : List V} {us : List Value} {n : Nat}, Vals xs us → KV (enumK n xs) (enumU n us)
  | [], _, _, .nil => .nil
  | _ :: _, _, n, .cons r t => .cons ⟨rfl, r⟩ (enum_KV t)
section
variable {X : Cx} {B : Bs} {W_ : WX} {a : Expr} {p p2 pos cpos : Pos} {te : TE} {ma : Env → Mo W}
def tDicE (K : PySem.W.Frag) (te : TE) : TE := fun σ H Q => te σ H fun v H1 => ∃ a xs, v = .ref a ∧ (SqL K H1 a xs ∨ SqT K H1 a xs) ∧ ∀ p, H1 p = none → Q (.ref p) (upd H1 p (.dK (mergeK [] (enumK 0 xs))))
theorem pe_dicE (hc : X.calm = true) (hg : Gl X "dict") (hm : X.mg "dict" = none) (hg2 : Gl X "enumerate") (hm2 : X.mg "enumerate" = none) (ha : PE X a te) (h1 : isSt a = false) :
    PE X (.Call (.Name "dict" p) [.Call (.Name "enumerate" p2) [a] [] cpos] [] pos) (tDicE X.K te) := by
  refine ⟨fun ps s0 σ H Q I0 hyp => Call_ (ld_blt I0 hg hm boot_dict (PyProof.Rows.callWith_type1 (PyProof.Rows.args_cons ?_ rfl) rfl rfl))⟩
  refine Call_ (ld_blt I0 hg2 hm2 boot_enumerate (PyProof.Rows.callWith_type1 (PyProof.Rows.args_cons (thn (ha.run ps s0 σ H _ I0 hyp) fun v s1 hv => PyProof.Rows.args_nil ?_) (star_cons h1)) (star_cons h1) rfl))
  obtain ⟨x, H1, I1, r1, t, xs, rfl, hq, q⟩ := hv
  cases r1
  have fin : ∀ (its : List Value) (h2 : Heap) (fp : List Addr) (P : Nat → Value → Prop) (St : Nat → Heap → Prop), Vals xs its → xs.length ≤ sizeLine → (∀ b o, s1.heap.get? b = some o → h2.get? b = some o) →
      IsEnum h2 (s1.heap.objs.size + 1) s1.heap.objs.size 0 .none → St 0 h2 → (∀ A : Around, A.handled = none → Draws X.prog X.w A s1.heap.objs.size fp its.length P St) → (∀ i u, P i u → its[i]? = some u) →
      s1.heap.objs.size + 1 ∉ fp → s1.heap.objs.size ∈ fp → (∀ h, St 0 h → ∀ b ∈ fp, ∃ o, h.get? b = some o) →
      wpAny (model X.prog X.w) X.A (spliced (backTo pos (starEach [] X.env))) (fun vs s2 => wpAny (model X.prog X.w) X.A (call (.type "dict") (Value.ref (s1.heap.objs.size + 1) :: vs)) (EP X ps σ Q) X.xe s2) X.xe { s1 with heap := h2 } := by
    intro its h2 fp P St r hz kp en st D hP ef itf th
    have I2 : L2.Inv X ps σ H1 { s1 with heap := h2 } := I1.kept (t' := s1.toks) kp
    refine PyProof.Rows.args_nil ?_
    have hl : its.length = xs.length := r.length.symm
    have hh := I2.ok.hd hc
    refine PySem.call_dict_pairs (knd := mixKind X.prog X.w) (kvs := enumU 0 its) (pairE D (Nat.succ_ne_self _) ef itf th (D X.A hh).frame) hh ⟨⟨_, en⟩, st⟩ ⟨enumU_len, fun i key v hr => ?_⟩ (by rw [hl]; exact hz) fun h3 tk hd k => ?_
    · obtain ⟨⟨t, rfl⟩, hp⟩ := hr
      have := enumU_at (n := 0) (hP i v hp)
      rw [Nat.zero_add] at this
      exact ⟨_, this, by show keyIs (.inl (i : Int)) (.int i t) = true; simp [keyIs, Value.isInt]⟩
    · have ne : (h2.objs.size == sysModules) = false := beq_eq_false_iff_ne.mpr (Nat.ne_of_gt I2.big)
      have hlen : (mergeK [] (enumK 0 xs)).length ≤ sizeLine := by
        refine Nat.le_trans (length_mergeK _ []) ?_
        rw [List.length_nil, Nat.zero_add, enumK_len]
        exact hz
      have le : s1.heap.objs.size ≤ h2.objs.size := Nat.le_trans (Nat.le_succ _) (Nat.le_of_lt (Heap.lt_size en))
      have kk : ∀ b o, s1.heap.get? b = some o → h3.get? b = some o := fun b o y => by
        have lb := Heap.lt_size y
        refine k b o (fun z => ?_) (kp b o y)
        rcases List.mem_cons.mp z with z | z
        · exact absurd lb (by rw [z]; exact Nat.not_lt.mpr (Nat.le_succ _))
        · exact absurd lb (by rw [List.mem_singleton.mp z]; exact Nat.lt_irrefl _)
      have ok : ObjOk X.prog X.w (upd H1 h2.objs.size (.dK (mergeK [] (enumK 0 xs)))) h3 h2.objs.size (.dK (mergeK [] (enumK 0 xs))) := ⟨hlen, ne, _, KV.merge (enum_KV r) .nil, hd⟩
      exact ⟨.ref h2.objs.size, _, I1.laid (t' := tk) kk le ok, rfl, q _ (I1.hok.fresh le)⟩
  rcases hq with hq | hq
  · obtain ⟨its, r, pl, hz⟩ := I1.list hq
    have la : t < s1.heap.objs.size := by obtain ⟨o, z, _⟩ := pl.isList; exact Heap.lt_size z
    refine call_enumerate_list pl.isList fun h2 en hit _ kp => ?_
    refine fin its h2 [s1.heap.objs.size, t] (fun i v => its.toArray[i]? = some v) (fun i h => h.IsListIter s1.heap.objs.size t i ∧ h.IsList t its.toArray) r hz kp en ⟨hit, pl.isList.at fun o y => kp t o y⟩
      (fun A hA => Draws.list hA _ t (Nat.ne_of_lt la) its.toArray) (fun i u hp => by simpa using hp) (fun z => ?_) List.mem_cons_self fun h st b hb => ?_
    · rcases List.mem_cons.mp z with z | z
      · exact Nat.succ_ne_self _ z
      · exact absurd la (by rw [← List.mem_singleton.mp z]; exact Nat.not_lt.mpr (Nat.le_succ _))
    · rcases List.mem_cons.mp hb with z | z
      · rw [z]; obtain ⟨o, y, _⟩ := st.1; exact ⟨o, y⟩
      · rw [List.mem_singleton.mp z]; obtain ⟨o, y, _⟩ := st.2; exact ⟨o, y⟩
  · obtain ⟨its, r, pl, hz⟩ := I1.tuple hq
    have pl : s1.heap.IsTuple t its.toArray := pl
    have la : t < s1.heap.objs.size := by obtain ⟨o, z, _⟩ := pl; exact Heap.lt_size z
    refine call_enumT pl fun h2 en hit kp => ?_
    refine fin its h2 [s1.heap.objs.size, t] (fun i v => its.toArray[i]? = some v) (fun i h => h.IsTupleIter s1.heap.objs.size t i ∧ h.IsTuple t its.toArray) r hz kp en ⟨hit, pl.at fun o y => kp t o y⟩
      (fun A hA => Draws.tuple hA _ t (Nat.ne_of_lt la) its.toArray) (fun i u hp => by simpa using hp) (fun z => ?_) List.mem_cons_self fun h st b hb => ?_
    · rcases List.mem_cons.mp z with z | z
      · exact Nat.succ_ne_self _ z
      · exact absurd la (by rw [← List.mem_singleton.mp z]; exact Nat.not_lt.mpr (Nat.le_succ _))
    · rcases List.mem_cons.mp hb with z | z
      · rw [z]; obtain ⟨o, y, _⟩ := st.1; exact ⟨o, y⟩
      · rw [List.mem_singleton.mp z]; obtain ⟨o, y, _⟩ := st.2; exact ⟨o, y⟩
theorem enumD_rep {ρ : Nat → Addr} {L : Nat} {H : Hp} : ∀ {ws : List W} {xs : List V} {n : Nat}, Rps B ρ L H ws xs → RpD B ρ L H (enumD n ws) (enumK n xs)
  | [], xs, n, r => by rw [r.nil_]; unfold enumD enumK RpD; trivial
  | w :: t, xs, n, r => by
    obtain ⟨y, q, rfl, a, b⟩ := r.cons_
    unfold enumD enumK RpD
    exact ⟨by show (n : Int) = (n : Int); rfl, a, enumD_rep b⟩
theorem snd_dicE (hK : X.K = B.K) (hc : X.calm = true) (hg : Gl X "dict") (hm : X.mg "dict" = none) (hg2 : Gl X "enumerate") (hm2 : X.mg "enumerate" = none) (ha : PE X a (LE B W_ ma)) (h1 : isSt a = false) :
    PE X (.Call (.Name "dict" p) [.Call (.Name "enumerate" p2) [a] [] cpos] [] pos) (LE B W_ (mBi .dicte fun s => bnd (ma s) fun x => bnd (ret []) fun xs => ret (x :: xs))) := by
  refine PE.weak (pe_dicE hc hg hm hg2 hm2 ha h1) ?_
  rintro σ H Q ⟨ρ, h, s, S, E, o⟩
  refine ⟨ρ, h, s, S, E, ((OutE.bnd o).bnd).mono fun w ρ1 h1 H1 s1 e1 k v rv => ?_⟩
  have o : OutE B W_ ρ1 h1 H1 σ (bnd (rdO fun h => biH h .dicte [w]) (fun r => outM (some r)) h1) _ := ((k s1).pure s1) s1
  obtain ⟨u, er, o⟩ := bi_out s1 o
  have fin : ∀ {ws : List W} {xs : List V}, Rps B ρ1 h1.length H1 ws xs → u = .inr (.dct (mergeD [] (enumD 0 ws))) → ∀ p, H1 p = none → Q (.ref p) (upd H1 p (.dK (mergeK [] (enumK 0 xs)))) := fun {ws xs} r eu p hp => by
    subst eu
    obtain ⟨r3, nd⟩ := merge_ (kvs := []) (ks := []) (enumD_rep r) (by unfold RpD; trivial) List.nodup_nil
    exact outAlloc (u := .dK (mergeK [] (enumK 0 xs))) o s1 (fun _ z => by cases z) hp fun ρ' H' x' z => ⟨_, z, RpD.ext x' s1 _ r3, nd⟩
  cases w with
  | tup ws =>
    cases er
    obtain ⟨t, xs, ev, sq, r⟩ := rv.tup_
    exact ⟨t, xs, ev, .inr (by rw [hK]; exact sq), fin r rfl⟩
  | loc n =>
    obtain ⟨hl, ev⟩ := rv.loc_
    unfold biH at er
    dsimp only at er
    cases el : lstAt h1 n with
    | none => rw [el] at er; cases er
    | some ws =>
      rw [el] at er
      cases er
      obtain ⟨_, xs, t, r⟩ := lstAt_ s1 el
      exact ⟨ρ1 n, xs, ev, .inl (by rw [hK]; exact t), fin r rfl⟩
  | _ => cases er
end
end MI
/-! MI14: a try whose exception stays known behind its clause (its object is tracked from the catch on). -/
namespace MI
open PySem PySem.Spec PyProof.Rows L2
section
variable {X : Cx} {pins : List (Addr × Obj)} {σ : L2.St} {H : Hp} {s : Shared} {a : Addr}
/-- what is known of a held exception -/
def held (a : Addr) (cls : Value) (dct : Option Addr) : Heap → Prop := fun h => ∃ o, h.get? a = some o ∧ o.cls = cls ∧ o.dict = dct ∧ ∃ vs, o.data = .fields vs
theorem inv_hold {oe : Obj} {vs : Array Value} (I : L2.Inv X pins σ H s) (na : H a = none) (e : s.heap.get? a = some oe) (hd : oe.data = .fields vs) (nL : a ≠ X.env.locals) (nS : a ∉ X.ex → X.s_0.heap.get? a = none) (np : ∀ p ∈ X.pn ++ pins, p.1 ≠ a) :
    L2.Inv X pins σ (upd H a (.ext (held a oe.cls oe.dict))) s := by
  have ne : ∀ {b : Addr} {o : HO}, H b = some o → b ≠ a := fun {b o} q => ne_of_none q na
  have cellNe : ∀ x c, X.env.cells.lookup x = some c → c ≠ a := fun x c q z => by
    obtain ⟨v, o, ho, hv⟩ := I.cell x c q
    rw [z, e] at ho
    cases ho
    rw [hd] at hv
    cases hv
  refine ⟨I.ok, I.os, I.bare, ⟨I.base.keep, I.base.slot, fun b o q n hx => ?_, I.base.there, fun b xs q => ?_, fun b o u q => ?_, fun b ps q => ?_⟩, I.loc, I.cell, ?_, fun x c q => ?_, fun p hp => ?_, fun b o q => ?_, I.len⟩
  · rw [upd_ne fun z => by rw [z, nS (by rw [← z]; exact hx)] at q; cases q]
    exact I.base.free b o q n hx
  · have k := I.base.tups b xs q
    rw [upd_ne (ne k)]; exact k
  · have k := I.base.frzs b o u q
    rw [upd_ne (ne k)]; exact k
  · obtain ⟨more, k⟩ := I.base.tbls b ps q
    exact ⟨more, by rw [upd_ne (ne k)]; exact k⟩
  · rw [upd_ne nL.symm]; exact I.free
  · rw [upd_ne (cellNe x c q)]; exact I.freeC x c q
  · obtain ⟨k1, k2, k3, k4, k5⟩ := I.pin p hp
    exact ⟨k1, by rw [upd_ne (np p hp)]; exact k2, k3, k4, k5⟩
  · by_cases z : b = a
    · subst z
      rw [upd_same] at q
      cases q
      refine ⟨⟨oe, e, rfl, rfl, vs, hd⟩, ⟨oe, e⟩, ?_⟩
      rintro h1 h2 ⟨o, k1, k2⟩ k
      exact ⟨o, k o k1, k2⟩
    · rw [upd_ne z] at q
      exact (I.hok b o q).stay (fun _ _ _ k => k) (fun c k => by rw [upd_ne (ne k)]; exact k) fun c xs k => by rw [upd_ne (ne k)]; exact k
theorem inv_into (I : L2.Inv X pins σ H s) : L2.Inv (X.suite a (X.pn ++ pins)) [] σ H s :=
  ⟨I.ok.suite _ _, I.os, I.bare, I.base, I.loc, I.cell, I.free, I.freeC, fun p hp => I.pin p (by rw [List.append_nil] at hp; exact hp), I.hok, I.len⟩
theorem inv_outof {pn' : List (Addr × Obj)} (I : L2.Inv (X.suite a (X.pn ++ pins)) pn' σ H s) (ok : X.Ok) : L2.Inv X pins σ H s :=
  ⟨ok, I.os, I.bare, I.base, I.loc, I.cell, I.free, I.freeC, fun p hp => I.pin p (List.mem_append_left _ hp), I.hok, I.len⟩
end
/-- the ends of a clause with the name at slot i -/
def goneD (i : Nat) (D : Ends) : Ends := { nx := fun σ' H' => D.nx (σ'.set i none) H', rt := D.rt, bk := fun σ' H' => D.bk (σ'.set i none) H', ct := fun σ' H' => D.ct (σ'.set i none) H' }
def wHeld (K : PySem.W.Frag) (c : Value) (i : Nat) (ts : TS) (Wout : WX) (D : Ends) : WX := fun cls d σ H =>
  ∃ b, PySem.W.exmOne K cls c = some b ∧ (b = true → ∀ a, H a = none → ts (goneD i D) (σ.set i (some (.ref a))) (upd H a (.ext (held a cls d)))) ∧ (b = false → Wout cls d σ H)
section
variable {X : Cx} {x n : Str} {c : Value} {i : Nat} {body rest : List Stmt} {st : Stmt} {np pos pos' : Pos} {tb : WX → TS} {ts : TS} {Wout : WX}
theorem ps_tryH (hs : X.stack = X.env :: X.outer) (hf : X.env.frame = some X.env.locals) (hN : X.N.Nodup) (hi : X.N[i]? = some n) (hln : X.env.kindOf n = some .local) (hc : Names X x c) (tk : Takes X Wout)
    (hb : ∀ (W : WX) (pn : List (Addr × Obj)) (xe : Value → Shared → Prop), Takes (X.tr pn xe) W → PassesOwn (model X.prog X.w) X.A X.env xe → PSs (X.tr pn xe) body (tb W))
    (hsu : ∀ (a : Addr) (pn : List (Addr × Obj)), PSs (X.suite a pn) (st :: rest) ts) :
    PS X (.Try body [.ExceptHandler (some (.Name x np)) (some n) (st :: rest) pos'] [] [] pos) (fun D σ H => tb (wHeld X.K c i ts Wout D) D σ H) := by
  refine ⟨fun pins s0 σ0 H0 D I0 hyp => ?_⟩
  have okX := I0.ok
  have frA : X.A.frames = some (X.env :: X.outer) := okX.frames.trans (congrArg some hs)
  refine wpAny_Try_except (wpAny_mono ((hb (wHeld X.K c i ts Wout D) (X.pn ++ pins) _ (fun u s1 flew => ?_) PassesOwn.looking).run [] s0 σ0 H0 D (I0.toTry _) hyp) (fun f s1 fin => ?_) fun _ _ z => z)
  · obtain ⟨a, B, sI, pins2, σ1, H1, cls, d, eu, JT, kB, up1, sky1, na, eos, ebare, b, hexm, hyes, hno⟩ := flew
    subst eu
    have J := JT.ofTry okX
    have sky2 : Sky B (X.env :: X.outer) a (Zc cls d) X.env.locals s1.heap := hs ▸ sky1
    show wpAny (model X.prog X.w) X.A (noteFrame (.ref a) X.env) _ _ _
    refine Sky.land Zc.steady frA hf sky2 fun g1 F1 u1 => ?_
    have J1 : L2.Inv X pins σ1 H1 { s1 with heap := g1 } := J.landed kB F1.1 (up1.trans u1) eos ebare
    obtain ⟨o1, w1, at1, z1, d1⟩ := F1.there
    have noFrame : a ∉ frs (X.env :: X.outer) := fun hm => by
      obtain ⟨_, o', k1, k2⟩ := F1.2.2.1.mem hm
      rw [at1] at k1
      cases k1
      exact k2 _ d1
    have nL : a ≠ X.env.locals := fun z => noFrame (List.mem_filterMap.mpr ⟨X.env, List.mem_cons_self, by rw [hf, z]⟩)
    have nF : a ∉ X.fs := fun hm => by
      obtain ⟨v, hv, q⟩ := List.mem_filterMap.mp hm
      exact noFrame (List.mem_filterMap.mpr ⟨v, List.mem_cons_of_mem _ hv, q⟩)
    have nB : B.get? a = none := F1.2.1
    have nI : sI.heap.get? a = none := by
      cases q : sI.heap.get? a with
      | none => rfl
      | some o =>
        have k := kB a o q (by rw [hs]; exact noFrame)
        rw [nB] at k; cases k
    have nS : a ∉ X.ex → X.s_0.heap.get? a = none := fun hx => by
      cases q : X.s_0.heap.get? a with
      | none => rfl
      | some o =>
        obtain ⟨o2, k⟩ := J.base.there a o q hx
        rw [nI] at k; cases k
    have np_ : ∀ p ∈ X.pn ++ pins, p.1 ≠ a := fun p hp z => by
      have k := (J.pin p hp).1
      rw [z, nI] at k; cases k
    have S1 : L2.Inv (X.suite a ((a, o1) :: (X.pn ++ pins))) [] σ1 H1 { s1 with heap := g1 } := J1.suite at1 d1 na nL nF
    refine wpAny_handleBy_cons (codeAny_handlers_test ?_) (fun q => nomatch q)
    have asked := PySem.W.exm_one (M := model X.prog X.w) J1.kIn (fun A' Q' E' s' keep q => wpAny_typeOf_ref (keep _ _ at1) (by rw [z1.1]; exact q)) hexm
    obtain ⟨hgl, hdb, hval⟩ := hc
    have named : ∀ {Q : Value → Shared → Prop} {E : Value → Shared → Prop}, Q c { s1 with heap := g1 } → wpAny (model X.prog X.w) (X.A.mark (some (.ref a))) (eval (.Name x np) X.env) Q E { s1 with heap := g1 } := fun q => by
      rcases hval with hm | ⟨hm, hv, hnn⟩
      · exact ld_glob (X := X.suite a ((a, o1) :: (X.pn ++ pins))) S1 hgl hm q hdb
      · exact ld_blt (X := X.suite a ((a, o1) :: (X.pn ++ pins))) S1 hgl hm hv q hnn hdb
    refine named (asked.here ?_)
    cases b with
    | false =>
      show wpAny _ X.A (handleBy (.ref a) X.env []) _ _ _
      refine wpAny_handleBy_nil ?_
      obtain ⟨_, _, _, o2, vs2, T, oT, ts2, at2, z2, d2, h1, hr⟩ := id F1
      unfold PySem.passOn
      refine wpAny_bind (wpAny_field at2 d2 h1 ?_)
      rw [if_neg (fun z => by simp at z)]
      have on_ : wpAny (model X.prog X.w) X.A (setFlight (.ref a) X.env.frame) (fun _ s4 => wpAny (model X.prog X.w) X.A (throw (.ref a) : Sem Flow) (SP X pins D) X.xe s4) X.xe { s1 with heap := g1 } := by
        rw [hf]
        refine HandSPX.setFlight_upZ F1 fun g2 held2 u2 => wpAny_throw (tk _ _ ⟨a, B, sI, pins, σ1, H1, cls, d, rfl, J, kB, (up1.trans u1).trans u2, .inr (.inr (hs ▸ held2)), na, eos, ebare, hno rfl⟩)
      first
        | exact wpAny_bind (wpAny_pure (wpAny_bind on_))
        | exact wpAny_bind on_
    | true =>
      refine codeAny_handlers_suite_as (HandSPX.lands_againZ F1 fun g2 F2 u2 => ?_)
      have J2 : L2.Inv X pins σ1 H1 { s1 with heap := g2 } := J.landed kB F2.1 ((up1.trans u1).trans u2) eos ebare
      obtain ⟨o2, w2, at2, z2, d2⟩ := F2.there
      have J3 := inv_hold J2 na at2 d2 nL nS np_
      rw [z2.1, z2.2] at J3
      refine store_ok (X := X.suite a (X.pn ++ pins)) (v := .ref a) (inv_into J3) hN hi (.inl hln) rfl (fun s5 S5 => ?_) (.inr hln)
      refine wpAny_mono ((hsu a (X.pn ++ pins)).run [] s5 _ _ _ S5 (hyes rfl a na)) (fun f s6 fin => ?_) fun _ _ z => z.elim
      have gone : ∀ {σ6 : L2.St} {H6 : Hp} {Q : Shared → Prop}, L2.Inv (X.suite a (X.pn ++ pins)) [] σ6 H6 s6 → (∀ s7, L2.Inv X pins (σ6.set i none) H6 s7 → Q s7) →
          wpAny (model X.prog X.w) X.A (do bindName X.env n .none; unbindBehindTheSuite X.env n pos') (fun _ s7 => Q s7) X.xe s6 := fun S6 q => gone_ok (inv_outof S6 okX) hN hi hln q
      cases f with
      | ret u =>
        obtain ⟨v6, σ6, H6, S6, r6, q6⟩ := fin
        exact gone S6 fun s7 J7 => ⟨_, _, _, J7, r6, q6⟩
      | next => obtain ⟨σ6, H6, S6, q6⟩ := fin; exact gone S6 fun s7 J7 => ⟨_, _, J7, q6⟩
      | brk => obtain ⟨σ6, H6, S6, q6⟩ := fin; exact gone S6 fun s7 J7 => ⟨_, _, J7, q6⟩
      | cont => obtain ⟨σ6, H6, S6, q6⟩ := fin; exact gone S6 fun s7 J7 => ⟨_, _, J7, q6⟩
  · cases f with
    | ret u => obtain ⟨v, σ2, H2, J2, r2, q2⟩ := fin; exact ⟨v, σ2, H2, J2.ofTry okX, r2, q2⟩
    | next => obtain ⟨σ2, H2, J2, q2⟩ := fin; exact wpAny_execs_nil ⟨σ2, H2, J2.ofTry okX, q2⟩
    | brk => obtain ⟨σ2, H2, J2, q2⟩ := fin; exact ⟨σ2, H2, J2.ofTry okX, q2⟩
    | cont => obtain ⟨σ2, H2, J2, q2⟩ := fin; exact ⟨σ2, H2, J2.ofTry okX, q2⟩
end
end MI
/-! MI15: what the compiler gives is sound: expressions. -/
namespace MI
open PySem PySem.Spec PyProof.Rows L2
/-! ### the evaluator's steps -/
section
variable {c : Cfg}
theorem ev_var (i) : evE c (.var i) = fun s => rdO fun _ => (s[i]?).join := by funext s; simp only [evE]
theorem ev_non : evE c .non = fun _ => ret .non := by funext s; simp only [evE]
theorem ev_bl (b) : evE c (.bl b) = fun _ => ret (.bl b) := by funext s; simp only [evE]
theorem ev_int (i) : evE c (.int i) = fun _ => ret (.int i) := by funext s; simp only [evE]
theorem ev_str (x) : evE c (.str x) = fun _ => ret (.str x) := by funext s; simp only [evE]
theorem ev_gl (x) : evE c (.gl x) = fun _ => ofO (c.gl x) := by funext s; simp only [evE]
theorem ev_tup (es) : evE c (.tup es) = fun s => bnd (evEs c es s) fun ws => if ws.length ≤ LN then ret (.tup ws) else bad := by funext s; simp only [evE]
theorem ev_lst (es) : evE c (.lst es) = fun s => bnd (evEs c es s) fun ws => if ws.length ≤ LN then alloc (.lst ws) else bad := by funext s; simp only [evE]
theorem ev_dct (es) : evE c (.dct es) = fun s => bnd (evEs c es s) fun ws => bnd (ofO (pairUp ws)) fun kvs => alloc (.dct (mergeD [] kvs)) := by funext s; simp only [evE]
theorem ev_bin (op a b) : evE c (.bin op a b) = fun s => bnd (evE c a s) fun x => bnd (evE c b s) fun y => bnd (rdO fun h => binH h op x y) fun r => outM (some r) := by funext s; simp only [evE]
theorem ev_neg (a) : evE c (.neg a) = fun s => bnd (evE c a s) fun x => match x with | .int i => ret (.int (-i)) | _ => bad := by funext s; simp only [evE] <;> rfl
theorem ev_nt (a) : evE c (.nt a) = fun s => bnd (evE c a s) fun x => bnd (truM x) fun b => ret (.bl (!b)) := by funext s; simp only [evE]
theorem ev_cmp (op a b) : evE c (.cmp op a b) = mCmp op (evE c a) (evE c b) := by funext s; simp only [evE]
theorem ev_chn (o1 o2 a b d) : evE c (.chn o1 o2 a b d) = mChn o1 o2 (evE c a) (evE c b) (evE c d) := by funext s; simp only [evE] <;> rfl
theorem ev_and (a b) : evE c (.and_ a b) = fun s => bnd (evE c a s) fun x => bnd (truM x) fun k => match k with | true => evE c b s | false => ret x := by funext s; simp only [evE] <;> rfl
theorem ev_or (a b) : evE c (.or_ a b) = fun s => bnd (evE c a s) fun x => bnd (truM x) fun k => match k with | true => ret x | false => evE c b s := by funext s; simp only [evE] <;> rfl
theorem ev_ite (d a b) : evE c (.ite d a b) = fun s => bnd (evE c d s) fun x => bnd (truM x) fun k => match k with | true => evE c a s | false => evE c b s := by funext s; simp only [evE] <;> rfl
theorem ev_idx (a i) : evE c (.idx a i) = fun s => bnd (evE c a s) fun x => bnd (evE c i s) fun y => rdO fun h => idxH h x y := by funext s; simp only [evE]
theorem ev_slc (a lo hi) : evE c (.slc a lo hi) = fun s => bnd (evE c a s) fun x => bnd (partM lo (evE c lo s)) fun l => bnd (partM hi (evE c hi s)) fun u => bnd (rdO fun h => slcH h l u x) fun r => outM (some r) := by funext s; simp only [evE]
theorem ev_call (f as) : evE c (.call f as) = fun s => bnd (evEs c as s) (c.cf f) := by funext s; simp only [evE]
theorem ev_bi (b as) : evE c (.bi b as) = mBi b (evEs c as) := by funext s; simp only [evE] <;> rfl
theorem ev_me (m o as) : evE c (.me m o as) = mMe m (evE c o) (evEs c as) := by funext s; simp only [evE] <;> rfl
theorem ev_isi (a ts) : evE c (.isi a ts) = mIsi c.sub ts (evE c a) := by funext s; simp only [evE] <;> rfl
theorem ev_comp (elt t it cs own) : evE c (.comp elt t it cs own) = mComp (evI c it) (evT c cs) (evE c elt) t own := by funext s; simp only [evE] <;> rfl
theorem evs_nil : evEs c .nil = fun _ => ret [] := by funext s; simp only [evEs]
theorem evs_cons (e r) : evEs c (.cons e r) = fun s => bnd (evE c e s) fun x => bnd (evEs c r s) fun xs => ret (x :: xs) := by funext s; simp only [evEs]
theorem evt_nil : evT c .nil = fun _ => ret true := by funext s; simp only [evT]
theorem evt_cons (B W_) (e r) : evT c (.cons e r) = TrO B W_ (evE c e) := by funext s; simp only [evT] <;> rfl
theorem evi_val (e) : evI c (.val e) = mIt (evE c e) := by funext s; simp only [evI] <;> rfl
theorem evi_rng (es) : evI c (.rng es) = mRng (evEs c es) := by funext s; simp only [evI] <;> rfl
theorem evi_zip (es) : evI c (.zip es) = mZip (evEs c es) := by funext s; simp only [evI] <;> rfl
theorem evi_enu (e) : evI c (.enu e) = mEnu (evE c e) := by funext s; simp only [evI] <;> rfl
end
def Es.len : Es → Nat
  | .nil => 0
  | .cons _ r => r.len + 1
theorem evEs_len {c : Cfg} : ∀ (es : Es) {s : Env} {h : AH} {ws : List W} {h' : AH}, evEs c es s h = .ok ws h' → ws.length = es.len
  | .nil, s, h, ws, h', e => by rw [evs_nil] at e; cases e; rfl
  | .cons a r, s, h, ws, h', e => by
    rw [evs_cons] at e
    unfold bnd at e
    dsimp only at e
    cases h1 : evE c a s h with
    | ok x h2 =>
      rw [h1] at e
      dsimp only at e
      cases h3 : evEs c r s h2 with
      | ok xs h4 =>
        rw [h3] at e
        cases e
        have := evEs_len r h3
        rw [List.length_cons, this]; rfl
      | ex _ _ => rw [h3] at e; cases e
      | bad => rw [h3] at e; cases e
    | ex _ _ => rw [h1] at e; cases e
    | bad => rw [h1] at e; cases e
theorem mapEs_len {f : Expr → Option MI.E} : ∀ {es : List Expr} {r : Es}, mapEs f es = some r → r.len = es.length
  | [], r, e => by cases e; rfl
  | a :: es, r, e => by
    unfold mapEs at e
    split at e
    · rename_i x y h1 h2
      cases e
      rw [List.length_cons, ← mapEs_len h2]; rfl
    · cases e
theorem mapEs_cons {f : Expr → Option MI.E} {a : Expr} {es : List Expr} {r : Es} (e : mapEs f (a :: es) = some r) : ∃ x y, r = .cons x y ∧ f a = some x ∧ mapEs f es = some y := by
  unfold mapEs at e
  split at e
  · rename_i x y h1 h2
    cases e
    exact ⟨x, y, rfl, h1, h2⟩
  · cases e
/-! ### what stands around -/
def cfg (Γ : Gam) (k : Nat) : Cfg := ⟨callF Γ k, Γ.sub, Γ.gl⟩
structure Stat (df0 : Nm → Option Nat) (fb0 ec0 gl0 : Nm → Bool) (Γ : Gam) (B : Bs) (k : Nat) (P : Program) (w : World) (mg : Str → Option Value) (base : Heap) : Prop where
  fb : ∀ x, fb0 x = true → mg x = none
  cl : ∀ x, (six.contains x || x == "ValueError") = true → ∃ T, tyS x = some T ∧ ClR B.K B Γ.sub x (.ty T) (.type T)
  ec : ∀ x, ec0 x = true → mg x = some (.ref (B.ca x)) ∧ ClR B.K B Γ.sub x (.ref (B.ca x)) (.ref (B.ca x)) ∧ PySem.W.excIn B.K (B.ca x) [.type "ValueError", .type "Exception", .type "BaseException", .type "object"] "ValueError.__new__" = true ∧ PySem.W.keepIn B.K (.ref (B.ca x)) = true ∧
    PySem.W.subIn B.K (.ref (B.ca x)) (.type "BaseException") = some true ∧ PySem.W.typeIn B.K (.ref (B.ca x)) = some (.type "type")
  exm : ∀ x y b, Γ.sub y x = some b → (ec0 x = true → PySem.W.exmOne B.K (.ref (B.ca y)) (.ref (B.ca x)) = some b) ∧ (x = "ValueError" → PySem.W.exmOne B.K (.ref (B.ca y)) (.type "ValueError") = some b)
  gl : ∀ x, gl0 x = true → ∃ u v w, mg x = some u ∧ RelV v u ∧ Γ.gl x = some w ∧ ∀ ρ L H, Rp B ρ L H w v
  df : ∀ x n, df0 x = some n → ∃ f fd ps, mg x = some (.ref f) ∧ PySem.W.keepIn B.K (.ref f) = true ∧ Binds B.K fd ps [] ∧ FnG P w B.K mg base (L2.CX P w) k f fd ps (spF B n (callF Γ k x))
structure Gd (C : Cc) (Γ : Gam) (B : Bs) (k : Nat) (X : Cx) : Prop where
  K : X.K = B.K
  N : X.N = C.N
  nd : X.N.Nodup
  hu : X.A.units + 66 < cLine
  cal : C.ca = true → X.calm = true ∧ X.A.guards = some [] ∧ Room k X.A
  st : Stat C.df C.fb C.ec C.gl Γ B k X.prog X.w X.mg X.base
/-! ### names -/
theorem ixOf_at {x : Nm} : ∀ {N : List Nm} {i : Nat}, ixOf x N = some i → N[i]? = some x
  | [], _, e => by cases e
  | y :: r, i, e => by
    unfold ixOf at e
    split at e
    · rename_i g; cases e; rw [g]; rfl
    · obtain ⟨j, e2, e3⟩ := Option.map_eq_some_iff.mp e
      subst e3
      simpa using ixOf_at e2
theorem okNm_ {x : Nm} (h : okNm x = true) : (x == ("__debug__" : Str)) = false ∧ (x == ("__classdict__" : Str)) = false ∧ x ≠ "__name__" := by
  unfold okNm at h
  simp only [Bool.and_eq_true, Bool.not_eq_true'] at h
  exact ⟨h.1.1, h.1.2, fun z => by have := h.2; rw [z] at this; simp at this⟩
section
variable {C : Cc} {Γ : Gam} {B : Bs} {k : Nat} {X : Cx} {W_ : WX} {sc : Scope} {x : Nm} {i : Nat}
theorem slot_ (e : slot C sc x = some i) : C.N[i]? = some x ∧ Vis sc x ∧ okNm x = true := by
  unfold slot at e
  split at e
  · rename_i g
    rw [Bool.and_eq_true] at g
    refine ⟨ixOf_at e, ?_, g.2⟩
    unfold isVis at g
    unfold Vis
    split at g
    · exact .inl ‹_›
    · exact .inr (.inl ‹_›)
    · exact .inr (.inr ‹_›)
    · exact absurd g.1 (by decide)
  · cases e
theorem isG_ (hs : X.env.scope = sc) (h : isG sc x = true) : Gl X x ∧ okNm x = true := by
  unfold isG at h
  rw [Bool.and_eq_true, decide_eq_true_eq] at h
  refine ⟨?_, h.2⟩
  show X.env.scope.names.lookup x = _
  rw [hs]; exact h.1
theorem isB_ (G : Gd C Γ B k X) (hs : X.env.scope = sc) (h : isB C sc x = true) : Gl X x ∧ okNm x = true ∧ X.mg x = none := by
  unfold isB at h
  rw [Bool.and_eq_true] at h
  obtain ⟨a, b⟩ := isG_ hs h.1
  exact ⟨a, b, G.st.fb x h.2⟩
/-! ### targets -/
def gOf (B : Bs) : TN → TG
  | .one i => gName i
  | .many is => gSq B.K is.length (gNames is)
  | .tr ts => gSq B.K ts.length (gTts B.K ts)
theorem gOf_tg (t : TN) : TgR B t (gOf B t) := by
  cases t with
  | one i => exact tg_one
  | many is => exact tg_many
  | tr ts => exact tg_tr
theorem stOk_ {fn : Nm → Bool} (hs : X.env.scope = sc) (hf : ∀ x, fn x = true → X.fn x = true) (h : stOk sc fn x = true) : Loc X.env.scope x ∧ (X.fn x = true ∨ X.env.scope.names.lookup x = some .local) := by
  unfold stOk at h
  rw [Bool.or_eq_true, Bool.and_eq_true, decide_eq_true_eq, decide_eq_true_eq] at h
  rw [hs]
  rcases h with h | ⟨h1, h2⟩
  · exact ⟨.inl h, .inr h⟩
  · exact ⟨.inr h1, .inl (hf x h2)⟩
theorem name_tg {fn : Nm → Bool} {pos : Pos} (G : Gd C Γ B k X) (hs : X.env.scope = sc) (hf : ∀ x, fn x = true → X.fn x = true) (h : stOk sc fn x = true) (e : slot C sc x = some i) : PG X (.Name x pos) (gName i) := by
  obtain ⟨a, b⟩ := stOk_ hs hf h
  exact pg_name G.nd (by rw [G.N]; exact (slot_ e).1) a b
theorem slots_tg {fn : Nm → Bool} (G : Gd C Γ B k X) (hs : X.env.scope = sc) (hf : ∀ x, fn x = true → X.fn x = true) : ∀ {es : List Expr} {is : List Nat}, slots C sc fn es = some is → PGs X es (gNames is) ∧ (assignEach es X.env).length = is.length ∧ (assignEach es X.env).findIdx? (·.1) = none
  | [], is, e => by cases e; exact ⟨pgs_nil, rfl, rfl⟩
  | a :: r, is, e => by
    cases a with
    | Name y p =>
      unfold slots at e
      split at e
      · rename_i g
        split at e
        · rename_i j js h1 h2
          cases e
          obtain ⟨p1, p2, p3⟩ := slots_tg G hs hf h2
          refine ⟨pgs_cons (name_tg G hs hf g h1) p1, ?_, ?_⟩
          · show (assignEach r X.env).length + 1 = js.length + 1
            rw [p2]
          · show List.findIdx? _ ((false, assign (.Name y p) X.env) :: assignEach r X.env) = none
            rw [List.findIdx?_cons, p3]; rfl
        · cases e
      · cases e
    | _ => cases e
theorem slotsT_tg {fn : Nm → Bool} (G : Gd C Γ B k X) (hc : C.ca = true) (hs : X.env.scope = sc) (hf : ∀ x, fn x = true → X.fn x = true) : ∀ {es : List Expr} {ts : List Tt}, slotsT C sc fn es = some ts → PGs X es (gTts B.K ts) ∧ (assignEach es X.env).length = ts.length ∧ (assignEach es X.env).findIdx? (·.1) = none
  | [], ts, e => by cases e; exact ⟨pgs_nil, rfl, rfl⟩
  | a :: r, ts, e => by
    cases a with
    | Name y p =>
      unfold slotsT at e
      split at e
      · rename_i g
        split at e
        · rename_i j js h1 h2
          cases e
          obtain ⟨p1, p2, p3⟩ := slotsT_tg G hc hs hf h2
          refine ⟨pgs_cons (name_tg G hs hf g h1) p1, ?_, ?_⟩
          · show (assignEach r X.env).length + 1 = js.length + 1
            rw [p2]
          · show List.findIdx? _ ((false, assign (.Name y p) X.env) :: assignEach r X.env) = none
            rw [List.findIdx?_cons, p3]; rfl
        · cases e
      · cases e
    | Tuple es2 n p =>
      unfold slotsT at e
      split at e
      · rename_i j js h1 h2
        cases e
        obtain ⟨p1, p2, p3⟩ := slotsT_tg G hc hs hf h2
        obtain ⟨q1, q2, q3⟩ := slots_tg G hs hf h1
        have inner := pg_tup (k := n) (pos := p) (G.cal hc).1 q1 q2 q3
        rw [G.K] at inner
        refine ⟨pgs_cons inner p1, ?_, ?_⟩
        · show (assignEach r X.env).length + 1 = js.length + 1
          rw [p2]
        · show List.findIdx? _ ((false, assign (.Tuple es2 n p) X.env) :: assignEach r X.env) = none
          rw [List.findIdx?_cons, p3]; rfl
      · cases e
    | _ => cases e
theorem tn_tg {fn : Nm → Bool} {tg : Expr} {t : TN} (G : Gd C Γ B k X) (hs : X.env.scope = sc) (hf : ∀ x, fn x = true → X.fn x = true) (e : cTN C sc fn tg = some t) : PG X tg (gOf B t) := by
  cases tg with
  | Name y p =>
    dsimp only [cTN] at e
    split at e
    · rename_i g
      obtain ⟨j, e2, e3⟩ := Option.map_eq_some_iff.mp e
      subst e3
      exact name_tg G hs hf g e2
    · cases e
  | Tuple es n p =>
    dsimp only [cTN] at e
    split at e
    · rename_i g
      split at e
      · rename_i js e2
        cases e
        obtain ⟨p1, p2, p3⟩ := slots_tg G hs hf e2
        have := pg_sq (k := n) (pos := p) (G.cal g).1 p1 p2 p3
        rw [G.K] at this
        exact this
      · obtain ⟨j, e2, e3⟩ := Option.map_eq_some_iff.mp e
        subst e3
        obtain ⟨p1, p2, p3⟩ := slotsT_tg G g hs hf e2
        have := pg_sq (k := n) (pos := p) (G.cal g).1 p1 p2 p3
        rw [G.K] at this
        exact this
    · cases e
  | _ => cases e
/-! ### expressions -/
/-- one expression -/
def SndE (Γ : Gam) (B : Bs) (k : Nat) (X : Cx) (W_ : WX) (e : Expr) (ir : MI.E) : Prop := PE X e (LE B W_ (evE (cfg Γ k) ir)) ∧ PT X e (LT B W_ (TrO B W_ (evE (cfg Γ k) ir)))
/-- no star, no slice, no set -/
def okE : Expr → Bool
  | .Starred .. => false
  | .Slice .. => false
  | .Set .. => false
  | _ => true
theorem okE_st {e : Expr} (h : okE e = true) : isSt e = false := by cases e <;> first | rfl | cases h
theorem okE_sl {e : Expr} (h : okE e = true) : notSl e = true := by cases e <;> first | rfl | cases h
theorem okE_set {e : Expr} (h : okE e = true) : ∀ es j q, e ≠ .Set es j q := by intro es j q z; rw [z] at h; cases h
/-- a compiler of expressions is sound -/
def SndF (Γ : Gam) (B : Bs) (k : Nat) (C : Cc) (f : Fe) : Prop := ∀ sc e ir, f sc e = some ir → okE e = true ∧ ∀ X W_, Gd C Γ B k X → Takes X W_ → X.env.scope = sc → SndE Γ B k X W_ e ir
theorem sndPlain {e : Expr} {ir : MI.E} (G : Gd C Γ B k X) (p : plainT e = true) (h : PE X e (LE B W_ (evE (cfg Γ k) ir))) : SndE Γ B k X W_ e ir := ⟨h, snd_test G.K p h⟩
theorem args_snd {f : Fe} (hf : SndF Γ B k C f) (G : Gd C Γ B k X) (tk : Takes X W_) (hs : X.env.scope = sc) : ∀ {es : List Expr} {irs : Es}, mapEs (f sc) es = some irs → (∀ e ∈ es, isSt e = false) ∧ PA X es (LA B W_ (evEs (cfg Γ k) irs))
  | [], irs, e => by cases e; rw [evs_nil]; exact ⟨(fun _ h => nomatch h), snd_paN⟩
  | a :: r, irs, e => by
    obtain ⟨x, y, rfl, h1, h2⟩ := mapEs_cons e
    obtain ⟨s1, p1⟩ := hf sc a x h1
    obtain ⟨s2, p2⟩ := args_snd hf G tk hs h2
    rw [evs_cons]
    refine ⟨fun z hz => ?_, snd_paC (p1 X W_ G tk hs).1 p2 (okE_st s1)⟩
    rcases List.mem_cons.mp hz with q | q
    · rw [q]; exact okE_st s1
    · exact s2 z q
theorem const_snd {c : Const} {ir : MI.E} {j : Nat} {p : Pos} (G : Gd C Γ B k X) (e : cConst c = some ir) : SndE Γ B k X W_ (.Constant c j p) ir := by
  refine sndPlain G rfl ?_
  cases c with
  | none => cases e; rw [ev_non]; exact snd_const pe_non fun _ _ _ => by unfold Rp; rfl
  | bool b => cases e; rw [ev_bl]; exact snd_const pe_bl fun _ _ _ => by unfold Rp; rfl
  | int i => cases e; rw [ev_int]; exact snd_const pe_int fun _ _ _ => by unfold Rp; rfl
  | str z =>
    unfold cConst at e
    dsimp only at e
    split at e
    · rename_i g
      cases e
      rw [ev_str]
      exact snd_const pe_str fun _ _ _ => by unfold Rp; exact ⟨rfl, g⟩
    · cases e
  | _ => cases e
theorem name_snd {ir : MI.E} {p : Pos} (G : Gd C Γ B k X) (hs : X.env.scope = sc) (e : cName C sc x = some ir) : SndE Γ B k X W_ (.Name x p) ir := by
  refine sndPlain G rfl ?_
  unfold cName at e
  split at e
  · rename_i i h1
    cases e
    obtain ⟨a, b, c⟩ := slot_ h1
    rw [ev_var]
    exact snd_var (by rw [G.N]; exact a) (by rw [hs]; exact b) (okNm_ c).1 (okNm_ c).2.1
  · split at e
    · rename_i g
      cases e
      rw [Bool.and_eq_true] at g
      obtain ⟨a, b⟩ := isG_ hs g.1
      obtain ⟨u, v, w, h1, h2, h3, h4⟩ := G.st.gl x g.2
      rw [ev_gl]
      exact snd_gl a h1 h2 (okNm_ b).1 h3 h4
    · cases e
theorem coper_cop (op : CmpOp) : coper (copOf op) = op := coper_of op
theorem nomark_ {op : CmpOp} {b : Expr} (h : ∀ es j q, b ≠ .Set es j q) : behindInMarks op b = false := by
  cases b <;> first | rfl | exact absurd rfl (h _ _ _)
theorem oper_of {op : Operator} {o : Bop} (e : bopOf op = some o) : oper o = op := by cases op <;> first | (cases e; done) | (cases e; rfl)
end
end MI
/-! MI16: what the compiler gives is sound: the rest of the expressions. -/
namespace MI
open PySem PySem.Spec PyProof.Rows L2
section
variable {C : Cc} {Γ : Gam} {B : Bs} {k : Nat} {X : Cx} {W_ : WX} {sc : Scope} {x : Nm} {i : Nat} {f : Fe} {g : Fi} {a b d : Expr} {es : List Expr} {ir : MI.E} {pos p : Pos}
theorem one_ (hf : SndF Γ B k C f) (G : Gd C Γ B k X) (tk : Takes X W_) (hs : X.env.scope = sc) (e : f sc a = some ir) : okE a = true ∧ SndE Γ B k X W_ a ir :=
  ⟨(hf sc a ir e).1, (hf sc a ir e).2 X W_ G tk hs⟩
theorem and_snd (hf : SndF Γ B k C f) (G : Gd C Γ B k X) (tk : Takes X W_) (hs : X.env.scope = sc) : ∀ {es : List Expr} {irs : Es} {ir : MI.E}, mapEs (f sc) es = some irs → foldB .and_ irs = some ir → PE X (.BoolOp .And es pos) (LE B W_ (evE (cfg Γ k) ir)) ∧ PW X (.BoolOp .And es pos) (LT B W_ (TrO B W_ (evE (cfg Γ k) ir)))
  | [], irs, ir, e, e2 => by cases e; cases e2
  | [a], irs, ir, e, e2 => by
    obtain ⟨x, y, rfl, h1, h2⟩ := mapEs_cons e
    cases h2
    cases e2
    have q := (one_ hf G tk hs h1).2
    exact ⟨pe_one q.1, snd_and1 q.2⟩
  | a :: b :: r, irs, ir, e, e2 => by
    obtain ⟨x, y, rfl, h1, h2⟩ := mapEs_cons e
    have h2' := h2
    obtain ⟨x2, y2, rfl, h3, h4⟩ := mapEs_cons h2
    obtain ⟨ir2, e3, e4⟩ := Option.map_eq_some_iff.mp (show (foldB .and_ (.cons x2 y2)).map (MI.E.and_ x) = some ir from e2)
    subst e4
    have q := (one_ hf G tk hs h1).2
    obtain ⟨p1, p2⟩ := and_snd hf G tk hs h2' e3
    rw [ev_and]
    exact ⟨snd_andV G.K q.1 p1, snd_andW q.2 p2⟩
theorem or_snd (hf : SndF Γ B k C f) (G : Gd C Γ B k X) (tk : Takes X W_) (hs : X.env.scope = sc) : ∀ {es : List Expr} {irs : Es} {ir : MI.E}, mapEs (f sc) es = some irs → foldB .or_ irs = some ir → PE X (.BoolOp .Or es pos) (LE B W_ (evE (cfg Γ k) ir)) ∧ PW X (.BoolOp .Or es pos) (LT B W_ (TrO B W_ (evE (cfg Γ k) ir)))
  | [], irs, ir, e, e2 => by cases e; cases e2
  | [a], irs, ir, e, e2 => by
    obtain ⟨x, y, rfl, h1, h2⟩ := mapEs_cons e
    cases h2
    cases e2
    have q := (one_ hf G tk hs h1).2
    exact ⟨pe_one q.1, snd_or1 q.2⟩
  | a :: b :: r, irs, ir, e, e2 => by
    obtain ⟨x, y, rfl, h1, h2⟩ := mapEs_cons e
    have h2' := h2
    obtain ⟨x2, y2, rfl, h3, h4⟩ := mapEs_cons h2
    obtain ⟨ir2, e3, e4⟩ := Option.map_eq_some_iff.mp (show (foldB .or_ (.cons x2 y2)).map (MI.E.or_ x) = some ir from e2)
    subst e4
    have q := (one_ hf G tk hs h1).2
    obtain ⟨p1, p2⟩ := or_snd hf G tk hs h2' e3
    rw [ev_or]
    exact ⟨snd_orV G.K q.1 p1, snd_orW q.2 p2⟩
theorem cmp_snd {ops : List CmpOp} (hf : SndF Γ B k C f) (G : Gd C Γ B k X) (tk : Takes X W_) (hs : X.env.scope = sc) (e : cCmp (f sc) a ops es = some ir) : SndE Γ B k X W_ (.Compare a ops es pos) ir := by
  have hu : X.A.units + 64 < cLine := by have := G.hu; omega
  unfold cCmp at e
  split at e
  · rename_i op b
    split at e
    · rename_i x y h1 h2
      cases e
      have q1 := (one_ hf G tk hs h1).2
      have q2 := one_ hf G tk hs h2
      unfold SndE
      rw [ev_cmp]
      have hm : behindInMarks (coper (copOf op)) b = false := nomark_ (okE_set q2.1)
      have p1 := snd_cmp (pos := pos) G.K hu (copOf op) q1.1 q2.2.1 hm
      have p2 := snd_cmpT (pos := pos) G.K hu (copOf op) q1.1 q2.2.1 hm
      rw [coper_cop] at p1 p2
      exact ⟨p1, p2⟩
    · cases e
  · rename_i o1 o2 b d
    split at e
    · rename_i x y z h1 h2 h3
      cases e
      have q1 := (one_ hf G tk hs h1).2
      have q2 := one_ hf G tk hs h2
      have q3 := one_ hf G tk hs h3
      unfold SndE
      rw [ev_chn]
      have hm : lastMarks [coper (copOf o1), coper (copOf o2)] [b, d] = false := by
        show behindInMarks (coper (copOf o2)) d = false
        exact nomark_ (okE_set q3.1)
      have p1 := snd_chn (pos := pos) G.K hu (copOf o1) (copOf o2) q1.1 q2.2.1 q3.2.1 hm
      have p2 := snd_chnT (pos := pos) G.K hu (copOf o1) (copOf o2) q1.1 q2.2.1 q3.2.1 hm
      rw [coper_cop, coper_cop] at p1 p2
      exact ⟨p1, p2⟩
    · cases e
  · cases e
theorem po_snd {lo : Option Expr} {l : MI.E} (hf : SndF Γ B k C f) (G : Gd C Γ B k X) (tk : Takes X W_) (hs : X.env.scope = sc) (e : cP (f sc) lo = some l) : PO X lo (LO B W_ fun s => partM l (evE (cfg Γ k) l s)) := by
  cases lo with
  | none => cases e; exact snd_poN
  | some a =>
    obtain ⟨y, h1, h2⟩ := Option.bind_eq_some_iff.mp (show (f sc a).bind (fun x => if x.isNon then none else some x) = some l from e)
    split at h2
    · cases h2
    · rename_i hn
      cases h2
      exact snd_poS (fun z => by rw [z] at hn; exact hn rfl) (one_ hf G tk hs h1).2.1
theorem sub_snd (hf : SndF Γ B k C f) (G : Gd C Γ B k X) (tk : Takes X W_) (hs : X.env.scope = sc) (e : cSub (f sc) a b = some ir) : SndE Γ B k X W_ (.Subscript a b pos) ir := by
  refine sndPlain G rfl ?_
  have hu : X.A.units + 64 < cLine := by have := G.hu; omega
  unfold cSub at e
  split at e
  · rename_i lo hi p2
    split at e
    · rename_i x l u h1 h2 h3
      cases e
      rw [ev_slc]
      exact snd_slc G.K (one_ hf G tk hs h1).2.1 (po_snd hf G tk hs h2) (po_snd hf G tk hs h3)
    · cases e
  · cases e
  · split at e
    · rename_i x y h1 h2
      cases e
      rw [ev_idx]
      have q2 := one_ hf G tk hs h2
      exact snd_idx G.K hu (one_ hf G tk hs h1).2.1 q2.2.1 (okE_sl q2.1)
    · cases e
/-! built-ins -/
theorem bi_snd_len {r : List Expr} {mr : Env → Mo (List W)} (hc : X.calm = true) (hK : X.K = B.K) (hg : Gl X "len") (hm : X.mg "len" = none) (ha : PA X (a :: r) (LA B W_ mr)) (h1 : isSt a = false) (h2 : (backTo pos (starEach r X.env)).any (·.1) = false) : PE X (.Call (.Name "len" p) (a :: r) [] pos) (LE B W_ (mBi .len mr)) :=
  snd_biB (r := rLenM X.K) (by rw [hK]; exact bi_len) (call_len.or call_lenD) hg hm boot_len (by decide) (by decide) ha h1 h2
theorem bi_snd_abs {r : List Expr} {mr : Env → Mo (List W)} (hc : X.calm = true) (hK : X.K = B.K) (hg : Gl X "abs") (hm : X.mg "abs" = none) (ha : PA X (a :: r) (LA B W_ mr)) (h1 : isSt a = false) (h2 : (backTo pos (starEach r X.env)).any (·.1) = false) : PE X (.Call (.Name "abs" p) (a :: r) [] pos) (LE B W_ (mBi .abs mr)) :=
  snd_biB (r := rAbsM) bi_abs call_abs hg hm boot_abs (by decide) (by decide) ha h1 h2
theorem bi_snd_min {r : List Expr} {mr : Env → Mo (List W)} (hc : X.calm = true) (hK : X.K = B.K) (hg : Gl X "min") (hm : X.mg "min" = none) (ha : PA X (a :: r) (LA B W_ mr)) (h1 : isSt a = false) (h2 : (backTo pos (starEach r X.env)).any (·.1) = false) : PE X (.Call (.Name "min" p) (a :: r) [] pos) (LE B W_ (mBi .min mr)) :=
  snd_biB (r := rMinM X.K) (by rw [hK]; exact bi_min) ((call_min2 hc).or (cr_min hc)) hg hm boot_min (by decide) (by decide) ha h1 h2
theorem bi_snd_max {r : List Expr} {mr : Env → Mo (List W)} (hc : X.calm = true) (hK : X.K = B.K) (hg : Gl X "max") (hm : X.mg "max" = none) (ha : PA X (a :: r) (LA B W_ mr)) (h1 : isSt a = false) (h2 : (backTo pos (starEach r X.env)).any (·.1) = false) : PE X (.Call (.Name "max" p) (a :: r) [] pos) (LE B W_ (mBi .max mr)) :=
  snd_biB (r := rMaxM X.K) (by rw [hK]; exact bi_max) ((call_max2 hc).or (cr_max hc)) hg hm boot_max (by decide) (by decide) ha h1 h2
theorem bi_snd_list {r : List Expr} {mr : Env → Mo (List W)} (hc : X.calm = true) (hK : X.K = B.K) (hg : Gl X "list") (hm : X.mg "list" = none) (ha : PA X (a :: r) (LA B W_ mr)) (h1 : isSt a = false) (h2 : (backTo pos (starEach r X.env)).any (·.1) = false) : PE X (.Call (.Name "list" p) (a :: r) [] pos) (LE B W_ (mBi .list mr)) :=
  snd_biT (r := rListM X.K) (by rw [hK]; exact bi_list) call_list_of hg hm PyProof.Rows.boot_list (by decide) (by decide) ha h1 h2
theorem bi_snd_tuple {r : List Expr} {mr : Env → Mo (List W)} (hc : X.calm = true) (hK : X.K = B.K) (hg : Gl X "tuple") (hm : X.mg "tuple" = none) (ha : PA X (a :: r) (LA B W_ mr)) (h1 : isSt a = false) (h2 : (backTo pos (starEach r X.env)).any (·.1) = false) : PE X (.Call (.Name "tuple" p) (a :: r) [] pos) (LE B W_ (mBi .tuple mr)) :=
  snd_biT (r := rTupM X.K) (by rw [hK]; exact bi_tuple) call_tupleD hg hm PyProof.Rows.boot_tuple (by decide) (by decide) ha h1 h2
theorem bi_snd_dict {r : List Expr} {mr : Env → Mo (List W)} (hc : X.calm = true) (hK : X.K = B.K) (hg : Gl X "dict") (hm : X.mg "dict" = none) (ha : PA X (a :: r) (LA B W_ mr)) (h1 : isSt a = false) (h2 : (backTo pos (starEach r X.env)).any (·.1) = false) : PE X (.Call (.Name "dict" p) (a :: r) [] pos) (LE B W_ (mBi .dict mr)) :=
  snd_biT (r := rDictM X.K) (by rw [hK]; exact bi_dict) (call_dictD.or (call_dictP hc)) hg hm PyProof.Rows.boot_dict (by decide) (by decide) ha h1 h2
theorem bi_snd_int {r : List Expr} {mr : Env → Mo (List W)} (hc : X.calm = true) (hK : X.K = B.K) (hg : Gl X "int") (hm : X.mg "int" = none) (ha : PA X (a :: r) (LA B W_ mr)) (h1 : isSt a = false) (h2 : (backTo pos (starEach r X.env)).any (·.1) = false) : PE X (.Call (.Name "int" p) (a :: r) [] pos) (LE B W_ (mBi .int mr)) :=
  snd_biT (r := rIntM) bi_int call_int1 hg hm PyProof.Rows.boot_int (by decide) (by decide) ha h1 h2
theorem bi_snd_all {r : List Expr} {mr : Env → Mo (List W)} (hc : X.calm = true) (hK : X.K = B.K) (hg : Gl X "all") (hm : X.mg "all" = none) (ha : PA X (a :: r) (LA B W_ mr)) (h1 : isSt a = false) (h2 : (backTo pos (starEach r X.env)).any (·.1) = false) : PE X (.Call (.Name "all" p) (a :: r) [] pos) (LE B W_ (mBi .all mr)) :=
  snd_biB (r := rAll X.K) (by rw [hK]; exact bi_all) (cr_all hc) hg hm boot_all (by decide) (by decide) ha h1 h2
theorem bi_snd_any {r : List Expr} {mr : Env → Mo (List W)} (hc : X.calm = true) (hK : X.K = B.K) (hg : Gl X "any") (hm : X.mg "any" = none) (ha : PA X (a :: r) (LA B W_ mr)) (h1 : isSt a = false) (h2 : (backTo pos (starEach r X.env)).any (·.1) = false) : PE X (.Call (.Name "any" p) (a :: r) [] pos) (LE B W_ (mBi .any mr)) :=
  snd_biB (r := rAny X.K) (by rw [hK]; exact bi_any) (cr_any hc) hg hm boot_any (by decide) (by decide) ha h1 h2
theorem bi_snd_sum {r : List Expr} {mr : Env → Mo (List W)} (hc : X.calm = true) (hK : X.K = B.K) (hg : Gl X "sum") (hm : X.mg "sum" = none) (ha : PA X (a :: r) (LA B W_ mr)) (h1 : isSt a = false) (h2 : (backTo pos (starEach r X.env)).any (·.1) = false) : PE X (.Call (.Name "sum" p) (a :: r) [] pos) (LE B W_ (mBi .sum mr)) :=
  snd_biB (r := rSum X.K) (by rw [hK]; exact bi_sum) (cr_sum hc) hg hm boot_sum (by decide) (by decide) ha h1 h2
theorem if_some_ {p : Prop} [Decidable p] {a bi : BI} {b : Option BI} (e : (if p then some a else b) = some bi) : (p ∧ bi = a) ∨ b = some bi := by
  by_cases c : p
  · rw [if_pos c] at e; cases e; exact .inl ⟨c, rfl⟩
  · rw [if_neg c] at e; exact .inr e
theorem bi_cases {x : Nm} {bi : BI} (e : biOf x = some bi) : (x = "len" ∧ bi = .len) ∨ (x = "abs" ∧ bi = .abs) ∨ (x = "min" ∧ bi = .min) ∨ (x = "max" ∧ bi = .max) ∨ (x = "list" ∧ bi = .list) ∨ (x = "tuple" ∧ bi = .tuple) ∨ (x = "dict" ∧ bi = .dict) ∨ (x = "int" ∧ bi = .int) ∨ (x = "all" ∧ bi = .all) ∨ (x = "any" ∧ bi = .any) ∨ (x = "sum" ∧ bi = .sum) ∨ (x = "sorted" ∧ bi = .sorted) ∨ (x = "repr" ∧ bi = .repr) := by
  unfold biOf at e
  rcases if_some_ e with ⟨z, w⟩ | e
  · exact .inl ⟨z, w⟩
  rcases if_some_ e with ⟨z, w⟩ | e
  · exact .inr (.inl ⟨z, w⟩)
  rcases if_some_ e with ⟨z, w⟩ | e
  · exact .inr (.inr (.inl ⟨z, w⟩))
  rcases if_some_ e with ⟨z, w⟩ | e
  · exact .inr (.inr (.inr (.inl ⟨z, w⟩)))
  rcases if_some_ e with ⟨z, w⟩ | e
  · exact .inr (.inr (.inr (.inr (.inl ⟨z, w⟩))))
  rcases if_some_ e with ⟨z, w⟩ | e
  · exact .inr (.inr (.inr (.inr (.inr (.inl ⟨z, w⟩)))))
  rcases if_some_ e with ⟨z, w⟩ | e
  · exact .inr (.inr (.inr (.inr (.inr (.inr (.inl ⟨z, w⟩))))))
  rcases if_some_ e with ⟨z, w⟩ | e
  · exact .inr (.inr (.inr (.inr (.inr (.inr (.inr (.inl ⟨z, w⟩)))))))
  rcases if_some_ e with ⟨z, w⟩ | e
  · exact .inr (.inr (.inr (.inr (.inr (.inr (.inr (.inr (.inl ⟨z, w⟩))))))))
  rcases if_some_ e with ⟨z, w⟩ | e
  · exact .inr (.inr (.inr (.inr (.inr (.inr (.inr (.inr (.inr (.inl ⟨z, w⟩)))))))))
  rcases if_some_ e with ⟨z, w⟩ | e
  · exact .inr (.inr (.inr (.inr (.inr (.inr (.inr (.inr (.inr (.inr (.inl ⟨z, w⟩))))))))))
  rcases if_some_ e with ⟨z, w⟩ | e
  · exact .inr (.inr (.inr (.inr (.inr (.inr (.inr (.inr (.inr (.inr (.inr (.inl ⟨z, w⟩)))))))))))
  rcases if_some_ e with ⟨z, w⟩ | e
  · exact .inr (.inr (.inr (.inr (.inr (.inr (.inr (.inr (.inr (.inr (.inr (.inr ⟨z, w⟩)))))))))))
  cases e
theorem bi_snd {bi : BI} {r : List Expr} {mr : Env → Mo (List W)} (hc : X.calm = true) (gd : X.A.guards = some []) (hu : X.A.units + 66 < cLine) (hK : X.K = B.K) (e : biOf x = some bi) (hg : Gl X x) (hm : X.mg x = none) (ha : PA X (a :: r) (LA B W_ mr)) (hst : ∀ z ∈ a :: r, isSt z = false) :
    PE X (.Call (.Name x p) (a :: r) [] pos) (LE B W_ (mBi bi mr)) := by
  have h1 := hst a List.mem_cons_self
  have h2 : (backTo pos (starEach r X.env)).any (·.1) = false := back_any fun z hz => hst z (List.mem_cons_of_mem _ hz)
  rcases bi_cases e with ⟨rfl, rfl⟩ | ⟨rfl, rfl⟩ | ⟨rfl, rfl⟩ | ⟨rfl, rfl⟩ | ⟨rfl, rfl⟩ | ⟨rfl, rfl⟩ | ⟨rfl, rfl⟩ | ⟨rfl, rfl⟩ | ⟨rfl, rfl⟩ | ⟨rfl, rfl⟩ | ⟨rfl, rfl⟩ | ⟨rfl, rfl⟩ | ⟨rfl, rfl⟩
  · exact bi_snd_len hc hK hg hm ha h1 h2
  · exact bi_snd_abs hc hK hg hm ha h1 h2
  · exact bi_snd_min hc hK hg hm ha h1 h2
  · exact bi_snd_max hc hK hg hm ha h1 h2
  · exact bi_snd_list hc hK hg hm ha h1 h2
  · exact bi_snd_tuple hc hK hg hm ha h1 h2
  · exact bi_snd_dict hc hK hg hm ha h1 h2
  · exact bi_snd_int hc hK hg hm ha h1 h2
  · exact bi_snd_all hc hK hg hm ha h1 h2
  · exact bi_snd_any hc hK hg hm ha h1 h2
  · exact bi_snd_sum hc hK hg hm ha h1 h2
  · exact snd_biB (r := rSrtM X.K) (by rw [hK]; exact bi_sorted) (cr_sortedI.or (call_sortedDIa hc)) hg hm PyProof.Rows.boot_sorted (by decide) (by decide) ha h1 h2
  · exact snd_biB (r := rReprM X.K) (by rw [hK]; exact bi_repr) (cr_repr gd (by omega)) hg hm PyProof.Rows.boot_repr (by decide) (by decide) ha h1 h2
theorem cls_snd {y : Nm} (G : Gd C Γ B k X) (hs : X.env.scope = sc) (e : isC C sc y = true) : ∃ cv cu, ClR B.K B Γ.sub y cv cu ∧ ∀ p, PE X (.Name y p) (tC cv) := by
  unfold isC at e
  rw [Bool.or_eq_true, Bool.and_eq_true, Bool.and_eq_true] at e
  rcases e with ⟨h1, h2⟩ | ⟨h1, h2⟩
  · obtain ⟨a, b, c⟩ := isB_ G hs h1
    obtain ⟨T, eT, r⟩ := G.st.cl y h2
    refine ⟨_, _, r, fun p => pe_bltn a c (v := .ty T) (u := .type T) ?_ rfl (okNm_ b).2.2 (okNm_ b).1⟩
    unfold tyS at eT
    split at eT
    · rename_i z; subst z; cases eT; exact PyProof.Rows.boot_int
    split at eT
    · rename_i z; subst z; cases eT; exact PyProof.Rows.boot_str
    split at eT
    · rename_i z; subst z; cases eT; exact PyProof.Rows.boot_bool
    split at eT
    · rename_i z; subst z; cases eT; exact PyProof.Rows.boot_tuple
    split at eT
    · rename_i z; subst z; cases eT; exact PyProof.Rows.boot_list
    split at eT
    · rename_i z; subst z; cases eT; exact PyProof.Rows.boot_dict
    split at eT
    · rename_i z; subst z; cases eT; decide +kernel
    · cases eT
  · obtain ⟨a, b⟩ := isG_ hs h1
    obtain ⟨m, r, _⟩ := G.st.ec y h2
    exact ⟨_, _, r, fun p => pe_glob a (v := .ref (B.ca y)) m rfl (okNm_ b).1⟩
theorem clss_snd (G : Gd C Γ B k X) (hs : X.env.scope = sc) : ∀ {es : List Expr} {ts : List Nm}, tyNames C sc es = some ts → ∃ cvs cus, ClRs B.K B Γ.sub ts cvs cus ∧ PA X es (fun _ H Q => Q cvs H) ∧ cvs.length = ts.length ∧ (es ≠ [] → ts ≠ [])
  | [], ts, e => by cases e; exact ⟨[], [], .nil, pa_nil, rfl, fun z => absurd rfl z⟩
  | a :: r, ts, e => by
    cases a with
    | Name y q =>
      dsimp only [tyNames] at e
      split at e
      · rename_i g
        obtain ⟨ts2, e2, e3⟩ := Option.map_eq_some_iff.mp e
        subst e3
        obtain ⟨cv, cu, r1, p1⟩ := cls_snd G hs g
        obtain ⟨cvs, cus, r2, p2, l2, _⟩ := clss_snd G hs e2
        exact ⟨cv :: cvs, cu :: cus, .cons r1 r2, PA.weak (pa_cons (p1 q) p2 (star_cons rfl)) fun _ _ _ z => z, by rw [List.length_cons, List.length_cons, l2], fun _ z => by cases z⟩
      · cases e
    | _ => cases e
theorem isin_snd {y : Nm} (G : Gd C Γ B k X) (hs : X.env.scope = sc) (hB : isB C sc "isinstance" = true) : Gl X "isinstance" ∧ X.mg "isinstance" = none := ⟨(isB_ G hs hB).1, (isB_ G hs hB).2.2⟩
theorem rng_snd {as2 : List Expr} (G : Gd C Γ B k X) (hs : X.env.scope = sc) (e : rngOf C sc a = some as2) : ∃ q c, a = .Call (.Name "range" q) as2 [] c ∧ Gl X "range" ∧ X.mg "range" = none ∧ ((∃ u, as2 = [u]) ∨ ∃ u v, as2 = [u, v]) := by
  unfold rngOf at e
  split at e
  · rename_i y q as3 c
    split at e
    · rename_i g
      cases e
      rw [Bool.and_eq_true, Bool.and_eq_true, beq_iff_eq, Bool.or_eq_true, decide_eq_true_eq, decide_eq_true_eq] at g
      obtain ⟨⟨g1, g2⟩, g3⟩ := g
      subst g1
      refine ⟨q, c, rfl, (isB_ G hs g2).1, (isB_ G hs g2).2.2, ?_⟩
      rcases g3 with g3 | g3
      · obtain ⟨u, hu⟩ := List.length_eq_one_iff.mp g3
        exact .inl ⟨u, hu⟩
      · match as2, g3 with
        | [u, v], _ => exact .inr ⟨u, v, rfl⟩
    · cases e
  · cases e
theorem setOf_snd {e : Expr} (G : Gd C Γ B k X) (hs : X.env.scope = sc) (h : setOf C sc a = some e) : ∃ q c, a = .Call (.Name "set" q) [e] [] c ∧ Gl X "set" ∧ X.mg "set" = none := by
  unfold setOf at h
  split at h
  · rename_i y q b c
    split at h
    · rename_i g
      rw [Bool.and_eq_true] at g
      have hy := beq_iff_eq.mp g.1
      subst hy
      cases h
      exact ⟨q, c, rfl, (isB_ G hs g.2).1, (isB_ G hs g.2).2.2⟩
    · cases h
  · cases h
theorem enuOf_snd {e : Expr} (G : Gd C Γ B k X) (hs : X.env.scope = sc) (h : enuOf C sc a = some e) : ∃ q c, a = .Call (.Name "enumerate" q) [e] [] c ∧ Gl X "enumerate" ∧ X.mg "enumerate" = none := by
  unfold enuOf at h
  split at h
  · rename_i y q b c
    split at h
    · rename_i g
      rw [Bool.and_eq_true] at g
      have hy := beq_iff_eq.mp g.1
      subst hy
      cases h
      exact ⟨q, c, rfl, (isB_ G hs g.2).1, (isB_ G hs g.2).2.2⟩
    · cases h
  · cases h
theorem cBi_snd (hf : SndF Γ B k C f) (G : Gd C Γ B k X) (tk : Takes X W_) (hs : X.env.scope = sc) (hB : isB C sc x = true) (e : cBi C (f sc) sc x es = some ir) : PE X (.Call (.Name x p) es [] pos) (LE B W_ (evE (cfg Γ k) ir)) := by
  obtain ⟨b1, b2, b3⟩ := isB_ G hs hB
  unfold cBi at e
  split at e
  · -- isinstance, one class
    rename_i a y q hx
    have hx := beq_iff_eq.mp hx
    subst hx
    split at e
    · rename_i g
      obtain ⟨ka, e2, e3⟩ := Option.map_eq_some_iff.mp e
      subst e3
      obtain ⟨cv, cu, r1, p1⟩ := cls_snd G hs g
      have q1 := one_ hf G tk hs e2
      rw [ev_isi]
      exact snd_isi1 G.K b1 b3 q1.2.1 (p1 q) r1 (okE_st q1.1) rfl
    · cases e
  · rename_i a e0 es0 n q hx
    have hx := beq_iff_eq.mp hx
    subst hx
    split at e
    · rename_i ka ts h1 h2
      split at e
      · rename_i hl
        cases e
        obtain ⟨cvs, cus, r2, p2, l2, ne⟩ := clss_snd G hs h2
        have q1 := one_ hf G tk hs h1
        rw [ev_isi]
        exact snd_isiN G.K b1 b3 q1.2.1 p2 r2 (ne fun z => by cases z) (by rw [l2]; exact of_decide_eq_true hl) (okE_st q1.1)
      · cases e
    · cases e
  · cases e
  · cases e
  · rename_i a r hx
    split at e
    · rename_i hc
      have gd := (G.cal hc).2.1
      have hc := (G.cal hc).1
      split at e
      · rename_i as2 hx2 hr
        have hx2 := beq_iff_eq.mp hx2
        subst hx2
        obtain ⟨irs, e2, e3⟩ := Option.map_eq_some_iff.mp e
        subst e3
        obtain ⟨q, c, ea, g1, g2, g3⟩ := rng_snd G hs hr
        subst ea
        rw [ev_bi]
        rcases g3 with ⟨u, rfl⟩ | ⟨u, v, rfl⟩
        · obtain ⟨y1, y2, rfl, h1, h2⟩ := mapEs_cons e2
          cases h2
          have q1 := one_ hf G tk hs h1
          rw [evs_cons, evs_nil]
          exact snd_listr1 hc b1 b3 g1 g2 q1.2.1 (okE_st q1.1)
        · obtain ⟨y1, y2, rfl, h1, h2⟩ := mapEs_cons e2
          obtain ⟨y3, y4, rfl, h3, h4⟩ := mapEs_cons h2
          cases h4
          have q1 := one_ hf G tk hs h1
          have q2 := one_ hf G tk hs h3
          rw [evs_cons, evs_cons, evs_nil]
          exact snd_listr2 hc b1 b3 g1 g2 q1.2.1 q2.2.1 (okE_st q1.1) (okE_st q2.1)
      · split at e
        · rename_i e0 hx2 hr hneg
          have hx2 := beq_iff_eq.mp hx2
          subst hx2
          obtain ⟨ka, h1, e3⟩ := Option.map_eq_some_iff.mp e
          subst e3
          obtain ⟨q, c, ea, g1, g2⟩ := setOf_snd G hs hr
          subst ea
          have q1 := one_ hf G tk hs h1
          rw [ev_bi, evs_cons, evs_nil]
          exact snd_sset G.K hc b1 b3 g1 g2 q1.2.1 (okE_st q1.1)
        · split at e
          · rename_i e0 hx2 hr n1 n2
            have hx2 := beq_iff_eq.mp hx2
            subst hx2
            obtain ⟨ka, h1, e3⟩ := Option.map_eq_some_iff.mp e
            subst e3
            obtain ⟨q, c, ea, g1, g2⟩ := enuOf_snd G hs hr
            subst ea
            have q1 := one_ hf G tk hs h1
            rw [ev_bi, evs_cons, evs_nil]
            exact snd_dicE G.K hc b1 b3 g1 g2 q1.2.1 (okE_st q1.1)
          · split at e
            · rename_i bi ks h1 h2
              cases e
              obtain ⟨s1, p1⟩ := args_snd hf G tk hs h2
              rw [ev_bi]
              exact bi_snd hc gd G.hu G.K h1 b1 b3 p1 s1
            · cases e
    · cases e
theorem calln_snd (hf : SndF Γ B k C f) (G : Gd C Γ B k X) (tk : Takes X W_) (hs : X.env.scope = sc) (e : cCallN C (f sc) sc x es = some ir) : PE X (.Call (.Name x p) es [] pos) (LE B W_ (evE (cfg Γ k) ir)) := by
  unfold cCallN at e
  split at e
  · rename_i g
    rw [Bool.and_eq_true, Bool.and_eq_true, decide_eq_true_eq] at g
    obtain ⟨⟨g1, g2⟩, g3⟩ := g
    split at e
    · cases e
    · rename_i a r
      obtain ⟨irs, e2, e3⟩ := Option.map_eq_some_iff.mp e
      subst e3
      obtain ⟨s1, p1⟩ := args_snd hf G tk hs e2
      obtain ⟨a1, a2⟩ := isG_ hs g1
      obtain ⟨fa, fd, ps, m1, m2, m3, F⟩ := G.st.df x _ g2
      rw [ev_call]
      rw [← G.K] at F m2 m3
      exact snd_call F (G.cal g3).2.1 (G.cal g3).2.2 a1 m1 m2 m3 (fun σ => passAt tk σ) p1 (okNm_ a2).1 s1 fun s h ws h' q => by rw [evEs_len irs q, mapEs_len e2]
  · split at e
    · rename_i g
      exact cBi_snd hf G tk hs g e
    · cases e
theorem me_name {m : Nm} {kk : ME} (e : meOf m = some kk) : meName kk = some m := by
  unfold meOf at e
  split at e
  · rename_i z; subst z; cases e; rfl
  split at e
  · rename_i z; subst z; cases e; rfl
  split at e
  · rename_i z; subst z; cases e; rfl
  split at e
  · rename_i z; subst z; cases e; rfl
  split at e
  · rename_i z; subst z; cases e; rfl
  split at e
  · rename_i z; subst z; cases e; rfl
  split at e
  · rename_i z; subst z; cases e; rfl
  · cases e
theorem meth_snd {o : Expr} {m : Nm} {apos : Pos} (hf : SndF Γ B k C f) (G : Gd C Γ B k X) (tk : Takes X W_) (hs : X.env.scope = sc) (e : cMeth (f sc) o m apos es pos = some ir) : PE X (.Call (.Attribute o m apos) es [] pos) (LE B W_ (evE (cfg Γ k) ir)) := by
  unfold cMeth at e
  split at e
  · rename_i g
    rw [Bool.and_eq_true, Bool.and_eq_true, decide_eq_true_eq] at g
    obtain ⟨⟨g1, g2⟩, g3⟩ := g
    split at e
    · rename_i kk x ys h1 h2 h3
      cases e
      obtain ⟨s1, p1⟩ := args_snd hf G tk hs h3
      have q1 := one_ hf G tk hs h2
      rw [ev_me]
      cases es with
      | nil => cases h3; rw [evs_nil]; exact snd_me0 G.K G.hu (me_name h1) q1.2.1 g2 g1
      | cons a r => exact snd_me G.K G.hu (me_name h1) q1.2.1 p1 g2 s1 g3 g1
    · cases e
  · cases e
theorem dict_snd {ks : List (Option Expr)} {vs : List Expr} (hf : SndF Γ B k C f) (G : Gd C Γ B k X) (tk : Takes X W_) (hs : X.env.scope = sc) (e : cDict (f sc) ks vs = some ir) : PE X (.Dict ks vs pos) (LE B W_ (evE (cfg Γ k) ir)) := by
  unfold cDict at e
  split at e
  · rename_i g
    obtain ⟨es, e2, e3⟩ := Option.bind_eq_some_iff.mp e
    obtain ⟨irs, e4, e5⟩ := Option.map_eq_some_iff.mp e3
    subst e5
    rw [ev_dct]
    have key : ∀ {ks : List (Option Expr)} {vs : List Expr} {es : List Expr} {irs : Es}, flatKV ks vs = some es → mapEs (f sc) es = some irs →
        ∃ trs, PrE X B W_ ks vs (evEs (cfg Γ k) irs) trs ∧ ks.all (·.isSome) = true ∧ ks.length = vs.length ∧ es.length = 2 * ks.length := by
      intro ks
      induction ks with
      | nil =>
        intro vs es irs q1 q2
        cases vs with
        | nil => cases q1; cases q2; rw [evs_nil]; exact ⟨[], .nil, rfl, rfl, rfl⟩
        | cons _ _ => cases q1
      | cons k0 ks ih =>
        intro vs es irs q1 q2
        cases k0 with
        | none => cases vs <;> cases q1
        | some k1 =>
          cases vs with
          | nil => cases q1
          | cons v1 vs =>
            obtain ⟨es2, q3, q4⟩ := Option.map_eq_some_iff.mp (show (flatKV ks vs).map (fun t => k1 :: v1 :: t) = some es from q1)
            subst q4
            obtain ⟨x1, y1, rfl, h1, h2⟩ := mapEs_cons q2
            obtain ⟨x2, y2, rfl, h3, h4⟩ := mapEs_cons h2
            obtain ⟨trs, p1, p2, p3, p4⟩ := ih q3 h4
            rw [evs_cons, evs_cons]
            exact ⟨_, .cons (one_ hf G tk hs h1).2.1 (one_ hf G tk hs h3).2.1 p1, by rw [List.all_cons, p2]; rfl, by rw [List.length_cons, List.length_cons, p3], by simp only [List.length_cons]; omega⟩
    obtain ⟨trs, p1, p2, p3, p4⟩ := key e2 e4
    cases ks with
    | nil =>
      cases vs with
      | nil => cases e2; cases e4; rw [evs_nil]; exact snd_dct0
      | cons _ _ => cases e2
    | cons k0 ks => exact snd_dct p1 p2 p3 (fun z => by cases z) (by rw [p3]; exact g) fun s h ws h' q => by rw [evEs_len irs q, mapEs_len e4, p4]
  · cases e
/-! ### comprehensions -/
/-- what gives walked things is sound -/
def SndI (Γ : Gam) (B : Bs) (k : Nat) (C : Cc) (g : Fi) : Prop := ∀ sc tg e i, g sc tg e = some i → okE e = true ∧ ∀ X W_, Gd C Γ B k X → Takes X W_ → X.env.scope = sc → PI X tg e (LI B W_ (evI (cfg Γ k) i))
theorem tests_snd {ifs : List Expr} {cs : Es} (hf : SndF Γ B k C f) (G : Gd C Γ B k X) (tk : Takes X W_) (hs : X.env.scope = sc) (hl : ifs.length ≤ 1) (e : mapEs (f sc) ifs = some cs) : PTs X ifs (LT B W_ (evT (cfg Γ k) cs)) := by
  match ifs, e, hl with
  | [], e, _ =>
    cases e
    rw [evt_nil]
    exact ⟨fun pins s σ H Q I h => pts_nil.run pins s σ H Q I h.ret_⟩
  | [c], e, _ =>
    obtain ⟨x, y, rfl, h1, h2⟩ := mapEs_cons e
    cases h2
    rw [evt_cons B W_]
    exact pts_one (one_ hf G tk hs h1).2.2
theorem comp_snd {elt tg it : Expr} {s2 : Scope} {ifs : List Expr} (hf : SndF Γ B k C f) (hi : SndI Γ B k C g) (G : Gd C Γ B k X) (tk : Takes X W_) (hs : X.env.scope = sc) (e : cComp C f g sc elt s2 tg it ifs = some ir) :
    ∃ (t : TN) (own : List (Str × Nat)) (mi : Env → Mo It) (mt : Env → Mo Bool) (me : Env → Mo W), evE (cfg Γ k) ir = mComp mi mt me t (own.map (·.2)) ∧ X.calm = true ∧ PI X tg it (LI B W_ mi) ∧ BlkOk X.N X.env.scope s2 own ∧ (∀ i ∈ tnS t, i ∈ own.map (·.2)) ∧
      (∀ (s : Shared) (H : Hp) (C : Addr) (cl : List (Str × Addr)) (fp : List Addr), PG (X.blk s H s2 (compEnvC s2 cl C X.env) fp) tg (gOf B t)) ∧ (∀ (s : Shared) (H : Hp) (C : Addr) (cl : List (Str × Addr)) (fp : List Addr), PTs (X.blk s H s2 (compEnvC s2 cl C X.env) fp) ifs (LT B WN mt)) ∧
      (∀ (s : Shared) (H : Hp) (C : Addr) (cl : List (Str × Addr)) (fp : List Addr), PE (X.blk s H s2 (compEnvC s2 cl C X.env) fp) elt (LE B WN me)) ∧ ∀ es k q, it ≠ .Set es k q := by
  unfold cComp at e
  split at e
  · rename_i gd
    rw [Bool.and_eq_true, Bool.and_eq_true, decide_eq_true_eq] at gd
    obtain ⟨⟨c1, c2⟩, c3⟩ := gd
    split at e
    · rename_i t i x cs h1 h2 h3 h4
      split at e
      · rename_i ho
        cases e
        rw [ev_comp]
        have Gb : ∀ (s : Shared) (H : Hp) (Ca : Addr) (cl : List (Str × Addr)) (fp : List Addr), Gd C Γ B k (X.blk s H s2 (compEnvC s2 cl Ca X.env) fp) := fun s H Ca cl fp => ⟨G.K, G.N, G.nd, G.hu, G.cal, G.st⟩
        have Tb : ∀ (s : Shared) (H : Hp) (Ca : Addr) (cl : List (Str × Addr)) (fp : List Addr), Takes (X.blk s H s2 (compEnvC s2 cl Ca X.env) fp) WN := fun s H Ca cl fp u s' ⟨a, B', sI, pins, σ, H', cls, d, _, _, _, _, _, _, _, _, w⟩ => w.elim
        have Sb : ∀ (s : Shared) (H : Hp) (Ca : Addr) (cl : List (Str × Addr)) (fp : List Addr), (X.blk s H s2 (compEnvC s2 cl Ca X.env) fp).env.scope = L2.relS s2 sc := fun s H Ca cl fp => by rw [← hs]; rfl
        refine ⟨t, ownOf C.N s2.names, _, _, _, rfl, (G.cal c1).1, (hi sc tg it i h2).2 X W_ G tk hs, by rw [G.N, hs]; exact blkOk_by c2, ?_, fun s H Ca cl fp => tn_tg (Gb s H Ca cl fp) (Sb s H Ca cl fp) (fun x hx => hx) h1, fun s H Ca cl fp => tests_snd hf (Gb s H Ca cl fp) (Tb s H Ca cl fp) (Sb s H Ca cl fp) c3 h4,
          fun s H Ca cl fp => (one_ hf (Gb s H Ca cl fp) (Tb s H Ca cl fp) (Sb s H Ca cl fp) h3).2.1, okE_set (hi sc tg it i h2).1⟩
        intro j hj
        cases t with
        | one j2 =>
          have hj := List.mem_singleton.mp hj
          subst hj
          exact List.contains_iff_mem.mp ho
        | many js =>
          exact List.contains_iff_mem.mp (List.all_eq_true.mp ho j hj)
        | tr ts =>
          exact List.contains_iff_mem.mp (List.all_eq_true.mp ho j hj)
      · cases e
    · cases e
  · cases e
end
end MI
/-! MI17: the compiler of expressions is sound; statements. -/
namespace MI
open PySem PySem.Spec PyProof.Rows L2
section
variable {C : Cc} {Γ : Gam} {B : Bs} {k : Nat} {X : Cx} {W_ : WX} {sc : Scope} {x : Nm} {i : Nat} {f : Fe} {g : Fi} {a b d : Expr} {es : List Expr} {ir : MI.E} {pos p : Pos}
theorem enu_snd (G : Gd C Γ B k X) (hs : X.env.scope = sc) {a e : Expr} (h : enuOf C sc e = some a) : ∃ q c, e = .Call (.Name "enumerate" q) [a] [] c ∧ Gl X "enumerate" ∧ X.mg "enumerate" = none := by
  unfold enuOf at h
  split at h
  · rename_i y q a2 c
    split at h
    · rename_i g
      cases h
      rw [Bool.and_eq_true, beq_iff_eq] at g
      obtain ⟨g1, g2⟩ := g
      subst g1
      exact ⟨q, c, rfl, (isB_ G hs g2).1, (isB_ G hs g2).2.2⟩
    · cases h
  · cases h
theorem rng_ok {as2 : List Expr} (h : rngOf C sc a = some as2) : okE a = true := by
  unfold rngOf at h
  split at h
  · rfl
  · cases h
theorem enu_ok {e : Expr} (h : enuOf C sc e = some a) : okE e = true := by
  unfold enuOf at h
  split at h
  · rfl
  · cases h
theorem zip_snd (G : Gd C Γ B k X) (hs : X.env.scope = sc) {e : Expr} (h : zipOf C sc e = some es) : ∃ q c a b, e = .Call (.Name "zip" q) [a, b] [] c ∧ es = [a, b] ∧ Gl X "zip" ∧ X.mg "zip" = none := by
  unfold zipOf at h
  split at h
  · rename_i y q a b c
    split at h
    · rename_i g
      cases h
      rw [Bool.and_eq_true, beq_iff_eq] at g
      obtain ⟨g1, g2⟩ := g
      subst g1
      exact ⟨q, c, a, b, rfl, rfl, (isB_ G hs g2).1, (isB_ G hs g2).2.2⟩
    · cases h
  · cases h
theorem evi_rev {c : Cfg} (e : MI.E) : evI c (.rev e) = fun s => bnd (evE c e s) fun x => ofO (revH x) := by funext s; simp only [evI] <;> rfl
theorem rev_snd (G : Gd C Γ B k X) (hs : X.env.scope = sc) {a e : Expr} (h : revOf C sc e = some a) : ∃ q q2 c c2, e = .Call (.Name "reversed" q) [.Call (.Name "range" q2) [a] [] c2] [] c ∧ Gl X "reversed" ∧ X.mg "reversed" = none ∧ Gl X "range" ∧ X.mg "range" = none := by
  unfold revOf at h
  split at h
  · rename_i y q z q2 a2 c2 c
    split at h
    · rename_i g
      cases h
      rw [Bool.and_eq_true, Bool.and_eq_true, Bool.and_eq_true, beq_iff_eq, beq_iff_eq] at g
      obtain ⟨⟨g1, g2⟩, g3, g4⟩ := g
      subst g1 g3
      exact ⟨q, q2, c, c2, rfl, (isB_ G hs g2).1, (isB_ G hs g2).2.2, (isB_ G hs g4).1, (isB_ G hs g4).2.2⟩
    · cases h
  · cases h
theorem rev_ok {e : Expr} (h : revOf C sc e = some a) : okE e = true := by
  unfold revOf at h
  split at h
  · rfl
  · cases h
theorem zip_ok {e : Expr} (h : zipOf C sc e = some es) : okE e = true := by
  unfold zipOf at h
  split at h
  · rfl
  · cases h
theorem cI1_snd (hf : SndF Γ B k C f) : SndI Γ B k C (cI1 C f) := by
  intro sc tg e i h
  unfold cI1 at h
  split at h
  · rename_i as2 hr
    obtain ⟨irs, e2, e3⟩ := Option.map_eq_some_iff.mp h
    subst e3
    refine ⟨rng_ok hr, fun X W_ G tk hs => ?_⟩
    obtain ⟨q, c, ea, g1, g2, g3⟩ := rng_snd G hs hr
    subst ea
    rw [evi_rng]
    rcases g3 with ⟨u, rfl⟩ | ⟨u, v, rfl⟩
    · obtain ⟨y1, y2, rfl, h1, h2⟩ := mapEs_cons e2
      cases h2
      have q1 := one_ hf G tk hs h1
      rw [evs_cons, evs_nil]
      exact snd_piR1 g1 g2 q1.2.1 (okE_st q1.1)
    · obtain ⟨y1, y2, rfl, h1, h2⟩ := mapEs_cons e2
      obtain ⟨y3, y4, rfl, h3, h4⟩ := mapEs_cons h2
      cases h4
      have q1 := one_ hf G tk hs h1
      have q2 := one_ hf G tk hs h3
      rw [evs_cons, evs_cons, evs_nil]
      exact snd_piR2 g1 g2 q1.2.1 q2.2.1 (okE_st q1.1) (okE_st q2.1)
  · split at h
    · rename_i a ht he
      obtain ⟨ka, e2, e3⟩ := Option.map_eq_some_iff.mp h
      subst e3
      refine ⟨enu_ok he, fun X W_ G tk hs => ?_⟩
      obtain ⟨q, c, ea, g1, g2⟩ := enu_snd G hs he
      subst ea
      have q1 := one_ hf G tk hs e2
      rw [evi_enu]
      cases tg with
      | Tuple elts kk tpos => exact snd_piE G.K g1 g2 q1.2.1 (okE_st q1.1)
      | _ => cases ht
    · split at h
      · rename_i as2 ht he
        obtain ⟨irs, e2, e3⟩ := Option.map_eq_some_iff.mp h
        subst e3
        refine ⟨zip_ok he, fun X W_ G tk hs => ?_⟩
        obtain ⟨q, c, a1, a2, ea, ea2, g1, g2⟩ := zip_snd G hs he
        subst ea ea2
        have q1 := args_snd hf G tk hs e2
        rw [evi_zip]
        cases tg with
        | Tuple elts kk tpos => exact snd_piZ G.K g1 g2 q1.2 q1.1
        | _ => cases ht
      · split at h
        · rename_i a he
          obtain ⟨ka, e2, e3⟩ := Option.map_eq_some_iff.mp h
          subst e3
          refine ⟨rev_ok he, fun X W_ G tk hs => ?_⟩
          obtain ⟨q, q2, c, c2, ea, g1, g2, g3, g4⟩ := rev_snd G hs he
          subst ea
          have q1 := one_ hf G tk hs e2
          rw [evi_rev]
          exact snd_piRv g1 g2 g3 g4 q1.2.1 (okE_st q1.1)
        · obtain ⟨ka, e2, e3⟩ := Option.map_eq_some_iff.mp h
          subst e3
          refine ⟨(hf sc e ka e2).1, fun X W_ G tk hs => ?_⟩
          rw [evi_val]
          exact snd_piV G.K (one_ hf G tk hs e2).2.1
theorem gens_snd {elt : Expr} {s2 : Scope} {gs : List Comprehension} (e : cGens C f g sc elt s2 gs = some ir) : ∃ tg it ifs, gs = [⟨tg, it, ifs, 0⟩] ∧ cComp C f g sc elt s2 tg it ifs = some ir := by
  unfold cGens at e
  split at e
  · rename_i tg it ifs
    exact ⟨tg, it, ifs, rfl, e⟩
  · cases e
theorem cE1_ok (e : cE1 C f g sc a = some ir) : okE a = true := by cases a <;> first | rfl | cases e
theorem cE1_snd (hf : SndF Γ B k C f) (hi : SndI Γ B k C g) : SndF Γ B k C (cE1 C f g) := by
  intro sc e ir h
  refine ⟨cE1_ok h, fun X W_ G tk hs => ?_⟩
  cases e with
  | Name x q => exact name_snd G hs h
  | Constant c j q => exact const_snd G h
  | Tuple es j q =>
    obtain ⟨irs, e2, e3⟩ := Option.map_eq_some_iff.mp (show (mapEs (f sc) es).map MI.E.tup = some ir from h)
    subst e3
    refine sndPlain G rfl ?_
    rw [ev_tup]
    exact snd_tup (args_snd hf G tk hs e2).2
  | List es q =>
    obtain ⟨irs, e2, e3⟩ := Option.map_eq_some_iff.mp (show (mapEs (f sc) es).map MI.E.lst = some ir from h)
    subst e3
    refine sndPlain G rfl ?_
    rw [ev_lst]
    exact snd_lst (args_snd hf G tk hs e2).2
  | Dict ks vs q => exact sndPlain G rfl (dict_snd hf G tk hs h)
  | BinOp a op b q =>
    dsimp only [cE1] at h
    split at h
    · rename_i o x y h1 h2 h3
      cases h
      refine sndPlain G rfl ?_
      rw [ev_bin, ← oper_of h1]
      exact snd_bin o G.K (one_ hf G tk hs h2).2.1 (one_ hf G tk hs h3).2.1
    · cases h
  | UnaryOp op a q =>
    cases op with
    | USub =>
      obtain ⟨x, e2, e3⟩ := Option.map_eq_some_iff.mp (show (f sc a).map MI.E.neg = some ir from h)
      subst e3
      refine sndPlain G rfl ?_
      rw [ev_neg]
      exact snd_neg (one_ hf G tk hs e2).2.1
    | Not =>
      obtain ⟨x, e2, e3⟩ := Option.map_eq_some_iff.mp (show (f sc a).map MI.E.nt = some ir from h)
      subst e3
      unfold SndE
      rw [ev_nt]
      have q1 := (one_ hf G tk hs e2).2
      exact ⟨snd_not G.K q1.1, snd_notT q1.2⟩
    | _ => cases h
  | Compare a ops bs q => exact cmp_snd hf G tk hs h
  | BoolOp op es q =>
    cases op with
    | And =>
      obtain ⟨irs, e2, e3⟩ := Option.bind_eq_some_iff.mp (show (mapEs (f sc) es).bind (foldB .and_) = some ir from h)
      obtain ⟨p1, p2⟩ := and_snd (pos := q) hf G tk hs e2 e3
      exact ⟨p1, p2.pt⟩
    | Or =>
      obtain ⟨irs, e2, e3⟩ := Option.bind_eq_some_iff.mp (show (mapEs (f sc) es).bind (foldB .or_) = some ir from h)
      obtain ⟨p1, p2⟩ := or_snd (pos := q) hf G tk hs e2 e3
      exact ⟨p1, p2.pt⟩
  | IfExp d a b q =>
    dsimp only [cE1] at h
    split at h
    · rename_i x y z h1 h2 h3
      cases h
      unfold SndE
      rw [ev_ite]
      have q1 := (one_ hf G tk hs h1).2
      have q2 := (one_ hf G tk hs h2).2
      have q3 := (one_ hf G tk hs h3).2
      exact ⟨snd_ite q1.2 q2.1 q3.1, snd_iteT q1.2 q2.2 q3.2⟩
    · cases h
  | Subscript a i q => exact sub_snd hf G tk hs h
  | Call fn args kw q =>
    cases kw with
    | cons _ _ => cases h
    | nil =>
      cases fn with
      | Name x r => exact sndPlain G rfl (calln_snd hf G tk hs h)
      | Attribute o m r => exact sndPlain G rfl (meth_snd hf G tk hs h)
      | _ => cases h
  | ListComp elt gs s2 q =>
    obtain ⟨tg, it, ifs, eg, h2⟩ := gens_snd h
    subst eg
    obtain ⟨t, own, mi, mt, me, ev, c1, p1, p2, p3, p4, p5, p6, p7⟩ := comp_snd hf hi G tk hs h2
    refine sndPlain G rfl ?_
    rw [ev]
    exact snd_comp c1 G.nd p1 p2 (gOf_tg t) p3 p4 p5 p6 p7
  | _ => cases h
theorem cE_snd : ∀ n : Nat, SndF Γ B k C (cE C n)
  | 0 => fun sc e ir h => by cases h
  | n + 1 => cE1_snd (cE_snd n) (cI1_snd (cE_snd n))
end
/-! ### statements -/
section
variable {c : Cfg}
theorem evs_expr (e) : evS c (.expr e) = fun s => eb (evE c e s) s fun _ => ret (.nx s) := by funext s; simp only [evS]
theorem evs_asg (t e) : evS c (.asg t e) = fun s => eb (evE c e s) s fun w => bnd (rdO (bindT · t w s)) fun s' => ret (.nx s') := by funext s; simp only [evS]
theorem evs_asgI (o i e) : evS c (.asgI o i e) = fun s => eb (bnd (evE c e s) fun w => bnd (evE c o s) fun x => bnd (evE c i s) fun k => match x with
    | .loc n => setI n k w
    | _ => bad) s fun _ => ret (.nx s) := by funext s; simp only [evS] <;> rfl
theorem evs_asgL (o lo hi e) : evS c (.asgL o lo hi e) = fun s => eb (bnd (evE c e s) fun w => bnd (evE c o s) fun x => bnd (partM lo (evE c lo s)) fun l => bnd (partM hi (evE c hi s)) fun u => match x with
    | .loc n => setSl n l u w
    | _ => bad) s fun _ => ret (.nx s) := by funext s; simp only [evS] <;> rfl
theorem evs_aug (i op e) : evS c (.aug i op e) = fun s => bnd (rdO fun _ => (s[i]?).join) fun x => eb (evE c e s) s fun y => bnd (augM op x y) fun w => ret (.nx (s.set i (some w))) := by funext s; simp only [evS]
theorem evs_if (d a b) : evS c (.if_ d a b) = fun s => eb (bnd (evE c d s) truM) s fun k => match k with
    | true => evSs c a s
    | false => evSs c b s := by funext s; simp only [evS] <;> rfl
theorem evs_for (t it b) : evS c (.for_ t it b) = fun s => eb (evI c it s) s fun J => forN (evSs c b) t J J.fuel 0 s := by funext s; simp only [evS]
theorem evs_while (d b) : evS c (.while_ d b) = fun s => whileN (fun s => bnd (evE c d s) truM) (evSs c b) WF s := by funext s; simp only [evS]
theorem evs_ret (e) : evS c (.ret e) = fun s => eb (evE c e s) s fun w => ret (.rt w) := by funext s; simp only [evS]
theorem evs_retN : evS c .retN = fun _ => ret (.rt .non) := by funext s; simp only [evS]
theorem evs_raise (x) : evS c (.raise_ x) = fun s => ret (.xn x s) := by funext s; simp only [evS]
theorem evs_try (b x v hd) : evS c (.try_ b x v hd) = fun s => bnd (evSs c b s) fun o => match o with
    | .xn y s2 => match c.sub y x with
      | some true => match v with
        | some i => fun h' => bnd (evSs c hd (s2.set i (some (.loc h'.length)))) (goneF i) (h' ++ [.exn y])
        | none => bnd (evSs c hd s2) noXn
      | some false => ret (.xn y s2)
      | none => bad
    | o => ret o := by funext s; simp only [evS] <;> rfl
theorem evs_pass : evS c .pass = fun s => ret (.nx s) := by funext s; simp only [evS]
theorem evs_brk : evS c .brk = fun s => ret (.bk s) := by funext s; simp only [evS]
theorem evs_cont : evS c .cont = fun s => ret (.ct s) := by funext s; simp only [evS]
theorem evss_nil : evSs c .nil = fun s => ret (.nx s) := by funext s; simp only [evSs]
theorem evss_cons (st r) : evSs c (.cons st r) = fun s => bnd (evS c st s) fun o => match o with
    | .nx s2 => evSs c r s2
    | o => ret o := by funext s; simp only [evSs] <;> rfl
end
section
variable {B : Bs} {W_ : WX} {X : Cx}
/-- o[i] = v -/
def rSetM : TSet := fun o i v H Q => rSetL o i v H Q ∨ rSetD o i v H Q
theorem set_M (hu : X.A.units + 66 < cLine) : PSet X rSetM := by
  intro pins s σ H o i v ov iv u Q I ro ri rv h
  rcases h with h | h
  · exact set_list pins s σ H o i v ov iv u Q I ro ri rv h
  · exact set_dict (by omega) pins s σ H o i v ov iv u Q I ro ri rv h
/-- a name's op=, by values -/
def tIpM (B : Bs) (W_ : WX) (b : Bop) : TIp := fun x y H Q => ∃ ρ h wx wy, ∃ σ : L2.St, Sim B ρ h H ∧ Rp B ρ h.length H wx x ∧ Rp B ρ h.length H wy y ∧ OutE B W_ ρ h H σ (augM b wx wy h) fun w ρ' h' H' => ∀ v, Rp B ρ' h'.length H' w v → Q v H'
theorem ip_aug {op : Operator} {b : Bop} (hK : X.K = B.K) (e : augOp op = some b) : PIp X op (tIpM B W_ b) := by
  intro ps s0 σ0 H0 x y v u Q I0 rx ry ⟨ρ, h, wx, wy, σ, S, px, py, o⟩
  have two : (∃ i j, wx = .int i ∧ wy = .int j ∧ (b = .add ∨ b = .sub)) ∨ (∃ n m, wx = .loc n ∧ wy = .loc m ∧ b = .add) ∨ (∃ n ys, wx = .loc n ∧ wy = .tup ys ∧ b = .add) := by
    unfold augM at o
    split at o
    · exact .inl ⟨_, _, rfl, rfl, .inl rfl⟩
    · exact .inl ⟨_, _, rfl, rfl, .inr rfl⟩
    · exact .inr (.inl ⟨_, _, rfl, rfl, rfl⟩)
    · exact .inr (.inr ⟨_, _, rfl, rfl, rfl⟩)
    · exact o.elim
  rcases two with ⟨i, j, rfl, rfl, hb⟩ | ⟨n, m, rfl, rfl, rfl⟩ | ⟨n, ys, rfl, rfl, rfl⟩
  · have ex := px.int_
    have ey := py.int_
    subst ex ey
    rcases hb with rfl | rfl
    · have : op = .Add := by cases op <;> first | rfl | cases e
      subst this
      exact ip_add ps s0 σ0 H0 _ _ v u Q I0 rx ry ⟨i, j, rfl, rfl, (o : OutE B W_ ρ h H0 σ (ret (W.int (i + j)) h) _).pure S _ (by unfold Rp; rfl)⟩
    · have : op = .Sub := by cases op <;> first | rfl | cases e
      subst this
      exact ip_sub ps s0 σ0 H0 _ _ v u Q I0 rx ry ⟨i, j, rfl, rfl, (o : OutE B W_ ρ h H0 σ (ret (W.int (i - j)) h) _).pure S _ (by unfold Rp; rfl)⟩
  · have : op = .Add := by cases op <;> first | rfl | cases e
    subst this
    obtain ⟨hx, ex⟩ := px.loc_
    obtain ⟨_, ey⟩ := py.loc_
    subst ex ey
    unfold augM at o
    dsimp only at o
    cases el : lstM h n with
    | none => rw [el] at o; exact o.elim
    | some xs =>
      cases em : lstM h m with
      | none => rw [el, em] at o; exact o.elim
      | some ys =>
        rw [el, em] at o
        dsimp only at o
        split at o
        · rename_i hz
          obtain ⟨e2, zs, e3, r3⟩ := lstM_ S el
          obtain ⟨_, zs2, e32, r32⟩ := lstM_ S em
          rw [LN_eq] at hz
          refine iop_ext ps s0 σ0 H0 _ _ v u Q I0 rx ry ⟨ρ n, ρ m, zs, zs2, rfl, rfl, e3, e32, by rw [r3.len, r32.len]; exact hz, ?_⟩
          exact outWr (u := .lst (zs ++ zs2)) o S e2 (fun _ z => by cases z) (fun _ z => by cases z) (fun ρ' H' x' z => ⟨_, z, (r3.append r32).ext x' S⟩) (by unfold Rp; exact ⟨hx, rfl⟩)
        · exact o.elim
  · have : op = .Add := by cases op <;> first | rfl | cases e
    subst this
    obtain ⟨hx, ex⟩ := px.loc_
    obtain ⟨a, zs2, ey, t, r2⟩ := py.tup_
    subst ex ey
    unfold augM at o
    dsimp only at o
    cases el : lstM h n with
    | none => rw [el] at o; exact o.elim
    | some xs =>
      rw [el] at o
      dsimp only at o
      split at o
      · rename_i hz
        obtain ⟨e2, zs, e3, r3⟩ := lstM_ S el
        rw [LN_eq] at hz
        refine iop_extT ps s0 σ0 H0 _ _ v u Q I0 rx ry ⟨ρ n, a, zs, zs2, rfl, rfl, e3, by rw [hK]; exact t, by rw [r3.len, r2.len]; exact hz, ?_⟩
        exact outWr (u := .lst (zs ++ zs2)) o S e2 (fun _ z => by cases z) (fun _ z => by cases z) (fun ρ' H' x' z => ⟨_, z, (r3.append r2).ext x' S⟩) (by unfold Rp; exact ⟨hx, rfl⟩)
      · exact o.elim
theorem aug_read {me : Env → Mo W} {i : Nat} {b : Bop} : ∀ D σ H, LS B W_ (fun s => bnd (rdO fun _ => (s[i]?).join) fun x => eb (me s) s fun y => bnd (augM b x y) fun w => ret (.nx (s.set i (some w)))) D σ H → tAug i (LE B W_ me) (tIpM B W_ b) D σ H := by
  rintro D σ H ⟨ρ, h, s, S, E, o⟩
  cases hx : (s[i]?).join with
  | none =>
    have : OutF B W_ ρ h H (R.bad : R Fl) D := by
      have e : (bnd (rdO fun _ => (s[i]?).join) fun x => eb (me s) s fun y => bnd (augM b x y) fun w => ret (.nx (s.set i (some w)))) h = (R.bad : R Fl) := by unfold bnd rdO; rw [hx]
      rw [← e]; exact o
    exact this.elim
  | some x =>
    have e : (bnd (rdO fun _ => (s[i]?).join) fun x => eb (me s) s fun y => bnd (augM b x y) fun w => ret (.nx (s.set i (some w)))) h = (eb (me s) s fun y => bnd (augM b x y) fun w => ret (.nx (s.set i (some w)))) h := by
      unfold bnd rdO; rw [hx]
    have o : OutF B W_ ρ h H ((eb (me s) s fun y => bnd (augM b x y) fun w => ret (.nx (s.set i (some w)))) h) D := by rw [← e]; exact o
    have hx2 : s[i]? = some (some x) := by
      cases z : s[i]? with
      | none => rw [z] at hx; cases hx
      | some y => rw [z] at hx; rw [show y = some x from hx]
    obtain ⟨v, ev, rv⟩ := E.2 i x hx2
    refine ⟨v, ev, ρ, h, s, S, E, (eb_out S E o).mono fun w ρ1 h1 H1 S1 X1 k yv ry => ?_⟩
    have k := k S1 X1
    refine ⟨ρ1, h1, x, w, σ, S1, rv.ext X1 S, ry, ?_⟩
    unfold bnd at k
    dsimp only at k
    cases hm : augM b x w h1 with
    | bad => rw [hm] at k; exact k
    | ex c h2 => rw [hm] at k; exact k.elim
    | ok a h2 =>
      rw [hm] at k
      exact fun ρ2 H2 S2 X2 z rz => k ρ2 H2 (σ.set i (some z)) S2 X2 (((E.ext X1 S).ext X2 S1).set i rz)
theorem asgI_read {me mo mi : Env → Mo W} : ∀ D σ H, LS B W_ (fun s => eb (bnd (me s) fun w => bnd (mo s) fun x => bnd (mi s) fun k => match x with
    | .loc n => setI n k w
    | _ => bad) s fun _ => ret (.nx s)) D σ H → tAsg (LE B W_ me) (gSub (LE B W_ mo) (LE B W_ mi) rSetM) D σ H := by
  rintro D σ H ⟨ρ, h, s, S, E, o⟩
  have o1 := eb_out S E o
  refine ⟨ρ, h, s, S, E, (OutE.bnd o1).mono fun w ρ1 h1 H1 S1 X1 k1 v rv => ?_⟩
  refine ⟨ρ1, h1, s, S1, E.ext X1 S, (OutE.bnd (k1 S1)).mono fun x ρ2 h2 H2 S2 X2 k2 ov ro => ?_⟩
  refine ⟨ρ2, h2, s, S2, (E.ext X1 S).ext X2 S1, (OutE.bnd (k2 S2)).mono fun kk ρ3 h3 H3 S3 X3 k3 iv ri => ?_⟩
  have k3 := k3 S3
  have rv3 := (rv.ext X2 S1).ext X3 S2
  have ro3 := ro.ext X3 S2
  have E3 := ((E.ext X1 S).ext X2 S1).ext X3 S2
  have X13 : Ext ρ h H ρ3 h3 H3 := (X1.trans X2 S2).trans X3 S3
  cases x with
  | loc n =>
    obtain ⟨hl, eo⟩ := ro3.loc_
    have k3 : OutE B W_ ρ3 h3 H3 σ (setI n kk w h3) fun a ρ1 h1 H1 => Sim B ρ1 h1 H1 → Ext ρ h H ρ1 h1 H1 → OutF B W_ ρ1 h1 H1 (ret (.nx s) h1) D := k3
    unfold setI at k3
    cases z : h3[n]? with
    | none => rw [z] at k3; exact k3.elim
    | some ob =>
      rw [z] at k3
      have fin : ∀ {o1 : O} {u : HO}, (OutE B W_ ρ3 h3 H3 σ (.ok W.non (h3.set n o1)) fun a ρ1 h1 H1 => Sim B ρ1 h1 H1 → Ext ρ h H ρ1 h1 H1 → OutF B W_ ρ1 h1 H1 (ret (.nx s) h1) D) → (∀ ws, ob ≠ .frl ws) → (∀ kvs, ob ≠ .frd kvs) → (∀ ws, o1 ≠ .frl ws) →
          (∀ ρ' H', Ext ρ3 h3 H3 ρ' (h3.set n o1) H' → H' (ρ3 n) = some u → RpO B ρ' (h3.set n o1).length H' o1 (ρ3 n)) → D.nx σ (upd H3 (ρ3 n) u) := fun {o1 u} k a a2 b c => by
        obtain ⟨S4, X4⟩ := write_ok S3 z a a2 b c
        exact k ρ3 _ S4 X4 S4 (X13.trans X4 S4) ρ3 _ σ S4 .refl (E3.ext X4 S3)
      cases ob with
      | lst ws =>
        dsimp only at k3
        cases kk with
        | int j =>
          dsimp only at k3
          cases ej : ixN ws.length j with
          | none => rw [ej] at k3; exact k3.elim
          | some m =>
            rw [ej] at k3
            obtain ⟨xs, e1, r1⟩ := S3.obj n _ z
            refine .inl ⟨ρ3 n, xs, j, m, eo, ri.int_, e1, by rw [r1.len]; exact ej, ?_⟩
            exact fin k3 (fun _ q => by cases q) (fun _ q => by cases q) (fun _ q => by cases q) fun ρ' H' x' q => ⟨_, q, (r1.set m rv3).ext x' S3⟩
        | _ => exact k3.elim
      | dct kvs =>
        dsimp only at k3
        split at k3
        · rename_i hk
          obtain ⟨ks, e1, r1, nd⟩ := dct_ S3 z
          obtain ⟨yk, rk, ey⟩ := key_of_ hk.1 ri
          refine .inr ⟨ρ3 n, upd H3 (ρ3 n) (.dK (putK ks yk v)), eo, ?_, ?_⟩
          · rw [ey]
            exact DPut.k e1 (by rw [r1.len, ← LN_eq]; exact hk.2)
          · exact fin (u := .dK (putK ks yk v)) k3 (fun _ q => by cases q) (fun _ q => by cases q) (fun _ q => by cases q) fun ρ' H' x' q => ⟨_, q, RpD.ext x' S3 _ (dput_ rk rv3 r1 nd), putK_nodup nd⟩
        · exact k3.elim
      | _ => exact k3.elim
  | _ => exact k3.elim
theorem try_read {K : PySem.W.Frag} {sub : Sub} {x : Nm} {c : Value} {i : Nat} {mb mh : Env → Mo Fl} {Wout : WX} (hsub : ∀ y b, sub y x = some b → PySem.W.exmOne K (.ref (B.ca y)) c = some b) : ∀ D σ H, LS B Wout (fun s => bnd (mb s) fun o => match o with
    | .xn y s2 => match sub y x with
      | some true => fun h' => bnd (mh (s2.set i (some (.loc h'.length)))) (goneF i) (h' ++ [.exn y])
      | some false => ret (.xn y s2)
      | none => bad
    | o => ret o) D σ H → LS B (wHeld K c i (LS B WN mh) Wout D) mb D σ H := by
  rintro D σ H ⟨ρ, h, s, S, E, o⟩
  refine ⟨ρ, h, s, S, E, ?_⟩
  have o : OutF B Wout ρ h H (bnd (mb s) _ h) D := o
  unfold MI.bnd at o
  cases hm : mb s h with
  | bad => rw [hm] at o; exact o
  | ex c h1 => rw [hm] at o; exact o
  | ok f h1 =>
    rw [hm] at o
    cases f with
    | nx s2 => exact o
    | rt w => exact o
    | bk s2 => exact o
    | ct s2 => exact o
    | xn y s2 =>
      intro ρ1 H1 σ1 S1 X1 E1
      dsimp only at o
      cases hs : sub y x with
      | none => rw [hs] at o; exact o.elim
      | some b =>
        refine ⟨b, hsub y b hs, fun hb a na => ?_, fun hb => ?_⟩
        · subst hb
          rw [hs] at o
          dsimp only at o
          obtain ⟨S2, X2⟩ := alloc_ok (o := .exn y) (u := .ext (held a (.ref (B.ca y)) none)) S1 na (fun _ z => by cases z) fun ρ' H' x' z => ⟨_, z, fun h k => k⟩
          have E2 := (E1.ext X2 S1).set i (w := .loc h1.length) (x := .ref a) (by unfold Rp; exact ⟨by rw [List.length_append, List.length_singleton]; omega, by rw [at_same]⟩)
          refine ⟨_, h1 ++ [.exn y], _, S2, E2, ?_⟩
          have o2 := OutF.from_ o (X1.trans X2 S2)
          unfold MI.bnd at o2
          cases hh : mh (s2.set i (some (.loc h1.length))) (h1 ++ [.exn y]) with
          | bad => rw [hh] at o2; exact o2
          | ex c h3 => rw [hh] at o2; exact o2
          | ok f2 h3 =>
            rw [hh] at o2
            cases f2 with
            | nx s3 => exact fun ρ3 H3 σ3 S3 X3 E3 => o2 ρ3 H3 _ S3 X3 (E3.wipe1 i)
            | rt w => exact o2
            | bk s3 => exact fun ρ3 H3 σ3 S3 X3 E3 => o2 ρ3 H3 _ S3 X3 (E3.wipe1 i)
            | ct s3 => exact fun ρ3 H3 σ3 S3 X3 E3 => o2 ρ3 H3 _ S3 X3 (E3.wipe1 i)
            | xn c s3 => exact o2.elim
        · subst hb
          rw [hs] at o
          exact o ρ1 H1 σ1 S1 X1 E1
theorem try0_read {K : PySem.W.Frag} {sub : Sub} {x : Nm} {c : Value} {mb mh : Env → Mo Fl} {Wout : WX} (hsub : ∀ y b, sub y x = some b → PySem.W.exmOne K (.ref (B.ca y)) c = some b) : ∀ D σ H, LS B Wout (fun s => bnd (mb s) fun o => match o with
    | .xn y s2 => match sub y x with
      | some true => bnd (mh s2) noXn
      | some false => ret (.xn y s2)
      | none => bad
    | o => ret o) D σ H → LS B (wOnly K c (fun _ _ _ => LS B WN mh) Wout D) mb D σ H := by
  rintro D σ H ⟨ρ, h, s, S, E, o⟩
  refine ⟨ρ, h, s, S, E, ?_⟩
  have o : OutF B Wout ρ h H (bnd (mb s) _ h) D := o
  unfold MI.bnd at o
  cases hm : mb s h with
  | bad => rw [hm] at o; exact o
  | ex c h1 => rw [hm] at o; exact o
  | ok f h1 =>
    rw [hm] at o
    cases f with
    | nx s2 => exact o
    | rt w => exact o
    | bk s2 => exact o
    | ct s2 => exact o
    | xn y s2 =>
      intro ρ1 H1 σ1 S1 X1 E1
      dsimp only at o
      cases hs : sub y x with
      | none => rw [hs] at o; exact o.elim
      | some b =>
        refine ⟨b, hsub y b hs, fun hb a na => ?_, fun hb => ?_⟩
        · subst hb
          rw [hs] at o
          dsimp only at o
          refine ⟨ρ1, h1, s2, S1, E1, ?_⟩
          have o2 := OutF.from_ o X1
          unfold MI.bnd at o2
          cases hh : mh s2 h1 with
          | bad => rw [hh] at o2; exact o2
          | ex c h3 => rw [hh] at o2; exact o2
          | ok f2 h3 =>
            rw [hh] at o2
            cases f2 with
            | xn c s3 => exact o2.elim
            | _ => exact o2
        · subst hb
          rw [hs] at o
          exact o ρ1 H1 σ1 S1 X1 E1
end
/-! ### one statement -/
/-- a body's context -/
structure Sd (X : Cx) : Prop where
  po : PassesOwn (model X.prog X.w) X.A X.env X.xe
  stk : X.stack = X.env :: X.outer
  fr : X.env.frame = some X.env.locals
  fn : ∀ x, X.fn x = true
def SndS (Γ : Gam) (B : Bs) (k : Nat) (C : Cc) (fs : Fs) : Prop := ∀ sc l ir, fs sc l = some ir → ∀ X W_, Gd C Γ B k X → Takes X W_ → X.env.scope = sc → Sd X → PSs X l (LS B W_ (evSs (cfg Γ k) ir))
section
variable {C : Cc} {Γ : Gam} {B : Bs} {k : Nat} {X : Cx} {W_ : WX} {sc : Scope} {x : Nm} {i n : Nat} {a b d e : Expr} {es : List Expr} {ir : MI.S} {pos p : Pos}
theorem noswap {tg : Option Expr} {l : Nat} (h : isComp e = false) : swapsWith e tg l X.env = pure false := by
  cases e <;> first | rfl | cases h
theorem noswap1 {tg : Expr} {l : Nat} (h : isComp e = false) : swapsWithSole [tg] e l X.env = pure false := by
  cases e <;> first | rfl | cases h
theorem swap2 {x y : Str} {px py p1 p2 : Pos} {k1 k2 : _} {a b : Expr} {env : PySem.Env} (hb : ([a, b].all (foldedForSure 8) || !([a, b].all (constantsAlone 8))) = true) :
    swappedStores [.Tuple [.Name x px, .Name y py] k1 p1] (.Tuple [a, b] k2 p2) env = pure none ∨ (swappedStores [.Tuple [.Name x px, .Name y py] k1 p1] (.Tuple [a, b] k2 p2) env = pure (some [x, y]) ∧ env.kindOf x = some .local ∧ env.kindOf y = some .local ∧ x ≠ y) := by
  unfold swappedStores
  dsimp only
  split
  · exact .inl rfl
  · split
    · exact .inl rfl
    · split
      · exact .inl rfl
      · split
        · exact .inl rfl
        · split
          · rename_i h1 h2
            rw [Bool.not_eq_true] at h1
            rw [h1, h2] at hb
            cases hb
          · rename_i hn _ _
            have hh : ((([Expr.Name x px, Expr.Name y py] : List Expr).head?.map (·.pos.line)).getD 0) = px.line := rfl
            generalize hN : List.filterMap _ _ = names at hn ⊢
            have key : names = [x, y] ∧ env.kindOf x = some .local ∧ env.kindOf y = some .local ∧ x ≠ y := by
              rw [List.filterMap_cons, List.filterMap_cons, List.filterMap_nil] at hN
              dsimp only at hN
              rw [hh] at hN
              by_cases cx : (env.kindOf x == some .local && px.line == px.line) = true
              · rw [if_pos cx] at hN
                by_cases cy : (env.kindOf y == some .local && py.line == px.line) = true
                · rw [if_pos cy] at hN
                  dsimp only at hN
                  subst hN
                  rw [Bool.and_eq_true] at cx cy
                  refine ⟨rfl, beq_iff_eq.mp cx.1, beq_iff_eq.mp cy.1, fun z => hn ?_⟩
                  subst z
                  have : [x, x].eraseDups = [x] := by simp [List.eraseDups_cons]
                  rw [this]
                  rfl
                · rw [if_neg cy] at hN
                  dsimp only at hN
                  subst hN
                  exact absurd rfl hn
              · rw [if_neg cx] at hN
                by_cases cy : (env.kindOf y == some .local && py.line == px.line) = true
                · rw [if_pos cy] at hN
                  dsimp only at hN
                  subst hN
                  exact absurd rfl hn
                · rw [if_neg cy] at hN
                  dsimp only at hN
                  subst hN
                  exact absurd rfl hn
            obtain ⟨k1, k2, k3, k4⟩ := key
            subst k1
            exact .inr ⟨rfl, k2, k3, k4⟩
section
variable {B : Bs} {W_ : WX} {ma : Env → Mo (List W)} {i j : Nat}
theorem par_read : ∀ D σ H, LS B W_ (fun s => eb (bnd (ma s) fun ws => if ws.length ≤ LN then ret (.tup ws) else bad) s fun w => bnd (rdO (bindT · (.many [i, j]) w s)) fun s' => ret (.nx s')) D σ H → tPar i j (LA B W_ ma) D σ H := by
  rintro D σ H ⟨ρ, h, s, S, E, o⟩
  refine ⟨ρ, h, s, S, E, (eb_out S E o).bnd.mono fun ws ρ1 h1 H1 S1 X1 k xs rxs => ?_⟩
  have q := k S1
  split at q
  · have q1 := q ρ1 H1 S1 .refl S1 X1
    have go : ∀ s', setAll s [i, j] ws = some s' → ∃ v w, xs = [v, w] ∧ D.nx ((σ.set i (some v)).set j (some w)) H1 := by
      intro s' e
      match ws, e with
      | [w1, w2], e =>
        cases e
        match xs, rxs with
        | [x1, x2], rxs =>
          unfold Rps at rxs
          obtain ⟨r1, rxs⟩ := rxs
          unfold Rps at rxs
          refine ⟨x1, x2, rfl, ?_⟩
          have q2 : OutF B W_ ρ1 h1 H1 (ret (.nx ((s.set i (some w1)).set j (some w2))) h1) D := q1
          exact q2 ρ1 H1 _ S1 .refl (((E.ext X1 S).set i r1).set j rxs.1)
        | [], rxs => unfold Rps at rxs; exact rxs.elim
        | [_], rxs => unfold Rps at rxs; obtain ⟨_, rxs⟩ := rxs; unfold Rps at rxs; exact rxs.elim
        | _ :: _ :: _ :: _, rxs => unfold Rps at rxs; obtain ⟨_, rxs⟩ := rxs; unfold Rps at rxs; obtain ⟨_, rxs⟩ := rxs; unfold Rps at rxs; exact rxs.elim
    cases eb : setAll s [i, j] ws with
    | none =>
      unfold MI.bnd MI.rdO bindT at q1
      dsimp only [bindT.seqT] at q1
      rw [eb] at q1
      exact q1.elim
    | some s' => exact go s' eb
  · exact q.elim
end
theorem swap4 {ts vs : List Expr} {k1 k2 : _} {p1 p2 : Pos} {env : PySem.Env} (h : 4 ≤ vs.length) : swappedStores [.Tuple ts k1 p1] (.Tuple vs k2 p2) env = pure none := by
  have hc : (!(ts.length == 2 || ts.length == 3) || vs.length != ts.length || env.blockKind != .function) = true := by
    by_cases h2 : vs.length = ts.length
    · have h3 : (ts.length == 2) = false := by rw [beq_eq_false_iff_ne]; omega
      have h4 : (ts.length == 3) = false := by rw [beq_eq_false_iff_ne]; omega
      rw [h3, h4]; rfl
    · have h3 : (vs.length != ts.length) = true := by rw [bne_iff_ne]; exact h2
      rw [h3, Bool.or_true, Bool.true_or]
  unfold swappedStores
  simp only [hc, if_true]
theorem slots2 {fn : Nm → Bool} {x y : Nm} {px py : Pos} {is : List Nat} (e : slots C sc fn [.Name x px, .Name y py] = some is) : ∃ i j, slot C sc x = some i ∧ slot C sc y = some j ∧ is = [i, j] := by
  unfold slots at e
  split at e
  · split at e
    · rename_i i js e1 e2
      cases e
      unfold slots at e2
      split at e2
      · split at e2
        · rename_i j ks e3 e4
          cases e2
          unfold slots at e4
          cases e4
          exact ⟨i, j, e1, e3, rfl⟩
        · cases e2
      · cases e2
    · cases e
  · cases e
theorem slotsT2 {fn : Nm → Bool} {x y : Nm} {px py : Pos} {ts : List Tt} (n : slots C sc fn [.Name x px, .Name y py] = none) (e : slotsT C sc fn [.Name x px, .Name y py] = some ts) : False := by
  unfold slotsT at e
  split at e
  · rename_i g1
    split at e
    · rename_i i js e1 e2
      unfold slotsT at e2
      split at e2
      · rename_i g2
        split at e2
        · rename_i j ks e3 e4
          unfold slots slots slots at n
          rw [if_pos g1, if_pos g2, e1, e3] at n
          cases n
        · cases e2
      · cases e2
    · cases e
  · cases e
theorem asg_snd {ts : List Expr} (G : Gd C Γ B k X) (tk : Takes X W_) (hs : X.env.scope = sc) (sd : Sd X) (h : cAsg C (cE C n) sc ts e = some ir) : PS X (.Assign ts e pos) (LS B W_ (evS (cfg Γ k) ir)) := by
  unfold cAsg at h
  split at h
  · -- a name
    rename_i y q
    split at h
    · rename_i t z h1 h2
      cases h
      rw [evs_asg]
      dsimp only [cTN] at h1
      split at h1
      · rename_i hst
        obtain ⟨j, h3, h4⟩ := Option.map_eq_some_iff.mp h1
        subst h4
        obtain ⟨l1, l2⟩ := stOk_ (X := X) hs (fun x _ => sd.fn x) hst
        have hi : X.N[j]? = some y := by rw [G.N]; exact (slot_ h3).1
        have pe := (one_ (cE_snd n) G tk hs h2).2.1
        by_cases hc : isComp e = false
        · exact PS.weak (ps_set G.nd hi l1 pe (noswap hc) l2) (asg_read tg_one)
        · cases n with
          | zero => cases h2
          | succ n =>
            cases e with
            | ListComp elt gs s2 q2 =>
              obtain ⟨tg, it, ifs, eg, h5⟩ := gens_snd h2
              subst eg
              have sw : ∃ b : Bool, swapsWith (.ListComp elt [⟨tg, it, ifs, 0⟩] s2 q2) (some (.Name y q)) pos.line X.env = pure b ∧ (b = true → X.env.scope.names.lookup y = some .local) := by
                refine ⟨X.env.blockKind == .function && X.env.kindOf y == some .local && q.line == q2.line && !(s2.names.any fun (n, k) => n == y && (k == .local || k == .cell)), rfl, fun hb => ?_⟩
                simp only [Bool.and_eq_true] at hb
                exact beq_iff_eq.mp hb.1.1.2
              obtain ⟨sb, sw1, sw2⟩ := sw
              cases sb with
              | false => exact PS.weak (ps_set G.nd hi l1 pe sw1 l2) (asg_read tg_one)
              | true =>
                obtain ⟨t, own, mi, mt, me, ev, c1, p1, p2, p3, p4, p5, p6, p7⟩ := comp_snd (cE_snd n) (cI1_snd (cE_snd n)) G tk hs h5
                refine PS.weak (ps_setLc c1 G.nd hi (sw2 rfl) sw1 p1 p2 p4 p5 p6 (fold_of p7)) fun D σ H q => ?_
                have q2 := asg_read tg_one D σ H q
                obtain ⟨ρ, h, s, S, E, o⟩ := q2
                rw [ev] at o
                exact comp_read (gOf_tg t) p3 σ H _ ⟨ρ, h, s, S, E, o⟩
            | SetComp => cases h2
            | DictComp => cases h2
            | _ => exact absurd rfl hc
      · cases h1
    · cases h
  · -- several names
    rename_i ts2 k2 q
    split at h
    · cases h
    · rename_i hn
      rw [Bool.not_eq_true, Bool.or_eq_false_iff] at hn
      split at h
      · rename_i t z h1 h2
        cases h
        rw [evs_asg]
        have pg := tn_tg G hs (fun x _ => sd.fn x) h1
        have pe := (one_ (cE_snd n) G tk hs h2).2.1
        have plain : swappedStores [.Tuple ts2 k2 q] e X.env = pure none → PS X (.Assign [.Tuple ts2 k2 q] e pos) (LS B W_ fun s => eb (evE (cfg Γ k) z s) s fun w => bnd (rdO (bindT · t w s)) fun s' => ret (.nx s')) := fun hw =>
          PS.weak (ps_asg pe pg (noswap1 hn.2) hw rfl) (asg_read (gOf_tg t))
        have hx := hn.1
        cases e with
        | Tuple vs k3 p3 =>
          by_cases hf : vs.length ≤ 3
          · have hf2 : fewTup (.Tuple vs k3 p3) = true := decide_eq_true hf
            rw [hf2, Bool.true_and, Bool.not_eq_false'] at hx
            match ts2, vs, hx with
            | [.Name x px, .Name y py], [a, b], hx =>
              rcases swap2 (x := x) (y := y) (px := px) (py := py) (p1 := q) (p2 := p3) (k1 := k2) (k2 := k3) (env := X.env) hx with hw | ⟨hw, kx, ky, hne⟩
              · exact plain hw
              · dsimp only [cTN] at h1
                split at h1
                · rename_i hca
                  split at h1
                  · rename_i js e5
                    cases h1
                    obtain ⟨i, j, ei, ej, rfl⟩ := slots2 e5
                    obtain ⟨m, rfl⟩ : ∃ m, n = m + 1 := by
                      cases n with
                      | zero => cases h2
                      | succ m => exact ⟨m, rfl⟩
                    obtain ⟨irs, e6, e7⟩ := Option.map_eq_some_iff.mp (show (mapEs (cE C m sc) [a, b]).map MI.E.tup = some z from h2)
                    subst e7
                    have ha := (args_snd (cE_snd m) G tk hs e6).2
                    have hi : X.N[i]? = some x := by rw [G.N]; exact (slot_ ei).1
                    have hj : X.N[j]? = some y := by rw [G.N]; exact (slot_ ej).1
                    have hij : i ≠ j := fun z => hne (by rw [z, hj] at hi; exact (Option.some.inj hi).symm)
                    refine PS.weak (ps_par (G.cal hca).1 G.nd hi hj hij kx ky ha hw (noswap1 hn.2)) ?_
                    have ee : evE (cfg Γ k) (MI.E.tup irs) = fun s => bnd (evEs (cfg Γ k) irs s) fun ws => if ws.length ≤ LN then ret (.tup ws) else bad := by rw [ev_tup]
                    rw [ee]
                    exact par_read
                  · obtain ⟨ts3, e5, e6⟩ := Option.map_eq_some_iff.mp h1
                    rename_i hnone
                    exact (slotsT2 hnone e5).elim
                · cases h1
          · exact plain (swap4 (by omega))
        | _ => exact plain rfl
      · cases h
  · -- a slice
    rename_i o0 lo0 hi0 p0 q
    split at h
    · cases h
    · rename_i hn
      rw [Bool.not_eq_true] at hn
      split at h
      · rename_i x1 l1 u1 y1 h1 h2 h3 h4
        cases h
        rw [evs_asgL]
        have pe := (one_ (cE_snd n) G tk hs h4).2.1
        have po := (one_ (cE_snd n) G tk hs h1).2.1
        refine PS.weak (ps_asg pe (pg_subL po (po_snd (cE_snd n) G tk hs h2) (po_snd (cE_snd n) G tk hs h3)) (noswap1 hn) ?_ rfl) asgL_read
        cases e <;> rfl
      · cases h
  · -- a cell
    rename_i o0 i0 q hx0
    split at h
    · cases h
    · rename_i hn
      rw [Bool.not_eq_true, Bool.or_eq_false_iff] at hn
      split at h
      · rename_i x1 k1 y1 h1 h2 h3
        cases h
        rw [evs_asgI]
        have pe := (one_ (cE_snd n) G tk hs h3).2.1
        have po := (one_ (cE_snd n) G tk hs h1).2.1
        have pi := (one_ (cE_snd n) G tk hs h2).2.1
        refine PS.weak (ps_asg pe (pg_sub po pi (set_M G.hu) fun v => ?_) (noswap1 hn.1) ?_ rfl) asgI_read
        · have := hn.2
          cases i0 <;> first | rfl | cases this
        · cases e <;> rfl
      · cases h
  · cases h
theorem aug_snd {op : Operator} {tg : Expr} (G : Gd C Γ B k X) (tk : Takes X W_) (hs : X.env.scope = sc) (sd : Sd X) (h : cAug C (cE C n) sc op e tg = some ir) : PS X (.AugAssign tg op e pos) (LS B W_ (evS (cfg Γ k) ir)) := by
  unfold cAug at h
  split at h
  · rename_i y q
    split at h
    · rename_i o j z h0 h1 h2
      cases h
      rw [evs_aug]
      dsimp only [cTN] at h1
      split at h1
      · rename_i hst
        obtain ⟨j2, h3, h4⟩ := Option.map_eq_some_iff.mp h1
        cases h4
        obtain ⟨l1, l2⟩ := stOk_ (X := X) hs (fun x _ => sd.fn x) hst
        have hi : X.N[j]? = some y := by rw [G.N]; exact (slot_ h3).1
        have pe := (one_ (cE_snd n) G tk hs h2).2.1
        exact PS.weak (ps_aug G.nd hi l1 pe (ip_aug G.K h0) l2) aug_read
      · cases h1
    · cases h
  · cases h
theorem raise_snd {e0 : Option Expr} (G : Gd C Γ B k X) (tk : Takes X W_) (hs : X.env.scope = sc) (h : cRaise C sc e0 = some ir) : PS X (.Raise e0 none pos) (LS B W_ (evS (cfg Γ k) ir)) := by
  unfold cRaise at h
  split at h
  · rename_i y q z j q2 q3
    split at h
    · rename_i g
      cases h
      rw [Bool.and_eq_true, Bool.and_eq_true] at g
      obtain ⟨⟨g1, g2⟩, g3⟩ := g
      obtain ⟨a1, a2⟩ := isG_ hs g1
      obtain ⟨m1, r1, x1, x2, x3, x4⟩ := G.st.ec y g2
      rw [← G.K] at x1 x2 x3 x4
      rw [evs_raise]
      refine PS.weak (ps_raise (G.cal g3).1 tk (pmk_own PySem.F.excBase_ValueError x1 m1 x2 (raises_own x3 x4) a1 (okNm_ a2).1)) ?_
      rintro D σ H ⟨ρ, h, s, S, E, o⟩
      exact o ρ H σ S .refl E
    · cases h
  · cases h
theorem cls_exm (G : Gd C Γ B k X) (hs : X.env.scope = sc) (h : (isC C sc x && !(six.contains x)) = true) : ∃ c, Names X x c ∧ ∀ y b, Γ.sub y x = some b → PySem.W.exmOne X.K (.ref (B.ca y)) c = some b := by
  rw [Bool.and_eq_true] at h
  obtain ⟨h1, h2⟩ := h
  unfold isC at h1
  rw [Bool.or_eq_true, Bool.and_eq_true, Bool.and_eq_true] at h1
  rcases h1 with ⟨g1, g2⟩ | ⟨g1, g2⟩
  · obtain ⟨a, b, c⟩ := isB_ G hs g1
    rw [Bool.or_eq_true] at g2
    rcases g2 with g2 | g2
    · rw [g2] at h2; cases h2
    · have g2 := beq_iff_eq.mp g2
      subst g2
      refine ⟨.type "ValueError", ⟨a, (okNm_ b).1, .inr ⟨c, by decide +kernel, (okNm_ b).2.2⟩⟩, fun y b hb => ?_⟩
      rw [G.K]
      exact (G.st.exm _ y b hb).2 rfl
  · obtain ⟨a, b⟩ := isG_ hs g1
    obtain ⟨m, _⟩ := G.st.ec x g2
    refine ⟨_, ⟨a, (okNm_ b).1, .inl m⟩, fun y b hb => ?_⟩
    rw [G.K]
    exact (G.st.exm _ y b hb).1 g2
theorem try_snd {fs fh : Fs} {bd : List Stmt} {hds : List ExceptHandler} (hfs : SndS Γ B k C fs) (hfh : SndS Γ B k { C with ca := false } fh) (G : Gd C Γ B k X) (tk : Takes X W_) (hs : X.env.scope = sc) (sd : Sd X) (h : cTry C fs fh sc bd hds = some ir) :
    PS X (.Try bd hds [] [] pos) (LS B W_ (evS (cfg Γ k) ir)) := by
  unfold cTry at h
  split at h
  · rename_i y q nm st rest q2
    split at h
    · rename_i g
      obtain ⟨c, nmc, hx⟩ := cls_exm G hs g
      have Gs : ∀ (a : Addr) (pn : List (Addr × Obj)), Gd { C with ca := false } Γ B k (X.suite a pn) := fun a pn => ⟨G.K, G.N, G.nd, G.hu, fun z => (Bool.false_ne_true z).elim, G.st⟩
      have Ts : ∀ (a : Addr) (pn : List (Addr × Obj)), Takes (X.suite a pn) WN := fun a pn u s' ⟨_, _, _, _, _, _, _, _, _, _, _, _, _, _, _, _, w⟩ => w.elim
      have Ss : ∀ (a : Addr) (pn : List (Addr × Obj)), Sd (X.suite a pn) := fun a pn => ⟨PassesOwn.never, sd.stk, sd.fr, sd.fn⟩
      split at h
      · rename_i yb zb h1 h2
        have hb : ∀ (W : WX) (pn : List (Addr × Obj)) (xe : Value → Shared → Prop), Takes (X.tr pn xe) W → PassesOwn (model X.prog X.w) X.A X.env xe → PSs (X.tr pn xe) bd (LS B W (evSs (cfg Γ k) yb)) := fun W pn xe t2 po =>
          hfs sc bd yb h1 (X.tr pn xe) W ⟨G.K, G.N, G.nd, G.hu, G.cal, G.st⟩ t2 hs ⟨po, sd.stk, sd.fr, sd.fn⟩
        have hh : ∀ (a : Addr) (pn : List (Addr × Obj)), PSs (X.suite a pn) (st :: rest) (LS B WN (evSs (cfg Γ k) zb)) := fun a pn => hfh sc _ zb h2 (X.suite a pn) WN (Gs a pn) (Ts a pn) hs (Ss a pn)
        cases nm with
        | none =>
          cases h
          rw [evs_try]
          exact PS.weak (ps_try_only sd.stk sd.fr nmc tk hb fun a oe cls d pn _ _ => hh a _) (try0_read hx)
        | some n =>
          dsimp only at h
          split at h
          · rename_i hl
            obtain ⟨j, h3, h4⟩ := Option.map_eq_some_iff.mp h
            subst h4
            rw [evs_try]
            refine PS.weak (ps_tryH sd.stk sd.fr G.nd (by rw [G.N]; exact (slot_ h3).1) ?_ nmc tk hb hh) (try_read hx)
            show X.env.scope.names.lookup n = some .local
            rw [hs]
            exact of_decide_eq_true hl
          · cases h
      · cases h
    · cases h
  · cases h
theorem cS1_snd {st : Stmt} {fs fh : Fs} (hfs : SndS Γ B k C fs) (hfh : SndS Γ B k { C with ca := false } fh) (G : Gd C Γ B k X) (tk : Takes X W_) (hs : X.env.scope = sc) (sd : Sd X) (h : cS1 C (cE C n) fs fh sc st = some ir) : PS X st (LS B W_ (evS (cfg Γ k) ir)) := by
  cases st with
  | Expr e q =>
    dsimp only [cS1] at h
    split at h
    · cases h
    · rename_i hc
      obtain ⟨y, h1, h2⟩ := Option.map_eq_some_iff.mp h
      subst h2
      rw [evs_expr]
      exact PS.weak (ps_expr (one_ (cE_snd n) G tk hs h1).2.1 (noswap (Bool.not_eq_true _ ▸ hc))) expr_read
  | Assign ts e q => exact asg_snd G tk hs sd h
  | AugAssign t op e q => exact aug_snd G tk hs sd h
  | If d a b q =>
    dsimp only [cS1] at h
    split at h
    · rename_i x y z h1 h2 h3
      cases h
      rw [evs_if]
      exact PS.weak (ps_if (one_ (cE_snd n) G tk hs h1).2.2 (hfs sc a y h2 X W_ G tk hs sd) (hfs sc b z h3 X W_ G tk hs sd)) if_read
    · cases h
  | For tg it bd oe q =>
    dsimp only [cS1] at h
    split at h
    · split at h
      · rename_i hc
        split at h
        · rename_i t j y h1 h2 h3
          cases h
          rw [evs_for]
          have pi := cI1_snd (Γ := Γ) (B := B) (k := k) (cE_snd n) sc tg it j h2
          exact PS.weak (ps_for sd.po (G.cal hc).1 (pi.2 X W_ G tk hs) (tn_tg G hs (fun x _ => sd.fn x) h1) (hfs sc bd y h3 X W_ G tk hs sd) (fold_of (okE_set pi.1))) (for_read (gOf_tg t))
        · cases h
      · cases h
    · cases h
  | While d bd oe q =>
    dsimp only [cS1] at h
    split at h
    · split at h
      · rename_i x y h1 h2
        cases h
        rw [evs_while]
        exact PS.weak (ps_while sd.po (one_ (cE_snd n) G tk hs h1).2.2 (hfs sc bd y h2 X W_ G tk hs sd)) while_read
      · cases h
    · cases h
  | Return e q =>
    cases e with
    | none => cases h; rw [evs_retN]; exact PS.weak ps_retN retN_read
    | some e =>
      obtain ⟨y, h1, h2⟩ := Option.map_eq_some_iff.mp (show (cE C n sc e).map MI.S.ret = some ir from h)
      subst h2
      rw [evs_ret]
      exact PS.weak (ps_ret (one_ (cE_snd n) G tk hs h1).2.1) ret_read
  | Raise e c q =>
    cases c with
    | none => exact raise_snd G tk hs h
    | some _ => cases h
  | Try bd hds oe fb q =>
    dsimp only [cS1] at h
    split at h
    · exact try_snd hfs hfh G tk hs sd h
    · cases h
  | Pass q => cases h; rw [evs_pass]; exact PS.weak ps_pass nx_read
  | Break q => cases h; rw [evs_brk]; exact PS.weak ps_break bk_read
  | Continue q => cases h; rw [evs_cont]; exact PS.weak ps_continue ct_read
  | _ => cases h
end
theorem cSs_snd {Γ : Gam} {B : Bs} {k : Nat} : ∀ (n : Nat) (C : Cc), SndS Γ B k C (cSs n C)
  | 0, C => fun sc l ir h => by cases h
  | n + 1, C => by
    intro sc l ir h X W_ G tk hs sd
    cases l with
    | nil => cases h; rw [evss_nil]; exact PSs.weak pss_nil nx_read
    | cons st r =>
      dsimp only [cSs] at h
      split at h
      · rename_i x y h1 h2
        cases h
        rw [evss_cons]
        exact PSs.weak (pss_cons (cS1_snd (cSs_snd n C) (cSs_snd n { C with ca := false }) G tk hs sd h1) (cSs_snd n C sc r y h2 X W_ G tk hs sd)) seq_read
      · cases h
end MI
/-! MI18: a law's defs by what they compute, level by level; the law's end. -/
namespace MI
open PySem PySem.Spec PyProof.Rows L2
/-- a def of the text: its global name, its own name, its parts, its slots, what the compiler gives -/
structure Dd where
  nm : Nm
  fname : Nm
  args : Arguments
  body : List Stmt
  scope : Scope
  N : List Nm
  ps : List Nm
  ir : Ss
structure Law where
  ds : List Dd
  ecs : List Nm
  sups : List (Nm × Nm × Bool)
  cons : List (Nm × W)
  frees : List Nm
def Law.dfn (L : Law) (x : Nm) : Option Dd := L.ds.find? fun d => decide (d.nm = x)
def Law.sub (L : Law) : Sub := fun y x => (L.sups.find? fun p => decide (p.1 = y) && decide (p.2.1 = x)).map fun p => p.2.2
def Law.cc (L : Law) (N : List Nm) : Cc := ⟨N, fun x => (L.dfn x).map fun d => d.ps.length, fun x => L.frees.contains x, fun x => L.ecs.contains x, fun x => (L.cons.lookup x).isSome, true⟩
def Law.gam (L : Law) : Gam := ⟨fun x => (L.dfn x).map fun d => ⟨d.ps.length, d.N.length, d.ir⟩, L.sub, fun x => L.cons.lookup x⟩
structure DdOk (L : Law) (d : Dd) : Prop where
  sc : FnScope d.N d.ps d.scope
  co : cSs 400 (L.cc d.N) d.scope d.body = some d.ir
  bd : ∀ (kV doc pm : Value) (an : Option Addr) (cdv ct : Value) (us : List Value), us.length = d.ps.length → bindArgs (PySem.W.fnOf d.fname d.fname d.args d.body d.scope .none kV doc pm an cdv ct) ⟨us, []⟩ = pure (d.ps.zip us)
/-! ### what the head is asked -/
def excCB (K : PySem.W.Frag) (D : Addr) : Bool :=
  decide (PySem.W.findIn K (.ref D) "__getattribute__" = some (some (.builtin "BaseException.__getattribute__"))) && (decide (PySem.W.findIn K (.ref D) "__getattr__" = some none) && (decide (PySem.W.subIn K (.ref D) (.type "BaseException") = some true) && (PySem.W.hasDictIn K D &&
    (decide (PySem.W.findIn K (.ref D) "__class__" = some (some (.builtin "object.__class__"))) && (decide (PySem.W.specialIn K (.builtin "object.__class__") "__get__" = some (some (.builtin "getset_descriptor.__get__"))) && (decide (PySem.W.takesIn K (.builtin "object.__class__") = some true) && decide (PySem.W.mroIn K D (.type "object") = some true)))))))
theorem excCB_ok {K : PySem.W.Frag} {D : Addr} (h : excCB K D = true) : ExcC K D := by
  unfold excCB at h
  simp only [Bool.and_eq_true, decide_eq_true_eq] at h
  obtain ⟨h1, h2, h3, h4, h5, h6, h7, h8⟩ := h
  exact ⟨h1, h2, h3, h4, h5, h6, h7, h8⟩
def supB (L : Law) (K : PySem.W.Frag) (p : Nm × Nm × Bool) : Bool := excCB K (He.ga K p.1) && (if L.ecs.contains p.2.1 then
    decide (PySem.W.kitOne K (.ref (He.ga K p.1)) (.ref (He.ga K p.2.1)) = some p.2.2) && decide (PySem.W.exmOne K (.ref (He.ga K p.1)) (.ref (He.ga K p.2.1)) = some p.2.2)
  else decide (p.2.1 = "ValueError") && (decide (PySem.W.kitOne K (.ref (He.ga K p.1)) (.type "ValueError") = some p.2.2) && decide (PySem.W.exmOne K (.ref (He.ga K p.1)) (.type "ValueError") = some p.2.2)))
mutual
/-- a constant's value -/
def cvOk (K : PySem.W.Frag) : W → Value → Bool
  | .int i, .int j _ => decide (i = j)
  | .str s, .str z _ => decide (z = st_ s) && okS s
  | .bl b, .bool c => b == c
  | .tup ws, .ref a => match K.lookup a with
    | some ⟨.type "tuple", none, .seq its _, _⟩ => decide (its.size ≤ 16777216) && cvsOk K ws its.toList
    | _ => false
  | _, _ => false
def cvsOk (K : PySem.W.Frag) : List W → List Value → Bool
  | [], [] => true
  | w :: r, v :: q => cvOk K w v && cvsOk K r q
  | _, _ => false
end
mutual
theorem cvOk_ok {B : Bs} : ∀ (w : W) {v : Value}, cvOk B.K w v = true → ∃ x, RelV x v ∧ ∀ ρ L H, Rp B ρ L H w x
  | .int i, v, h => by
    cases v <;> first | (unfold cvOk at h; cases h; done) | skip
    unfold cvOk at h
    have h := of_decide_eq_true h
    subst h
    exact ⟨.int i, ⟨_, rfl⟩, fun _ _ _ => by unfold Rp; rfl⟩
  | .str s, v, h => by
    cases v <;> first | (unfold cvOk at h; cases h; done) | skip
    unfold cvOk at h
    rw [Bool.and_eq_true, decide_eq_true_eq] at h
    obtain ⟨h1, h2⟩ := h
    subst h1
    exact ⟨.str (st_ s), ⟨_, rfl⟩, fun _ _ _ => by unfold Rp; exact ⟨rfl, h2⟩⟩
  | .bl b, v, h => by
    cases v <;> first | (unfold cvOk at h; cases h; done) | skip
    unfold cvOk at h
    have h := beq_iff_eq.mp h
    subst h
    exact ⟨.bl b, rfl, fun _ _ _ => by unfold Rp; rfl⟩
  | .tup ws, v, h => by
    cases v with
    | ref a =>
      unfold cvOk at h
      split at h
      · rename_i od its n sl hk
        rw [Bool.and_eq_true, decide_eq_true_eq] at h
        obtain ⟨xs, h1, h2⟩ := cvsOk_ok ws h.2
        refine ⟨.ref a, rfl, fun ρ L H => ?_⟩
        unfold Rp
        exact ⟨a, xs, rfl, ⟨.inr ⟨_, its, n, hk, rfl, rfl, by rw [sizeLine_eq]; exact h.1, h1⟩, .inr ⟨_, hk, rfl, rfl⟩⟩, h2 ρ L H⟩
      · cases h
    | _ => unfold cvOk at h; cases h
  | .non, v, h => by cases v <;> (unfold cvOk at h; cases h)
  | .loc n, v, h => by cases v <;> (unfold cvOk at h; cases h)
  | .gl n, v, h => by cases v <;> (unfold cvOk at h; cases h)
theorem cvsOk_ok {B : Bs} : ∀ (ws : List W) {vs : List Value}, cvsOk B.K ws vs = true → ∃ xs, Vals xs vs ∧ ∀ ρ L H, Rps B ρ L H ws xs
  | [], vs, h => by
    cases vs with
    | nil => exact ⟨[], .nil, fun _ _ _ => by unfold Rps; trivial⟩
    | cons _ _ => unfold cvsOk at h; cases h
  | w :: r, vs, h => by
    cases vs with
    | nil => unfold cvsOk at h; cases h
    | cons v q =>
      unfold cvsOk at h
      rw [Bool.and_eq_true] at h
      obtain ⟨x, h1, h2⟩ := cvOk_ok w h.1
      obtain ⟨xs, h3, h4⟩ := cvsOk_ok r h.2
      exact ⟨x :: xs, .cons h1 h3, fun ρ L H => by unfold Rps; exact ⟨h2 ρ L H, h4 ρ L H⟩⟩
end
def conB (K : PySem.W.Frag) (p : Nm × W) : Bool := match PySem.W.nsIn K mainGlobals p.1 with
  | some (some v) => cvOk K p.2 v
  | _ => false
def Law.ex (L : Law) (K : PySem.W.Frag) : Bool := L.sups.all (supB L K) && L.cons.all (conB K)
def Dd.df (d : Dd) : He.DefD := ⟨(d.nm, none), d.fname, d.fname, d.args, d.body, d.scope, [], []⟩
def Law.fn (L : Law) : List He.DefD := L.ds.map Dd.df
def Law.fa (L : Law) : List He.Fa := L.ds.map (fun d => .glo d.nm) ++ (L.ecs.map (fun x => .glo x) ++ (L.ecs.map (fun x => .exc x) ++ L.frees.map fun x => .free x))
def Law.ok (L : Law) : Bool := L.ecs.all fun x => !(six.contains x) && !(x == "ValueError")
def bsOf (K : PySem.W.Frag) : Bs := ⟨K, fun _ => none, fun x => He.ga K x⟩
section
variable {L : Law} {P : Program} {w : World} {K : PySem.W.Frag} {mg : Str → Option Value} {base h : Heap}
theorem find_of {α : Type} {l : List α} {p : α → Bool} {a : α} (e : l.find? p = some a) : a ∈ l ∧ p a = true := ⟨List.mem_of_find?_eq_some e, List.find?_some e⟩
theorem lookup_in {l : List (Nm × W)} {x : Nm} {v : W} (e : l.lookup x = some v) : (x, v) ∈ l := PySem.mem_of_lookup e
theorem law_stat (hL : L.ok = true) (X : K.In h) (G : h.Ns mainGlobals mg) (c : He.SaysX L.fa L.fn [] [] L.ex w h K) {k : Nat}
    (hb : ∀ d ∈ L.ds, DdOk L d) (F : ∀ d ∈ L.ds, ∀ fd, FunD K d.fname d.fname d.args d.body d.scope [] [] (He.ga K d.nm) fd → FnG P w K mg base (L2.CX P w) k (He.ga K d.nm) fd d.ps (spF (bsOf K) d.ps.length (callF L.gam k d.nm))) (N : List Nm) :
    Stat (L.cc N).df (L.cc N).fb (L.cc N).ec (L.cc N).gl L.gam (bsOf K) k P w mg base := by
  have cd := c.t.d
  have cx := c.more
  unfold Law.ex at cx
  rw [Bool.and_eq_true, List.all_eq_true, List.all_eq_true] at cx
  obtain ⟨cx1, cx2⟩ := cx
  have sups : ∀ y x b, L.sub y x = some b → supB L K (y, x, b) = true := fun y x b e => by
    obtain ⟨p, e1, e2⟩ := Option.map_eq_some_iff.mp e
    obtain ⟨h1, h2⟩ := find_of e1
    rw [Bool.and_eq_true, decide_eq_true_eq, decide_eq_true_eq] at h2
    have := cx1 p h1
    obtain ⟨p1, p2, p3⟩ := p
    obtain ⟨q1, q2⟩ := h2
    dsimp only at q1 q2 e2
    subst q1 q2 e2
    exact this
  have exC : ∀ y x b, L.sub y x = some b → ExcC K (He.ga K y) := fun y x b e => by
    have := sups y x b e
    unfold supB at this
    rw [Bool.and_eq_true] at this
    exact excCB_ok this.1
  have mem_ec : ∀ x, L.ecs.contains x = true → x ∈ L.ecs := fun x hx => List.contains_iff_mem.mp hx
  have glos : ∀ x, x ∈ L.ecs → mg x = some (.ref (He.ga K x)) := fun x hx => He.glo_ok X G (cd.facts (f := .glo x) (List.mem_append_right _ (List.mem_append_left _ (List.mem_map.mpr ⟨x, hx, rfl⟩))))
  have n6 : ∀ x, x ∈ L.ecs → six.contains x = false := fun x hx => by
    unfold Law.ok at hL
    rw [List.all_eq_true] at hL
    have := hL x hx
    rw [Bool.and_eq_true] at this
    simpa using this.1
  have nV : ∀ x, x ∈ L.ecs → (x == "ValueError") = false := fun x hx => by
    unfold Law.ok at hL
    rw [List.all_eq_true] at hL
    have := hL x hx
    rw [Bool.and_eq_true] at this
    simpa using this.2
  refine ⟨fun x hx => ?_, fun x hx => ?_, fun x hx => ?_, fun x y b hs => ?_, fun x hx => ?_, fun x n hx => ?_⟩
  · exact He.free_ok X G (cd.facts (f := .free x) (List.mem_append_right _ (List.mem_append_right _ (List.mem_append_right _ (List.mem_map.mpr ⟨x, List.contains_iff_mem.mp hx, rfl⟩)))))
  · have : ∃ T, tyS x = some T := by
      rw [Bool.or_eq_true] at hx
      rcases hx with hx | hx
      · rcases six_cases hx with e | e | e | e | e | e <;> subst e <;> exact ⟨_, rfl⟩
      · have hx := beq_iff_eq.mp hx
        subst hx
        exact ⟨_, rfl⟩
    obtain ⟨T, eT⟩ := this
    refine ⟨T, eT, .ty T, fun _ => ⟨T, eT, rfl⟩, fun y b hs => ⟨exC y x b hs, ?_⟩⟩
    have q := sups y x b hs
    unfold supB at q
    rw [Bool.and_eq_true] at q
    have q := q.2
    have ne : L.ecs.contains x = false := by
      cases z : L.ecs.contains x with
      | false => rfl
      | true =>
        exfalso
        have z := mem_ec x z
        rw [Bool.or_eq_true] at hx
        rcases hx with hx | hx
        · rw [n6 x z] at hx; cases hx
        · rw [nV x z] at hx; cases hx
    dsimp only at q
    rw [if_neg (by rw [ne]; decide), Bool.and_eq_true, Bool.and_eq_true, decide_eq_true_eq, decide_eq_true_eq, decide_eq_true_eq] at q
    obtain ⟨q1, q2, q3⟩ := q
    subst q1
    cases eT
    exact q2
  · have hx := mem_ec x hx
    obtain ⟨e1, e2, e3, e4⟩ := He.exc_ok (cd.facts (f := .exc x) (List.mem_append_right _ (List.mem_append_right _ (List.mem_append_left _ (List.mem_map.mpr ⟨x, hx, rfl⟩)))))
    refine ⟨glos x hx, ⟨.own _, (fun z => by rw [n6 x hx] at z; cases z), fun y b hs => ⟨exC y x b hs, ?_⟩⟩, e1, e2, e3, e4⟩
    have q := sups y x b hs
    unfold supB at q
    rw [Bool.and_eq_true] at q
    have q := q.2
    dsimp only at q
    rw [if_pos (List.contains_iff_mem.mpr hx), Bool.and_eq_true, decide_eq_true_eq, decide_eq_true_eq] at q
    exact q.1
  · have q := sups y x b hs
    unfold supB at q
    rw [Bool.and_eq_true] at q
    have q := q.2
    dsimp only at q
    refine ⟨fun he => ?_, fun hv => ?_⟩
    · have he : L.ecs.contains x = true := he
      rw [if_pos he, Bool.and_eq_true, decide_eq_true_eq, decide_eq_true_eq] at q
      exact q.2
    · subst hv
      by_cases z : L.ecs.contains "ValueError" = true
      · have := nV _ (mem_ec _ z)
        cases this
      · rw [if_neg z, Bool.and_eq_true, Bool.and_eq_true, decide_eq_true_eq, decide_eq_true_eq, decide_eq_true_eq] at q
        exact q.2.2
  · obtain ⟨v, hv⟩ := Option.isSome_iff_exists.mp hx
    have q := cx2 _ (lookup_in hv)
    unfold conB at q
    dsimp only at q
    split at q
    · rename_i u hu
      obtain ⟨x1, r1, r2⟩ := cvOk_ok (B := bsOf K) v q
      exact ⟨u, x1, v, PySem.W.mg_of X G hu, r1, hv, r2⟩
    · cases q
  · obtain ⟨d, e1, e2⟩ := Option.map_eq_some_iff.mp hx
    subst e2
    obtain ⟨h1, h2⟩ := find_of e1
    have h2 := of_decide_eq_true h2
    subst h2
    obtain ⟨fd, FD⟩ := cd.defs (d := d.df) (List.mem_map.mpr ⟨d, h1, rfl⟩)
    have FD : FunD K d.fname d.fname d.args d.body d.scope [] [] (He.ga K d.nm) fd := FD
    have g := He.glo_ok X G (cd.facts (f := .glo d.nm) (List.mem_append_left _ (List.mem_map.mpr ⟨d, h1, rfl⟩)))
    exact ⟨_, fd, d.ps, g, FD.kp, FD.bindsN (hb d h1).bd, F d h1 fd FD⟩
/-! ### level by level -/
theorem startE_ {B : Bs} {ρ : Nat → Addr} {Ln : Nat} {H : Hp} {N : List Nm} {ws : List W} {vs : List V} (r : Rps B ρ Ln H ws vs) : REnv B ρ Ln H (startE N.length ws) (L2.start N vs) := by
  unfold startE L2.start
  refine ⟨by rw [List.length_append, List.length_append, List.length_map, List.length_map, List.length_replicate, List.length_replicate, r.len], fun i w e => ?_⟩
  by_cases hi : i < ws.length
  · rw [List.getElem?_append_left (by rw [List.length_map]; exact hi), List.getElem?_map] at e
    obtain ⟨u, e1, e2⟩ := Option.map_eq_some_iff.mp e
    cases e2
    obtain ⟨y, ey, ry⟩ := r.get e1
    exact ⟨y, by rw [List.getElem?_append_left (by rw [List.length_map, r.len]; exact hi), List.getElem?_map, ey]; rfl, ry⟩
  · rw [List.getElem?_append_right (by rw [List.length_map]; omega), List.getElem?_replicate] at e
    split at e <;> cases e
theorem runD_out {B : Bs} {c : Cfg} {d : Def} {ws : List W} {ρ : Nat → Addr} {h : AH} {H : Hp} {Q : VK} {E : XK} (q : match runD c d ws h with
  | .ok w h' => ∀ ρ' H' v, Sim B ρ' h' H' → Ext ρ h H ρ' h' H' → Rp B ρ' h'.length H' w v → Q v H'
  | .ex c h' => ∀ ρ' H', Sim B ρ' h' H' → Ext ρ h H ρ' h' H' → E (.ref (B.ca c)) none H'
  | .bad => False) : OutF B (fun cls d _ H => E cls d H) ρ h H (evSs c d.body (startE d.nl ws) h) { nx := fun _ H' => Q .non H', rt := Q } := by
  unfold runD MI.bnd noEx at q
  dsimp only at q
  cases e : evSs c d.body (startE d.nl ws) h with
  | bad => rw [e] at q; exact q
  | ex x h1 => rw [e] at q; exact q
  | ok f h1 =>
    rw [e] at q
    cases f with
    | nx s => exact fun ρ' H' σ' S' X' E' => q ρ' H' .non S' X' (by unfold Rp; rfl)
    | rt w => exact fun ρ' H' x S' X' r => q ρ' H' x S' X' r
    | bk s => exact q.elim
    | ct s => exact q.elim
    | xn x s => exact fun ρ' H' σ' S' X' E' => q ρ' H' S' X'
theorem law_fns (hL : L.ok = true) (X : K.In h) (G : h.Ns mainGlobals mg) (c : He.SaysX L.fa L.fn [] [] L.ex w h K) (hb : ∀ d ∈ L.ds, DdOk L d) (hnm : ∀ d ∈ L.ds, L.dfn d.nm = some d) :
    ∀ (k : Nat), ∀ d ∈ L.ds, ∀ fd, FunD K d.fname d.fname d.args d.body d.scope [] [] (He.ga K d.nm) fd → FnG P w K mg base (L2.CX P w) k (He.ga K d.nm) fd d.ps (spF (bsOf K) d.ps.length (callF L.gam k d.nm))
  | 0, d, hd, fd, FD => ⟨fun vs H Q E q => q.1, fun A _ _ outer s H _ args us vs _ _ Q E q => by
      obtain ⟨_, ρ, h, ws, _, _, z⟩ := q
      exact z.elim⟩
  | k + 1, d, hd, fd, FD => by
    have D := hb d hd
    have st := law_stat (base := base) (P := P) hL X G c hb (law_fns hL X G c hb hnm k) d.N
    refine fnG_of FD D.sc (fun vs H Q E q => q.1) fun cdv A outer s H vs Q E gd hr q => ?_
    have hu := hr.un
    refine ⟨LS (bsOf K) (fun cls d _ H => E cls d H) (evSs (cfg L.gam k) d.ir), cSs_snd 400 (L.cc d.N) d.scope d.body d.ir D.co _ _ ⟨rfl, rfl, D.sc.nd, ?_, fun _ => ⟨rfl, gd, hr⟩, st⟩ (takes_of rfl rfl rfl rfl) rfl ⟨passes_of rfl, rfl, rfl, fun _ => rfl⟩, ?_⟩
    · show (A.deeper (envOfC d.fname d.scope s.heap.objs.size (He.ga K d.nm) cdv)).units + 66 < cLine
      omega
    · obtain ⟨_, ρ, h, ws, S, r, q⟩ := q
      refine ⟨ρ, h, startE d.N.length ws, S, startE_ r, ?_⟩
      have ed : L.gam.df d.nm = some ⟨d.ps.length, d.N.length, d.ir⟩ := by
        show (L.dfn d.nm).map _ = _
        rw [hnm d hd]; rfl
      unfold callF at q
      rw [ed] at q
      dsimp only at q
      by_cases hl : ws.length = d.ps.length
      · rw [if_pos hl] at q
        exact runD_out (d := ⟨d.ps.length, d.N.length, d.ir⟩) q
      · rw [if_neg hl] at q
        exact q.elim
theorem fn_noexc {k : Nat} {f : Addr} {fd : FuncData} {ps : List Str} {sp : Sp} (F : FnG P w K mg base (L2.CX P w) k f fd ps sp) : FnG P w K mg base CX0 k f fd ps (fun vs H Q _ => sp vs H Q fun _ _ _ => False) := by
  refine ⟨fun vs H Q E q => F.ln vs H Q _ q, fun A gd hr outer s H he args us vs hb hv Q E q => codeAny_mono (F.go A gd hr outer s H he args us vs hb hv Q _ q) fun r s' z => ?_⟩
  cases r with
  | error e =>
    obtain ⟨_, _, _, _, _, _, _, _, _, _, _, _, z⟩ := z
    exact z.elim
  | ok fl => cases fl <;> exact z
/-- the law's end: what is called gives True at every script -/
theorem law_end {l : PySem.W.OpenLaw} {q : Program} {loose : List Str} {XP : (Str → Option Value) → Heap → Prop} {d0 : DefRec} {x : Str} {k : Nat} {dl : Dd} (hn : l.most = some 63) (hdf : d0.params.defaults = []) (hr : Room k callerA) (hL : L.ok = true) (hb : ∀ d ∈ L.ds, DdOk L d) (hnm : ∀ d ∈ L.ds, L.dfn d.nm = some d)
    (hl : L.dfn d0.name = some dl) (hp : dl.ps = [x])
    (hrun : ∀ ns : List Int, ns.length ≤ 63 → ∃ h', callF L.gam k d0.name [.loc 0] [.frl (ns.map W.int)] = .ok (.bl true) h') :
    PySem.W.WalkO q loose XP (He.hookX 4 L.fa L.fn [] [] L.ex).says l.row.toRowW d0 [] (fun f vs => PySem.call f vs) := by
  obtain ⟨hm, hnm2⟩ := find_of hl
  have hnm2 := of_decide_eq_true hnm2
  refine walk_ofG (n := 63) (k := k) (x := x) (CX := CX0) hn (by rw [sizeLine_eq]; omega) hdf hr ?_ fun _ _ _ _ z => z
  intro w mg fa h Y G hmg
  obtain ⟨K, KX, c⟩ := Y
  have g := He.glo_ok KX G (c.t.d.facts (f := .glo dl.nm) (List.mem_append_left _ (List.mem_map.mpr ⟨dl, hm, rfl⟩)))
  rw [hnm2, hmg] at g
  cases g
  obtain ⟨fd, FD⟩ := c.t.d.defs (d := dl.df) (List.mem_map.mpr ⟨dl, hm, rfl⟩)
  have FD : FunD K dl.fname dl.fname dl.args dl.body dl.scope [] [] (He.ga K dl.nm) fd := FD
  have ln : dl.ps.length = 1 := by rw [hp]; rfl
  refine ⟨K, fd, fun vs H Q _ => spF (bsOf K) 1 (callF L.gam k d0.name) vs H Q fun _ _ _ => False, KX, fun s u => ?_, ?_, fun base _ _ => ?_⟩
  rotate_left 2
  · have F := fn_noexc (law_fns (P := l.prog) (w := w) (mg := mg) (base := base) hL KX G c hb hnm k dl hm fd FD)
    rw [ln, hp, hnm2] at F
    exact F
  · have b := FD.bindsA (ps := dl.ps) (hb dl hm).bd s [u] (by rw [hp]; rfl)
    rw [hp] at b
    exact b
  · intro H a ns hl2 hO hS
    refine ⟨rfl, fun _ => a, [.frl (ns.map W.int)], [.loc 0], ⟨fun m n h1 h2 f1 f2 _ => ?_, fun n o e => ?_⟩, ?_, ?_⟩
    · have : m = 0 := Nat.lt_one_iff.mp h1
      subst this
      cases f1
    · have : n = 0 := by
        have := (List.getElem?_eq_some_iff.mp e).1
        exact Nat.lt_one_iff.mp this
      subst this
      cases e
      refine ⟨ns.map V.int, ?_, ?_⟩
      · rcases hS with hS | hS
        · rcases hS with hS | ⟨o, hS⟩
          · rcases hO a with z | ⟨o, xs, z⟩ <;> (rw [hS] at z; cases z)
          · exact .inl ⟨o, hS⟩
        · exact .inr hS
      · have : ∀ ns : List Int, Rps (bsOf K) (fun _ => a) 1 H (ns.map W.int) (ns.map V.int) := by
          intro ns
          induction ns with
          | nil => unfold Rps; trivial
          | cons i r ih => rw [List.map_cons, List.map_cons]; unfold Rps; exact ⟨by unfold Rp; rfl, ih⟩
        exact this ns
    · unfold Rps
      exact ⟨by unfold Rp; exact ⟨Nat.zero_lt_one, rfl⟩, by unfold Rps; trivial⟩
    · obtain ⟨h', e⟩ := hrun ns hl2
      rw [e]
      intro ρ' H' v _ _ r
      exact r.bl_
end
end MI
/-! MI19: what a run of the small language gives, by what is wanted behind it. -/
namespace MI
open PySem
@[irreducible] def wp {α : Type} (m : Mo α) (Q : α → AH → Prop) (E : Nm → AH → Prop) (h : AH) : Prop := match m h with
  | .ok a h' => Q a h'
  | .ex c h' => E c h'
  | .bad => False
section
variable {α β : Type} {m : Mo α} {f : α → Mo β} {Q Q' : α → AH → Prop} {Q2 : β → AH → Prop} {E E' : Nm → AH → Prop} {h h' : AH} {a : α} {c : Cfg} {s : Env}
theorem wp_mono (x : wp m Q E h) (q : ∀ a h', Q a h' → Q' a h') (e : ∀ c h', E c h' → E' c h') : wp m Q' E' h := by
  unfold wp at *
  cases hm : m h with
  | ok a h' => rw [hm] at x; exact q a h' x
  | ex c h' => rw [hm] at x; exact e c h' x
  | bad => rw [hm] at x; exact x
theorem wp_and (x : wp m Q E h) (y : ∀ a h', m h = .ok a h' → Q a h' → Q' a h') (e : ∀ c h', E c h' → E' c h') : wp m Q' E' h := by
  unfold wp at *
  cases hm : m h with
  | ok a h' => rw [hm] at x; exact y a h' hm x
  | ex c h' => rw [hm] at x; exact e c h' x
  | bad => rw [hm] at x; exact x
theorem wp_eq (e : m h = .ok a h') : wp m Q E h = Q a h' := by unfold wp; rw [e]
theorem wp_ex {x : Nm} (e : m h = .ex x h') : wp m Q E h = E x h' := by unfold wp; rw [e]
theorem wp_out (x : wp m Q (fun _ _ => False) h) : ∃ a h', m h = .ok a h' ∧ Q a h' := by
  unfold wp at x
  cases hm : m h with
  | ok a h' => rw [hm] at x; exact ⟨a, h', rfl, x⟩
  | ex c h' => rw [hm] at x; exact x.elim
  | bad => rw [hm] at x; exact x.elim
@[simp] theorem wp_bnd : wp (bnd m f) Q2 E h = wp m (fun a h' => wp (f a) Q2 E h') E h := by
  unfold wp bnd
  cases m h <;> rfl
@[simp] theorem wp_ret : wp (ret a) Q E h = Q a h := by first | rfl | (unfold wp; rfl)
@[simp] theorem wp_bad : wp (bad : Mo α) Q E h = False := by first | rfl | (unfold wp; rfl)
@[simp] theorem wp_noEx : wp (noEx m) Q E h = wp m Q (fun _ _ => False) h := by
  unfold wp noEx
  cases m h <;> rfl
theorem wp_rdO {f : AH → Option α} : wp (rdO f) Q E h = match f h with | some a => Q a h | none => False := by
  unfold wp rdO
  cases f h <;> rfl
theorem wp_rd {f : AH → Option α} (e : f h = some a) : wp (rdO f) Q E h = Q a h := by rw [wp_rdO, e]
@[simp] theorem wp_ofO : wp (ofO (some a)) Q E h = Q a h := by first | rfl | (unfold wp; rfl)
@[simp] theorem wp_alloc {o : O} {Q : W → AH → Prop} : wp (alloc o) Q E h = Q (.loc h.length) (h ++ [o]) := by first | rfl | (unfold wp; rfl)
@[simp] theorem wp_outL {w : W} {Q : W → AH → Prop} : wp (outM (some (.inl w))) Q E h = Q w h := by first | rfl | (unfold wp; rfl)
@[simp] theorem wp_outR {o : O} {Q : W → AH → Prop} : wp (outM (some (.inr o))) Q E h = Q (.loc h.length) (h ++ [o]) := by first | rfl | (unfold wp; rfl)
@[simp] theorem wp_eb {k : α → Mo Fl} {Q : Fl → AH → Prop} : wp (eb m s k) Q E h = wp m (fun a h' => wp (k a) Q E h') (fun x h' => Q (.xn x s) h') h := by
  unfold wp eb
  cases m h <;> rfl
theorem wp_ite {p : Prop} [Decidable p] {m1 m2 : Mo α} : wp (if p then m1 else m2) Q E h = if p then wp m1 Q E h else wp m2 Q E h := by split <;> rfl
end
/-! ### expressions -/
section
variable {c : Cfg} {s : Env} {Q : W → AH → Prop} {E : Nm → AH → Prop} {h : AH} {a b d e : MI.E} {es : Es}
theorem w_var {i : Nat} {w : W} (e : s[i]? = some (some w)) : wp (evE c (.var i) s) Q E h = Q w h := by rw [ev_var]; exact wp_rd (by rw [e]; rfl)
@[simp] theorem w_non : wp (evE c .non s) Q E h = Q .non h := by rw [ev_non]; first | rfl | (unfold wp; rfl)
@[simp] theorem w_bl {x} : wp (evE c (.bl x) s) Q E h = Q (.bl x) h := by rw [ev_bl]; first | rfl | (unfold wp; rfl)
@[simp] theorem w_int {x} : wp (evE c (.int x) s) Q E h = Q (.int x) h := by rw [ev_int]; first | rfl | (unfold wp; rfl)
@[simp] theorem w_str {x} : wp (evE c (.str x) s) Q E h = Q (.str x) h := by rw [ev_str]; first | rfl | (unfold wp; rfl)
theorem w_gl {x : Nm} {w : W} (e : c.gl x = some w) : wp (evE c (.gl x) s) Q E h = Q w h := by rw [ev_gl, e]; first | rfl | (unfold wp; rfl)
@[simp] theorem w_bin {op} : wp (evE c (.bin op a b) s) Q E h = wp (evE c a s) (fun x h1 => wp (evE c b s) (fun y h2 => wp (rdO fun h => binH h op x y) (fun r h3 => wp (outM (some r)) Q E h3) E h2) E h1) E h := by rw [ev_bin]; simp
@[simp] theorem w_neg : wp (evE c (.neg a) s) Q E h = wp (evE c a s) (fun x h1 => wp (match x with | .int i => ret (.int (-i)) | _ => bad) Q E h1) E h := by rw [ev_neg, wp_bnd] <;> first | rfl | (unfold wp; rfl)
@[simp] theorem w_nt : wp (evE c (.nt a) s) Q E h = wp (evE c a s) (fun x h1 => wp (truM x) (fun k h2 => Q (.bl (!k)) h2) E h1) E h := by rw [ev_nt]; simp
@[simp] theorem w_cmp {op} : wp (evE c (.cmp op a b) s) Q E h = wp (evE c a s) (fun x h1 => wp (evE c b s) (fun y h2 => wp (rdO fun h => cmpH h op x y) (fun r h3 => Q (.bl r) h3) E h2) E h1) E h := by rw [ev_cmp]; unfold mCmp; simp
theorem wp_b {m1 m2 : Mo W} {k : Bool} : wp (match k with | true => m1 | false => m2) Q E h = if k = true then wp m1 Q E h else wp m2 Q E h := by cases k <;> first | rfl | (unfold wp; rfl)
@[simp] theorem w_chn {o1 o2} : wp (evE c (.chn o1 o2 a b d) s) Q E h = wp (evE c a s) (fun x h1 => wp (evE c b s) (fun y h2 => wp (rdO fun h => cmpH h o1 x y) (fun r h3 => if r = true then wp (evE c d s) (fun z h4 => wp (rdO fun h => cmpH h o2 y z) (fun r h5 => Q (.bl r) h5) E h4) E h3 else Q (.bl false) h3) E h2) E h1) E h := by
  rw [ev_chn]
  unfold mChn
  simp only [wp_bnd]
  congr 1; funext x h1; congr 1; funext y h2; congr 1; funext r h3
  cases r with
  | false => unfold wp; rfl
  | true => rw [if_pos rfl]; simp
@[simp] theorem w_and : wp (evE c (.and_ a b) s) Q E h = wp (evE c a s) (fun x h1 => wp (truM x) (fun k h2 => if k = true then wp (evE c b s) Q E h2 else Q x h2) E h1) E h := by
  rw [ev_and]
  simp only [wp_bnd]
  congr 1; funext x h1; congr 1; funext k h2; cases k <;> first | rfl | (unfold wp; rfl)
@[simp] theorem w_or : wp (evE c (.or_ a b) s) Q E h = wp (evE c a s) (fun x h1 => wp (truM x) (fun k h2 => if k = true then Q x h2 else wp (evE c b s) Q E h2) E h1) E h := by
  rw [ev_or]
  simp only [wp_bnd]
  congr 1; funext x h1; congr 1; funext k h2; cases k <;> first | rfl | (unfold wp; rfl)
@[simp] theorem w_ite : wp (evE c (.ite d a b) s) Q E h = wp (evE c d s) (fun x h1 => wp (truM x) (fun k h2 => if k = true then wp (evE c a s) Q E h2 else wp (evE c b s) Q E h2) E h1) E h := by
  rw [ev_ite]
  simp only [wp_bnd]
  congr 1; funext x h1; congr 1; funext k h2; cases k <;> first | rfl | (unfold wp; rfl)
@[simp] theorem w_idx : wp (evE c (.idx a b) s) Q E h = wp (evE c a s) (fun x h1 => wp (evE c b s) (fun y h2 => wp (rdO fun h => idxH h x y) Q E h2) E h1) E h := by rw [ev_idx]; simp
@[simp] theorem w_slc : wp (evE c (.slc a b d) s) Q E h = wp (evE c a s) (fun x h1 => wp (partM b (evE c b s)) (fun l h2 => wp (partM d (evE c d s)) (fun u h3 => wp (rdO fun h => slcH h l u x) (fun r h4 => wp (outM (some r)) Q E h4) E h3) E h2) E h1) E h := by rw [ev_slc]; simp
@[simp] theorem w_tup : wp (evE c (.tup es) s) Q E h = wp (evEs c es s) (fun ws h1 => wp (if ws.length ≤ LN then ret (.tup ws) else bad) Q E h1) E h := by rw [ev_tup]; simp
@[simp] theorem w_lst : wp (evE c (.lst es) s) Q E h = wp (evEs c es s) (fun ws h1 => wp (if ws.length ≤ LN then alloc (.lst ws) else bad) Q E h1) E h := by rw [ev_lst]; simp
@[simp] theorem w_dct : wp (evE c (.dct es) s) Q E h = wp (evEs c es s) (fun ws h1 => wp (ofO (pairUp ws)) (fun kvs h2 => Q (.loc h2.length) (h2 ++ [.dct (mergeD [] kvs)])) E h1) E h := by rw [ev_dct]; simp
@[simp] theorem w_call {f} : wp (evE c (.call f es) s) Q E h = wp (evEs c es s) (fun ws h1 => wp (c.cf f ws) Q E h1) E h := by rw [ev_call]; simp
@[simp] theorem w_bi {x} : wp (evE c (.bi x es) s) Q E h = wp (evEs c es s) (fun ws h1 => wp (rdO fun h => biH h x ws) (fun r h2 => wp (outM (some r)) Q E h2) E h1) E h := by rw [ev_bi]; unfold mBi; simp
@[simp] theorem w_me {m} : wp (evE c (.me m a es) s) Q E h = wp (evE c a s) (fun x h1 => wp (rdO fun h => kndM h m x) (fun k h2 => wp (evEs c es s) (fun ws h3 => wp (meH m k x ws) Q E h3) E h2) E h1) E h := by rw [ev_me]; unfold mMe; simp
@[simp] theorem w_isi {ts} : wp (evE c (.isi a ts) s) Q E h = wp (evE c a s) (fun x h1 => wp (rdO fun h => tyAny c.sub h x ts) (fun b h2 => Q (.bl b) h2) E h1) E h := by rw [ev_isi]; unfold mIsi; simp
@[simp] theorem w_comp {t it cs own} : wp (evE c (.comp a t it cs own) s) Q E h = wp (evI c it s) (fun J h1 => wp (compN (evT c cs) (evE c a) t J J.fuel 0 [] (wipeE s own)) (fun acc h2 => Q (.loc h2.length) (h2 ++ [.lst acc])) (fun _ _ => False) h1) (fun _ _ => False) h := by rw [ev_comp]; unfold mComp; simp
end
section
variable {c : Cfg} {s : Env} {E : Nm → AH → Prop} {h : AH} {a : MI.E} {es : Es}
@[simp] theorem ws_nil {Q : List W → AH → Prop} : wp (evEs c .nil s) Q E h = Q [] h := by rw [evs_nil]; first | rfl | (unfold wp; rfl)
@[simp] theorem ws_cons {Q : List W → AH → Prop} : wp (evEs c (.cons a es) s) Q E h = wp (evE c a s) (fun x h1 => wp (evEs c es s) (fun xs h2 => Q (x :: xs) h2) E h1) E h := by rw [evs_cons]; simp
@[simp] theorem wt_nil {Q : Bool → AH → Prop} : wp (evT c .nil s) Q E h = Q true h := by rw [evt_nil]; first | rfl | (unfold wp; rfl)
@[simp] theorem wt_cons {Q : Bool → AH → Prop} : wp (evT c (.cons a es) s) Q E h = wp (evE c a s) (fun x h1 => wp (truM x) Q E h1) E h := by rw [evt_cons ⟨[], fun _ => none, fun _ => 0⟩ WN]; unfold TrO; simp
@[simp] theorem wi_val {Q : It → AH → Prop} : wp (evI c (.val a) s) Q E h = wp (evE c a s) (fun x h1 => wp (itM x) Q E h1) E h := by rw [evi_val]; unfold mIt; simp
@[simp] theorem wi_rev {Q : It → AH → Prop} {e : MI.E} : wp (evI c (.rev e) s) Q E h = wp (evE c e s) (fun x h1 => wp (ofO (revH x)) Q E h1) E h := by rw [evi_rev]; simp
@[simp] theorem wi_rng {Q : It → AH → Prop} : wp (evI c (.rng es) s) Q E h = wp (evEs c es s) (fun ws h1 => wp (ofO (rngH ws)) Q E h1) E h := by rw [evi_rng]; unfold mRng; simp
@[simp] theorem wi_zip {Q : It → AH → Prop} : wp (evI c (.zip es) s) Q E h = wp (evEs c es s) (fun ws h1 => wp (zipM ws) Q E h1) E h := by rw [evi_zip]; unfold mZip; rw [wp_bnd]
theorem wi_enuT {Q : It → AH → Prop} : wp (evI c (.enu a) s) Q E h = wp (evE c a s) (fun x h1 => wp (match x with
    | .tup xs => ret (.seq (enumL 0 xs))
    | .loc n => bnd (rdO fun h => lstAt h n) fun _ => ret (.enu n)
    | _ => bad) Q E h1) E h := by rw [evi_enu]; unfold mEnu; rw [wp_bnd] <;> rfl
end
/-! ### statements -/
section
variable {c : Cfg} {s : Env} {Q : Fl → AH → Prop} {E : Nm → AH → Prop} {h : AH} {e o i d : MI.E} {a b : Ss}
@[simp] theorem s_expr : wp (evS c (.expr e) s) Q E h = wp (evE c e s) (fun _ h' => Q (.nx s) h') (fun x h' => Q (.xn x s) h') h := by rw [evs_expr]; simp
@[simp] theorem s_asg {t} : wp (evS c (.asg t e) s) Q E h = wp (evE c e s) (fun w h1 => wp (rdO (bindT · t w s)) (fun s' h2 => Q (.nx s') h2) E h1) (fun x h' => Q (.xn x s) h') h := by rw [evs_asg]; simp
@[simp] theorem s_aug {i op} : wp (evS c (.aug i op e) s) Q E h = wp (rdO fun _ => (s[i]?).join) (fun x h0 => wp (evE c e s) (fun y h1 => wp (augM op x y) (fun w h2 => Q (.nx (s.set i (some w))) h2) E h1) (fun x h' => Q (.xn x s) h') h0) E h := by rw [evs_aug]; simp
@[simp] theorem s_asgI : wp (evS c (.asgI o i e) s) Q E h = wp (evE c e s) (fun w h1 => wp (evE c o s) (fun x h2 => wp (evE c i s) (fun k h3 => wp (match x with
    | .loc n => setI n k w
    | _ => bad) (fun _ h4 => Q (.nx s) h4) (fun x h' => Q (.xn x s) h') h3) (fun x h' => Q (.xn x s) h') h2) (fun x h' => Q (.xn x s) h') h1) (fun x h' => Q (.xn x s) h') h := by
  rw [evs_asgI]; simp only [wp_eb, wp_bnd, wp_ret] <;> rfl
@[simp] theorem s_asgL : wp (evS c (.asgL o lo hi e) s) Q E h = wp (evE c e s) (fun w h1 => wp (evE c o s) (fun x h2 => wp (partM lo (evE c lo s)) (fun l h3 => wp (partM hi (evE c hi s)) (fun u h4 => wp (match x with
    | .loc n => setSl n l u w
    | _ => bad) (fun _ h5 => Q (.nx s) h5) (fun y h5 => Q (.xn y s) h5) h4) (fun y h4 => Q (.xn y s) h4) h3) (fun y h3 => Q (.xn y s) h3) h2) (fun y h2 => Q (.xn y s) h2) h1) (fun y h1 => Q (.xn y s) h1) h := by
  rw [evs_asgL]; simp only [wp_eb, wp_bnd, wp_ret] <;> rfl
@[simp] theorem s_if : wp (evS c (.if_ d a b) s) Q E h = wp (evE c d s) (fun x h1 => wp (truM x) (fun k h2 => if k = true then wp (evSs c a s) Q E h2 else wp (evSs c b s) Q E h2) (fun x h' => Q (.xn x s) h') h1) (fun x h' => Q (.xn x s) h') h := by
  rw [evs_if]
  simp only [wp_eb, wp_bnd]
  congr 1; funext x h1; congr 1; funext k h2; cases k <;> first | rfl | (unfold wp; rfl)
@[simp] theorem s_for {t it} : wp (evS c (.for_ t it b) s) Q E h = wp (evI c it s) (fun J h1 => wp (forN (evSs c b) t J J.fuel 0 s) Q E h1) (fun x h' => Q (.xn x s) h') h := by rw [evs_for]; simp
@[simp] theorem s_while : wp (evS c (.while_ d b) s) Q E h = wp (whileN (fun s => bnd (evE c d s) truM) (evSs c b) WF s) Q E h := by rw [evs_while]
@[simp] theorem s_ret : wp (evS c (.ret e) s) Q E h = wp (evE c e s) (fun w h' => Q (.rt w) h') (fun x h' => Q (.xn x s) h') h := by rw [evs_ret]; simp
@[simp] theorem s_retN : wp (evS c .retN s) Q E h = Q (.rt .non) h := by rw [evs_retN]; first | rfl | (unfold wp; rfl)
@[simp] theorem s_raise {x} : wp (evS c (.raise_ x) s) Q E h = Q (.xn x s) h := by rw [evs_raise]; first | rfl | (unfold wp; rfl)
@[simp] theorem s_pass : wp (evS c .pass s) Q E h = Q (.nx s) h := by rw [evs_pass]; first | rfl | (unfold wp; rfl)
@[simp] theorem s_brk : wp (evS c .brk s) Q E h = Q (.bk s) h := by rw [evs_brk]; first | rfl | (unfold wp; rfl)
@[simp] theorem s_cont : wp (evS c .cont s) Q E h = Q (.ct s) h := by rw [evs_cont]; first | rfl | (unfold wp; rfl)
@[simp] theorem ss_nil : wp (evSs c .nil s) Q E h = Q (.nx s) h := by rw [evss_nil]; first | rfl | (unfold wp; rfl)
/-- behind a statement the rest -/
def onN (k : Env → AH → Prop) (Q : Fl → AH → Prop) : Fl → AH → Prop
  | .nx s2, h => k s2 h
  | o, h => Q o h
@[simp] theorem onN_nx {k} : onN k Q (.nx s) h = k s h := rfl
@[simp] theorem onN_rt {k w} : onN k Q (.rt w) h = Q (.rt w) h := rfl
@[simp] theorem onN_bk {k} : onN k Q (.bk s) h = Q (.bk s) h := rfl
@[simp] theorem onN_ct {k} : onN k Q (.ct s) h = Q (.ct s) h := rfl
@[simp] theorem onN_xn {k x} : onN k Q (.xn x s) h = Q (.xn x s) h := rfl
@[simp] theorem ss_cons {st r} : wp (evSs c (.cons st r) s) Q E h = wp (evS c st s) (onN (fun s2 h2 => wp (evSs c r s2) Q E h2) Q) E h := by
  rw [evss_cons]
  simp only [wp_bnd]
  congr 1
  funext o h'
  cases o <;> first | rfl | (unfold wp; rfl)
theorem s_try {x v hd} : wp (evS c (.try_ b x v hd) s) Q E h = wp (evSs c b s) (fun o h1 => match o with
    | .xn y s2 => match c.sub y x with
      | some true => match v with
        | some i => wp (evSs c hd (s2.set i (some (.loc h1.length)))) (fun o h2 => wp (goneF i o) Q E h2) E (h1 ++ [.exn y])
        | none => wp (evSs c hd s2) (fun o h2 => wp (noXn o) Q E h2) E h1
      | some false => Q (.xn y s2) h1
      | none => False
    | o => Q o h1) E h := by
  rw [evs_try]
  simp only [wp_bnd]
  congr 1
  funext o h1
  cases o with
  | xn y s2 =>
    dsimp only
    cases hs : c.sub y x with
    | none => unfold wp; rfl
    | some bb =>
      cases bb with
      | false => unfold wp; rfl
      | true =>
        cases v with
        | none => simp
        | some i =>
          have e : ∀ m : AH → Mo Fl, wp (fun h' => m h' (h' ++ [O.exn y])) Q E h1 = wp (m h1) Q E (h1 ++ [O.exn y]) := fun m => by unfold wp; rfl
          dsimp only
          rw [e fun h' => bnd (evSs c hd (List.set s2 i (some (W.loc (List.length h'))))) (goneF i)]
          simp
  | _ => first | rfl | (unfold wp; rfl)
end
/-- a def's run -/
theorem w_def {Γ : Gam} {k : Nat} {f : Nm} {d : Def} {ws : List W} {Q : W → AH → Prop} {E : Nm → AH → Prop} {h : AH} (e : Γ.df f = some d) (hl : ws.length = d.np) :
    wp (callF Γ (k + 1) f ws) Q E h = wp (evSs (cfg Γ k) d.body (startE d.nl ws)) (fun o h' => match o with
      | .nx _ => Q .non h'
      | .rt w => Q w h'
      | .xn c _ => E c h'
      | _ => False) (fun _ _ => False) h := by
  have e1 : callF Γ (k + 1) f ws = runD (cfg Γ k) d ws := by
    show (match Γ.df f with | some d => if ws.length = d.np then runD (cfg Γ k) d ws else bad | none => bad) = _
    rw [e]
    dsimp only
    rw [if_pos hl]
  rw [e1]
  unfold runD wp bnd noEx
  dsimp only
  cases evSs (cfg Γ k) d.body (startE d.nl ws) h with
  | bad => rfl
  | ex c h' => rfl
  | ok o h' => cases o <;> rfl
end MI
/-! MI20: the values' steps, walked things. -/
namespace MI
open PySem
section
variable {α : Type} {Q : Bool → AH → Prop} {E : Nm → AH → Prop} {h : AH} {i j : Int} {b : Bool} {s t : List Nat} {ws vs : List W} {n : Nat}
@[simp] theorem t_bl : wp (truM (.bl b)) Q E h = Q b h := by first | rfl | (unfold wp; rfl)
@[simp] theorem t_int : wp (truM (.int i)) Q E h = Q (i != 0) h := by first | rfl | (unfold wp; rfl)
@[simp] theorem t_tup : wp (truM (.tup ws)) Q E h = Q (!ws.isEmpty) h := by first | rfl | (unfold wp; rfl)
@[simp] theorem r_some {a : α} {Q : α → AH → Prop} : wp (rdO fun _ => some a) Q E h = Q a h := by first | rfl | (unfold wp; rfl)
@[simp] theorem c_lt : wp (rdO fun h => cmpH h .lt (.int i) (.int j)) Q E h = Q (decide (i < j)) h := by first | rfl | (unfold wp; rfl)
@[simp] theorem c_le : wp (rdO fun h => cmpH h .le (.int i) (.int j)) Q E h = Q (decide (i ≤ j)) h := by first | rfl | (unfold wp; rfl)
@[simp] theorem c_gt : wp (rdO fun h => cmpH h .gt (.int i) (.int j)) Q E h = Q (decide (j < i)) h := by first | rfl | (unfold wp; rfl)
@[simp] theorem c_ge : wp (rdO fun h => cmpH h .ge (.int i) (.int j)) Q E h = Q (decide (j ≤ i)) h := by first | rfl | (unfold wp; rfl)
@[simp] theorem c_eqI : wp (rdO fun h => cmpH h .eq (.int i) (.int j)) Q E h = Q (i == j) h := by first | rfl | (unfold wp; rfl)
@[simp] theorem c_neI : wp (rdO fun h => cmpH h .ne (.int i) (.int j)) Q E h = Q (!(i == j)) h := by first | rfl | (unfold wp; rfl)
@[simp] theorem c_eqS : wp (rdO fun h => cmpH h .eq (.str s) (.str t)) Q E h = Q (s == t) h := by first | rfl | (unfold wp; rfl)
@[simp] theorem c_neS : wp (rdO fun h => cmpH h .ne (.str s) (.str t)) Q E h = Q (!(s == t)) h := by first | rfl | (unfold wp; rfl)
theorem eqW_some {x y : W} (h1 : x.gr = true) (h2 : y.gr = true) (h3 : x.dp ≤ 60 ∨ y.dp ≤ 60) : eqW x y = some (x.eqv y) := by
  unfold eqW
  rw [if_pos]
  simp only [h1, h2, Bool.and_self, Bool.true_and, Bool.or_eq_true, decide_eq_true_eq]
  exact h3
theorem inSq_some {x : W} {ws : List W} (h1 : grs ws = true) (h2 : x.gr = true) (h3 : dps ws ≤ 60 ∨ x.dp ≤ 60) : inSq x ws = some (inL x ws) := by
  unfold inSq
  rw [if_pos]
  simp only [h1, h2, Bool.and_self, Bool.true_and, Bool.or_eq_true, decide_eq_true_eq]
  exact h3
end
section
variable {Q : Sum W O → AH → Prop} {E : Nm → AH → Prop} {h : AH} {i j : Int} {b : Bool} {s t : List Nat} {ws vs : List W} {n : Nat}
@[simp] theorem b_add : wp (rdO fun h => binH h .add (.int i) (.int j)) Q E h = Q (.inl (.int (i + j))) h := by first | rfl | (unfold wp; rfl)
@[simp] theorem b_sub : wp (rdO fun h => binH h .sub (.int i) (.int j)) Q E h = Q (.inl (.int (i - j))) h := by first | rfl | (unfold wp; rfl)
theorem b_mul (hm : mulOk i j = true) : wp (rdO fun h => binH h .mul (.int i) (.int j)) Q E h = Q (.inl (.int (i * j))) h := wp_rd (by unfold binH; dsimp only; rw [if_pos hm])
theorem b_mod (hm : 0 < j) : wp (rdO fun h => binH h .mod (.int i) (.int j)) Q E h = Q (.inl (.int (i % j))) h := wp_rd (by unfold binH; dsimp only; rw [if_pos hm])
theorem b_div (h1 : 0 < j) (h2 : j < 1073741824) : wp (rdO fun h => binH h .fdiv (.int i) (.int j)) Q E h = Q (.inl (.int (i / j))) h := wp_rd (by unfold binH; dsimp only; rw [if_pos ⟨h1, h2⟩])
theorem b_tup (hl : ws.length + vs.length ≤ LN) : wp (rdO fun h => binH h .add (.tup ws) (.tup vs)) Q E h = Q (.inl (.tup (ws ++ vs))) h := wp_rd (by unfold binH; dsimp only; rw [if_pos hl])
@[simp] theorem bi_lenT : wp (rdO fun h => biH h .len [.tup ws]) Q E h = Q (.inl (.int ws.length)) h := by first | rfl | (unfold wp; rfl)
@[simp] theorem bi_tupT : wp (rdO fun h => biH h .tuple [.tup ws]) Q E h = Q (.inl (.tup ws)) h := by first | rfl | (unfold wp; rfl)
@[simp] theorem bi_lisT : wp (rdO fun h => biH h .list [.tup ws]) Q E h = Q (.inr (.lst ws)) h := by first | rfl | (unfold wp; rfl)
@[simp] theorem bi_min2 : wp (rdO fun h => biH h .min [.int i, .int j]) Q E h = Q (.inl (.int (if j < i then j else i))) h := by first | rfl | (unfold wp; rfl)
@[simp] theorem bi_abs' : wp (rdO fun h => biH h .abs [.int i]) Q E h = Q (.inl (.int (if i < 0 then -i else i))) h := by first | rfl | (unfold wp; rfl)
theorem bi_lenL {l : Nat} (e : lstAt h l = some ws) : wp (rdO fun h => biH h .len [.loc l]) Q E h = Q (.inl (.int ws.length)) h := wp_rd (by
  unfold lstAt at e
  unfold biH
  dsimp only
  cases z : h[l]? with
  | none => rw [z] at e; cases e
  | some o => rw [z] at e; cases o <;> cases e <;> rfl)
theorem bi_tupL {l : Nat} (e : lstAt h l = some ws) : wp (rdO fun h => biH h .tuple [.loc l]) Q E h = Q (.inl (.tup ws)) h := wp_rd (by unfold biH; dsimp only; rw [e])
theorem bi_allL {l : Nat} {bs : List Bool} (e : lstAt h l = some (bs.map W.bl)) : wp (rdO fun h => biH h .all [.loc l]) Q E h = Q (.inl (.bl (bs.all id))) h := wp_rd (by
  have : ∀ bs : List Bool, blsOf (bs.map W.bl) = some bs := by
    intro bs
    induction bs with
    | nil => rfl
    | cons a r ih => show (blsOf (r.map W.bl)).map (a :: ·) = _; rw [ih]; rfl
  unfold biH; dsimp only; rw [e]; dsimp only; rw [this])
end
theorem lstAt_new {h : AH} {ws : List W} : lstAt (h ++ [.lst ws]) h.length = some ws := by
  unfold lstAt
  rw [List.getElem?_append_right (Nat.le_refl _), Nat.sub_self]
  rfl
theorem lstAt_old {h : AH} {o : O} {l : Nat} {ws : List W} (e : lstAt h l = some ws) : lstAt (h ++ [o]) l = some ws := by
  unfold lstAt at *
  have : l < h.length := by
    cases z : h[l]? with
    | none => rw [z] at e; cases e
    | some _ => exact (List.getElem?_eq_some_iff.mp z).1
  rw [List.getElem?_append_left this]
  exact e
section
variable {c : Cfg} {Q : W → AH → Prop} {E : Nm → AH → Prop} {h : AH} {w : W} {r : Env} {a0 a1 a2 a3 a4 a5 a6 a7 a8 a9 a10 a11 a12 a13 a14 a15 : Option W}
@[simp] theorem v0 : wp (evE c (.var 0) (some w :: r)) Q E h = Q w h := w_var rfl
@[simp] theorem v1 : wp (evE c (.var 1) (a0 :: some w :: r)) Q E h = Q w h := w_var rfl
@[simp] theorem v2 : wp (evE c (.var 2) (a0 :: a1 :: some w :: r)) Q E h = Q w h := w_var rfl
@[simp] theorem v3 : wp (evE c (.var 3) (a0 :: a1 :: a2 :: some w :: r)) Q E h = Q w h := w_var rfl
@[simp] theorem v4 : wp (evE c (.var 4) (a0 :: a1 :: a2 :: a3 :: some w :: r)) Q E h = Q w h := w_var rfl
@[simp] theorem v5 : wp (evE c (.var 5) (a0 :: a1 :: a2 :: a3 :: a4 :: some w :: r)) Q E h = Q w h := w_var rfl
@[simp] theorem v6 : wp (evE c (.var 6) (a0 :: a1 :: a2 :: a3 :: a4 :: a5 :: some w :: r)) Q E h = Q w h := w_var rfl
@[simp] theorem v7 : wp (evE c (.var 7) (a0 :: a1 :: a2 :: a3 :: a4 :: a5 :: a6 :: some w :: r)) Q E h = Q w h := w_var rfl
@[simp] theorem v8 : wp (evE c (.var 8) (a0 :: a1 :: a2 :: a3 :: a4 :: a5 :: a6 :: a7 :: some w :: r)) Q E h = Q w h := w_var rfl
@[simp] theorem v9 : wp (evE c (.var 9) (a0 :: a1 :: a2 :: a3 :: a4 :: a5 :: a6 :: a7 :: a8 :: some w :: r)) Q E h = Q w h := w_var rfl
@[simp] theorem v10 : wp (evE c (.var 10) (a0 :: a1 :: a2 :: a3 :: a4 :: a5 :: a6 :: a7 :: a8 :: a9 :: some w :: r)) Q E h = Q w h := w_var rfl
@[simp] theorem v11 : wp (evE c (.var 11) (a0 :: a1 :: a2 :: a3 :: a4 :: a5 :: a6 :: a7 :: a8 :: a9 :: a10 :: some w :: r)) Q E h = Q w h := w_var rfl
@[simp] theorem v12 : wp (evE c (.var 12) (a0 :: a1 :: a2 :: a3 :: a4 :: a5 :: a6 :: a7 :: a8 :: a9 :: a10 :: a11 :: some w :: r)) Q E h = Q w h := w_var rfl
@[simp] theorem v13 : wp (evE c (.var 13) (a0 :: a1 :: a2 :: a3 :: a4 :: a5 :: a6 :: a7 :: a8 :: a9 :: a10 :: a11 :: a12 :: some w :: r)) Q E h = Q w h := w_var rfl
@[simp] theorem v14 : wp (evE c (.var 14) (a0 :: a1 :: a2 :: a3 :: a4 :: a5 :: a6 :: a7 :: a8 :: a9 :: a10 :: a11 :: a12 :: a13 :: some w :: r)) Q E h = Q w h := w_var rfl
@[simp] theorem v15 : wp (evE c (.var 15) (a0 :: a1 :: a2 :: a3 :: a4 :: a5 :: a6 :: a7 :: a8 :: a9 :: a10 :: a11 :: a12 :: a13 :: a14 :: some w :: r)) Q E h = Q w h := w_var rfl
end
section
variable {Γ : Gam} {k : Nat}
@[simp] theorem cfg_cf {f : Nm} {ws : List W} : (cfg Γ k).cf f ws = callF Γ k f ws := rfl
@[simp] theorem cfg_sub : (cfg Γ k).sub = Γ.sub := rfl
@[simp] theorem cfg_gl : (cfg Γ k).gl = Γ.gl := rfl
end
theorem atI_nat {α : Type} {xs : List α} {i : Nat} {a : α} (e : xs[i]? = some a) : atI xs (i : Int) = some a := by
  have hi : i < xs.length := (List.getElem?_eq_some_iff.mp e).1
  unfold atI ixN
  rw [if_pos (by omega), if_pos (by omega)]
  exact e
theorem atI_neg1 {α : Type} {xs : List α} {a : α} (e : xs[xs.length - 1]? = some a) : atI xs (-1) = some a := by
  have hi : xs.length - 1 < xs.length := (List.getElem?_eq_some_iff.mp e).1
  unfold atI ixN
  rw [if_neg (by omega), if_pos (by omega)]
  have : (-1 + (xs.length : Int)).toNat = xs.length - 1 := by omega
  rw [this]
  exact e
theorem cutL_from {α : Type} {xs : List α} {i : Nat} (hi : i ≤ xs.length) : cutL xs (some (i : Int)) none = xs.drop i := by
  unfold cutL sIx
  dsimp only
  rw [if_pos (by omega)]
  have : min (i : Int).toNat xs.length = i := by omega
  rw [this, List.take_of_length_le (by rw [List.length_drop]; omega)]
theorem cutL_init {α : Type} {xs : List α} : cutL xs none (some (-1)) = xs.take (xs.length - 1) := by
  unfold cutL sIx
  dsimp only
  rw [if_neg (by omega), List.drop_zero]
  congr 1
  omega
section
variable {Q : W → AH → Prop} {E : Nm → AH → Prop} {h : AH} {a b d : W} {r ws : List W} {i : Int}
@[simp] theorem at0 : wp (rdO fun h => idxH h (.tup (a :: r)) (.int 0)) Q E h = Q a h := wp_rd (atI_nat (i := 0) rfl)
@[simp] theorem at1 : wp (rdO fun h => idxH h (.tup (a :: b :: r)) (.int 1)) Q E h = Q b h := wp_rd (atI_nat (i := 1) rfl)
@[simp] theorem at2 : wp (rdO fun h => idxH h (.tup (a :: b :: d :: r)) (.int 2)) Q E h = Q d h := wp_rd (atI_nat (i := 2) rfl)
theorem at_tup (e : atI ws i = some a) : wp (rdO fun h => idxH h (.tup ws) (.int i)) Q E h = Q a h := wp_rd e
theorem at_lst {l : Nat} (e : lstAt h l = some ws) (e2 : atI ws i = some a) : wp (rdO fun h => idxH h (.loc l) (.int i)) Q E h = Q a h := wp_rd (by
  unfold lstAt at e
  unfold idxH
  dsimp only
  cases z : h[l]? with
  | none => rw [z] at e; cases e
  | some o => rw [z] at e; cases o <;> cases e <;> exact e2)
end
section
variable {Q : Bool → AH → Prop} {E : Nm → AH → Prop} {h : AH} {x : W} {ws : List W}
theorem c_inT (h1 : grs ws = true) (h2 : x.gr = true) (h3 : dps ws ≤ 60 ∨ x.dp ≤ 60) : wp (rdO fun h => cmpH h .in_ x (.tup ws)) Q E h = Q (inL x ws) h := wp_rd (inSq_some h1 h2 h3)
theorem c_ninT (h1 : grs ws = true) (h2 : x.gr = true) (h3 : dps ws ≤ 60 ∨ x.dp ≤ 60) : wp (rdO fun h => cmpH h .nin x (.tup ws)) Q E h = Q (!inL x ws) h := wp_rd (by
  show (inSq x ws).map (!·) = _
  rw [inSq_some h1 h2 h3]; rfl)
theorem inH_lst {l : Nat} (e : lstAt h l = some ws) (h1 : grs ws = true) (h2 : x.gr = true) (h3 : dps ws ≤ 60 ∨ x.dp ≤ 60) : inH h x (.loc l) = some (inL x ws) := by
  have hd : dctAt h l = none := by
    unfold lstAt at e
    unfold dctAt
    cases z : h[l]? with
    | none => rfl
    | some o => rw [z] at e; cases o <;> first | rfl | cases e
  unfold inH
  dsimp only
  rw [hd, e]
  exact inSq_some h1 h2 h3
theorem c_inL {l : Nat} (e : lstAt h l = some ws) (h1 : grs ws = true) (h2 : x.gr = true) (h3 : dps ws ≤ 60 ∨ x.dp ≤ 60) : wp (rdO fun h => cmpH h .in_ x (.loc l)) Q E h = Q (inL x ws) h := wp_rd (inH_lst e h1 h2 h3)
theorem c_ninL {l : Nat} (e : lstAt h l = some ws) (h1 : grs ws = true) (h2 : x.gr = true) (h3 : dps ws ≤ 60 ∨ x.dp ≤ 60) : wp (rdO fun h => cmpH h .nin x (.loc l)) Q E h = Q (!inL x ws) h := wp_rd (by
  show (inH h x (.loc l)).map (!·) = _
  rw [inH_lst e h1 h2 h3]; rfl)
end
section
variable {Q : Option Int → AH → Prop} {E : Nm → AH → Prop} {h : AH} {m : Mo W} {i : Int}
@[simp] theorem p_non : wp (partM .non m) Q E h = Q none h := by first | rfl | (unfold wp; rfl)
@[simp] theorem p_int {j : Int} : wp (partM (.int j) m) Q E h = wp m (fun x h1 => wp (match x with | .int i => ret (some i) | _ => bad) Q E h1) E h := by
  show wp (bnd m _) Q E h = _
  rw [wp_bnd] <;> rfl
@[simp] theorem p_var {j : Nat} : wp (partM (.var j) m) Q E h = wp m (fun x h1 => wp (match x with | .int i => ret (some i) | _ => bad) Q E h1) E h := by
  show wp (bnd m _) Q E h = _
  rw [wp_bnd] <;> rfl
@[simp] theorem p_neg {a : MI.E} : wp (partM (.neg a) m) Q E h = wp m (fun x h1 => wp (match x with | .int i => ret (some i) | _ => bad) Q E h1) E h := by
  show wp (bnd m _) Q E h = _
  rw [wp_bnd] <;> rfl
@[simp] theorem slc_tup {Q : Sum W O → AH → Prop} {ws : List W} {l u : Option Int} : wp (rdO fun h => slcH h l u (.tup ws)) Q E h = Q (.inl (.tup (cutL ws l u))) h := by first | rfl | (unfold wp; rfl)
theorem slc_lst {Q : Sum W O → AH → Prop} {ws : List W} {l u : Option Int} {n : Nat} (e : lstAt h n = some ws) : wp (rdO fun h => slcH h l u (.loc n)) Q E h = Q (.inr (.lst (cutL ws l u))) h := wp_rd (by unfold slcH; dsimp only; rw [e])
end
@[simp] theorem cut1 {a : W} {r : List W} : cutL (a :: r) (some 1) none = r := by
  have := cutL_from (xs := a :: r) (i := 1) (by rw [List.length_cons]; omega)
  exact this
/-! ### walked things -/
/-- a comprehension whose parts give what f says, nothing changed -/
theorem compN_pure {test : Env → Mo Bool} {elt : Env → Mo W} {t : TN} {s : Env} {h : AH} {J : It} {ws : List W} {f : W → W} (hJ : ∀ i, J.item h i = some ws[i]?) (hs : ∀ w ∈ ws, ∃ s', bindT h t w s = some s' ∧ test s' h = .ok true h ∧ elt s' h = .ok (f w) h) (hl : ws.length ≤ LN) :
    ∀ (m i : Nat) (acc : List W), acc.length = i → ws.length + 1 ≤ m + i → i ≤ ws.length → compN test elt t J m i acc s h = .ok (acc ++ (ws.drop i).map f) h
  | 0, i, acc, h1, h2, h3 => by omega
  | m + 1, i, acc, h1, h2, h3 => by
    unfold compN bnd rdO
    dsimp only
    rw [hJ i]
    dsimp only
    cases ew : ws[i]? with
    | none =>
      have : ws.length ≤ i := List.getElem?_eq_none_iff.mp ew
      rw [List.drop_eq_nil_of_le this, List.map_nil, List.append_nil]
      rfl
    | some w =>
      have hi : i < ws.length := (List.getElem?_eq_some_iff.mp ew).1
      obtain ⟨s', q1, q2, q3⟩ := hs w (List.mem_of_getElem? ew)
      dsimp only
      rw [q1]
      dsimp only
      rw [q2]
      dsimp only
      rw [q3]
      dsimp only
      rw [if_pos (by omega), compN_pure hJ hs hl m (i + 1) (acc ++ [f w]) (by rw [List.length_append, h1]; rfl) (by omega) (by omega)]
      have : ws.drop i = w :: ws.drop (i + 1) := by
        rw [List.drop_eq_getElem_cons hi]
        congr 1
        have := List.getElem?_eq_getElem hi
        rw [this] at ew
        exact Option.some.inj ew
      rw [this, List.map_cons, List.append_assoc]
      rfl
/-- a comprehension whose parts may change things: P holds at each turn -/
theorem compN_inv {test : Env → Mo Bool} {elt : Env → Mo W} {t : TN} {s : Env} {J : It} {ws : List W} {P : Nat → List W → AH → Prop} {E : Nm → AH → Prop} (hJ : ∀ i acc h, P i acc h → J.item h i = some ws[i]?)
    (step : ∀ i acc h w, P i acc h → ws[i]? = some w → acc.length < LN ∧ ∃ s', bindT h t w s = some s' ∧ wp (test s') (fun b h1 => if b = true then wp (elt s') (fun y h2 => P (i + 1) (acc ++ [y]) h2) E h1 else P (i + 1) acc h1) E h) :
    ∀ (m i : Nat) (acc : List W) (h : AH), ws.length + 1 ≤ m + i → i ≤ ws.length → P i acc h → wp (compN test elt t J m i acc s) (fun acc h => P ws.length acc h) E h
  | 0, i, acc, h, h2, h3, p => by omega
  | m + 1, i, acc, h, h2, h3, p => by
    unfold compN
    rw [wp_bnd, wp_rd (hJ i acc h p)]
    cases ew : ws[i]? with
    | none =>
      have : ws.length ≤ i := List.getElem?_eq_none_iff.mp ew
      have : i = ws.length := by omega
      subst this
      unfold wp
      exact p
    | some w =>
      have hi : i < ws.length := (List.getElem?_eq_some_iff.mp ew).1
      obtain ⟨l, s', q1, q2⟩ := step i acc h w p ew
      dsimp only
      rw [wp_bnd, wp_rd q1, wp_bnd]
      refine wp_mono q2 (fun b h1 z => ?_) fun _ _ z => z
      cases b with
      | true =>
        rw [if_pos rfl] at z
        dsimp only
        rw [wp_bnd]
        refine wp_mono z (fun y h2 z => ?_) fun _ _ z => z
        rw [if_pos l]
        exact compN_inv hJ step m (i + 1) _ h2 (by omega) (by omega) z
      | false =>
        rw [if_neg (by decide)] at z
        exact compN_inv hJ step m (i + 1) acc h1 (by omega) (by omega) z
/-- a for loop: P holds at each turn -/
theorem forN_inv {body : Env → Mo Fl} {t : TN} {J : It} {ws : List W} {P : Nat → Env → AH → Prop} {Q : Fl → AH → Prop} {E : Nm → AH → Prop} (hJ : ∀ i s h, P i s h → J.item h i = some ws[i]?)
    (step : ∀ i s h w, P i s h → ws[i]? = some w → ∃ s', bindT h t w s = some s' ∧ wp (body s') (fun o h1 => match o with
      | .nx s2 => P (i + 1) s2 h1
      | .ct s2 => P (i + 1) s2 h1
      | .bk s2 => Q (.nx s2) h1
      | .rt w => Q (.rt w) h1
      | .xn c s2 => Q (.xn c s2) h1) E h) (fin : ∀ s h, P ws.length s h → Q (.nx s) h) :
    ∀ (m i : Nat) (s : Env) (h : AH), ws.length + 1 ≤ m + i → i ≤ ws.length → P i s h → wp (forN body t J m i s) Q E h
  | 0, i, s, h, h2, h3, p => by omega
  | m + 1, i, s, h, h2, h3, p => by
    unfold forN
    rw [wp_bnd, wp_rd (hJ i s h p)]
    cases ew : ws[i]? with
    | none =>
      have : ws.length ≤ i := List.getElem?_eq_none_iff.mp ew
      have : i = ws.length := by omega
      subst this
      unfold wp
      exact fin s h p
    | some w =>
      have hi : i < ws.length := (List.getElem?_eq_some_iff.mp ew).1
      obtain ⟨s', q1, q2⟩ := step i s h w p ew
      dsimp only
      rw [wp_bnd, wp_rd q1, wp_bnd]
      refine wp_mono q2 (fun o h1 z => ?_) fun _ _ z => z
      cases o with
      | nx s2 => exact forN_inv hJ step fin m (i + 1) s2 h1 (by omega) (by omega) z
      | ct s2 => exact forN_inv hJ step fin m (i + 1) s2 h1 (by omega) (by omega) z
      | bk s2 => unfold wp; exact z
      | rt w => unfold wp; exact z
      | xn c s2 => unfold wp; exact z
/-- a while loop: a measure falls -/
theorem whileN_inv {test : Env → Mo Bool} {body : Env → Mo Fl} {P : Nat → Env → AH → Prop} {Q : Fl → AH → Prop} {E : Nm → AH → Prop}
    (step : ∀ k s h, P k s h → wp (test s) (fun b h1 => if b = true then wp (body s) (fun o h2 => match o with
      | .nx s2 => ∃ k', k' < k ∧ P k' s2 h2
      | .ct s2 => ∃ k', k' < k ∧ P k' s2 h2
      | .bk s2 => Q (.nx s2) h2
      | .rt w => Q (.rt w) h2
      | .xn c s2 => Q (.xn c s2) h2) E h1 else Q (.nx s) h1) (fun x h' => Q (.xn x s) h') h) :
    ∀ (m k : Nat) (s : Env) (h : AH), k < m → P k s h → wp (whileN test body m s) Q E h
  | 0, k, s, h, h2, p => by omega
  | m + 1, k, s, h, h2, p => by
    unfold whileN
    rw [wp_eb]
    refine wp_mono (step k s h p) (fun b h1 z => ?_) fun _ _ z => z
    cases b with
    | false => rw [if_neg (by decide)] at z; unfold wp; exact z
    | true =>
      rw [if_pos rfl] at z
      show wp (bnd (body s) _) Q E h1
      rw [wp_bnd]
      refine wp_mono z (fun o h3 z => ?_) fun _ _ z => z
      cases o with
      | nx s2 => obtain ⟨k', l, p⟩ := z; exact whileN_inv step m k' s2 h3 (by omega) p
      | ct s2 => obtain ⟨k', l, p⟩ := z; exact whileN_inv step m k' s2 h3 (by omega) p
      | bk s2 => unfold wp; exact z
      | rt w => unfold wp; exact z
      | xn c s2 => unfold wp; exact z
end MI
/-! MI21: texts of values. -/
namespace MI
open PySem
/-- all signs are signs -/
def okT (x : PySem.Str) : Prop := okS x.cps.toList = true
theorem okT_app {x y : PySem.Str} (a : okT x) (b : okT y) : okT (x ++ y) := by
  have e : (x ++ y).cps.toList = x.cps.toList ++ y.cps.toList := Array.toList_append
  unfold okT at *
  rw [e]
  exact okS_app a b
theorem okT_of (s : String) : okT (PySem.Str.ofString s) := by
  unfold okT okS
  rw [PySem.Str.ofString_eq_toList]
  show (s.toList.map Char.toNat).all _ = true
  rw [List.all_eq_true]
  intro c hc
  obtain ⟨ch, _, e⟩ := List.mem_map.mp hc
  rw [decide_eq_true_eq, ← e]
  have := ch.valid
  rcases this with h | ⟨_, h⟩
  · have : ch.toNat < 55296 := h
    omega
  · exact h
theorem okT_join {sep : PySem.Str} (hs : okT sep) : ∀ {l : List PySem.Str}, (∀ x ∈ l, okT x) → okT (PySem.Str.join sep l)
  | [], _ => by unfold okT okS; rfl
  | [x], h => h x List.mem_cons_self
  | x :: y :: r, h => okT_app (okT_app (h x List.mem_cons_self) hs) (okT_join hs fun z hz => h z (List.mem_cons_of_mem _ hz))
theorem hex_ok {n c : Nat} : ∀ z ∈ (List.replicate n 48 ++ (Nat.toDigits 16 c).map Char.toNat), z < 1114112 := by
  intro z hz
  rcases List.mem_append.mp hz with h | h
  · rw [List.eq_of_mem_replicate h]; decide
  · obtain ⟨ch, _, e⟩ := List.mem_map.mp h
    rw [← e]
    rcases ch.valid with h | ⟨_, h⟩
    · have : ch.toNat < 55296 := h
      omega
    · exact h
theorem reprChar_ok {q c : Nat} (hc : c < 1114112) : ∀ z ∈ PySem.Builtin.Str.reprChar q c, z < 1114112 := by
  intro z hz
  unfold PySem.Builtin.Str.reprChar at hz
  dsimp only at hz
  split at hz
  · simp only [List.mem_cons, List.not_mem_nil, or_false] at hz; rcases hz with e | e <;> rw [e] <;> first | decide | exact hc
  split at hz
  · simp only [List.mem_cons, List.not_mem_nil, or_false] at hz; rcases hz with e | e <;> rw [e] <;> decide
  split at hz
  · simp only [List.mem_cons, List.not_mem_nil, or_false] at hz; rcases hz with e | e <;> rw [e] <;> decide
  split at hz
  · simp only [List.mem_cons, List.not_mem_nil, or_false] at hz; rcases hz with e | e <;> rw [e] <;> decide
  split at hz
  · rw [List.mem_singleton.mp hz]; exact hc
  have two : ∀ {a b : Nat} {l : List Nat}, a < 1114112 → b < 1114112 → (∀ z ∈ l, z < 1114112) → z ∈ [a, b] ++ l → z < 1114112 := by
    intro a b l ha hb hl h
    rcases List.mem_append.mp h with h | h
    · simp only [List.mem_cons, List.not_mem_nil, or_false] at h; rcases h with e | e <;> rw [e]
      · exact ha
      · exact hb
    · exact hl z h
  split at hz
  · exact two (by decide) (by decide) hex_ok hz
  split at hz
  · exact two (by decide) (by decide) hex_ok hz
  · exact two (by decide) (by decide) hex_ok hz
theorem okT_repr {x : PySem.Str} (hx : okT x) : okT (reprText x) := by
  have hq : reprQuote x < 1114112 := by unfold reprQuote; split <;> decide
  unfold okT okS at *
  rw [List.all_eq_true] at *
  have hx' : ∀ c ∈ x.cps.toList, c < 1114112 := fun c hc => of_decide_eq_true (hx c hc)
  have fold : ∀ (l : List Nat) (acc : Array Nat), (∀ c ∈ l, c < 1114112) → (∀ c ∈ acc.toList, c < 1114112) → ∀ c ∈ (l.foldl (fun out c => out ++ (PySem.Builtin.Str.reprChar (reprQuote x) c).toArray) acc).toList, c < 1114112 := by
    intro l
    induction l with
    | nil => intro acc _ h; exact h
    | cons a r ih =>
      intro acc h1 h2
      rw [List.foldl_cons]
      refine ih _ (fun c hc => h1 c (List.mem_cons_of_mem _ hc)) fun c hc => ?_
      rw [Array.toList_append] at hc
      rcases List.mem_append.mp hc with z | z
      · exact h2 c z
      · exact reprChar_ok (h1 a List.mem_cons_self) c z
  intro c hc
  rw [decide_eq_true_eq]
  unfold reprText at hc
  dsimp only at hc
  rw [Array.toList_push, ← Array.foldl_toList] at hc
  rcases List.mem_append.mp hc with z | z
  · exact fold _ _ hx' (fun c hc => by
      have : c = reprQuote x := by simpa using hc
      rw [this]; exact hq) c z
  · rw [List.mem_singleton.mp z]; exact hq
/-! ### small values -/
mutual
def W.sml : W → Bool
  | .non => true
  | .bl _ => true
  | .int i => decide (i.natAbs < 10 ^ 12)
  | .str s => okS s
  | .tup xs => smls xs
  | _ => false
def smls : List W → Bool
  | [] => true
  | x :: r => x.sml && smls r
end
mutual
def W.wt : W → Nat
  | .int _ => 41
  | .str s => s.length
  | .tup xs => wts xs
  | _ => 0
def wts : List W → Nat
  | [] => 0
  | x :: r => x.wt + 1 + wts r
end
mutual
theorem sml_gr : ∀ w : W, w.sml = true → w.gr = true
  | .non, _ => rfl
  | .bl _, _ => rfl
  | .int _, _ => rfl
  | .str _, _ => rfl
  | .tup xs, h => by unfold W.gr; exact smls_gr xs (by unfold W.sml at h; exact h)
  | .loc _, h => by unfold W.sml at h; cases h
  | .gl _, h => by unfold W.sml at h; cases h
theorem smls_gr : ∀ ws : List W, smls ws = true → grs ws = true
  | [], _ => rfl
  | x :: r, h => by
    unfold smls at h
    rw [Bool.and_eq_true] at h
    unfold grs
    rw [sml_gr x h.1, smls_gr r h.2]
    rfl
end
theorem int_log {i : Int} (h : i.natAbs < 10 ^ 12) : i.natAbs.log2 < 40 := by
  by_cases c : i.natAbs = 0
  · rw [c]; decide
  · exact (Nat.log2_lt c).mpr (Nat.lt_trans h (by decide))
mutual
theorem sml_D : ∀ w : W, w.sml = true → w.toD.leavesShort 13 = true ∧ w.toD.showable = true ∧ okT w.toD.shown ∧ w.toD.weight ≤ w.wt
  | .non, _ => ⟨rfl, rfl, by show okT (PyData.none).shown; rw [PyData.shown_none]; exact okT_of "None", Nat.le_refl _⟩
  | .bl b, _ => ⟨rfl, rfl, by show okT (PyData.bool b).shown; rw [PyData.shown_bool]; cases b <;> exact okT_of _, Nat.le_refl _⟩
  | .int i, h => by
    have h : i.natAbs < 10 ^ 12 := by unfold W.sml at h; exact of_decide_eq_true h
    have hl := int_log h
    refine ⟨?_, ?_, ?_, ?_⟩
    · show decide ((PyData.int i).shown.length ≤ 13) = true
      exact decide_eq_true (PyData.shown_int_le h)
    · show PyData.showable (.int i) = true
      unfold PyData.showable
      exact decide_eq_true (by omega)
    · show okT (PyData.int i).shown
      rw [PyData.shown_int]
      exact okT_of _
    · show PyData.weight (.int i) ≤ 41
      unfold PyData.weight
      split <;> omega
  | .str s, h => by
    have h : okS s = true := by unfold W.sml at h; exact h
    refine ⟨?_, rfl, ?_, ?_⟩
    · show (st_ s).cps.toList.all (fun c => decide (c < 16 ^ 8)) = true
      unfold okS at h
      rw [List.all_eq_true] at *
      intro c hc
      have := of_decide_eq_true (h c hc)
      exact decide_eq_true (Nat.lt_trans this (by decide))
    · show okT (PyData.str (st_ s)).shown
      rw [PyData.shown_str]
      exact okT_repr h
    · show (st_ s).cps.size ≤ s.length
      exact Nat.le_of_eq List.size_toArray
  | .tup xs, h => by
    obtain ⟨h1, h2, h3, h4⟩ := smls_D xs (by unfold W.sml at h; exact h)
    refine ⟨h1, h2, ?_, h4⟩
    show okT (PyData.tuple (toDs xs)).shown
    rw [PyData.shown_tuple]
    refine okT_app (okT_app (okT_of "(") (okT_join (okT_of ", ") h3)) ?_
    split <;> exact okT_of _
  | .loc _, h => by unfold W.sml at h; cases h
  | .gl _, h => by unfold W.sml at h; cases h
theorem smls_D : ∀ ws : List W, smls ws = true → PyData.leavesShortAll 13 (toDs ws) = true ∧ PyData.showableAll (toDs ws) = true ∧ (∀ x ∈ PyData.shownAll (toDs ws), okT x) ∧ PyData.weightAll (toDs ws) ≤ wts ws
  | [], _ => ⟨rfl, rfl, (fun x (hx : x ∈ PyData.shownAll (toDs [])) => by
      have : PyData.shownAll (toDs []) = [] := PyData.shownAll_nil
      rw [this] at hx; cases hx), Nat.le_refl _⟩
  | w :: r, h => by
    unfold smls at h
    rw [Bool.and_eq_true] at h
    obtain ⟨a1, a2, a3, a4⟩ := sml_D w h.1
    obtain ⟨b1, b2, b3, b4⟩ := smls_D r h.2
    refine ⟨?_, ?_, fun x hx => ?_, ?_⟩
    · show (PyData.leavesShort 13 w.toD && PyData.leavesShortAll 13 (toDs r)) = true
      rw [a1, b1]; rfl
    · show (PyData.showable w.toD && PyData.showableAll (toDs r)) = true
      rw [a2, b2]; rfl
    · have : PyData.shownAll (toDs (w :: r)) = w.toD.shown :: PyData.shownAll (toDs r) := PyData.shownAll_cons _ _
      rw [this] at hx
      rcases List.mem_cons.mp hx with e | e
      · rw [e]; exact a3
      · exact b3 x e
    · show w.toD.weight + 1 + PyData.weightAll (toDs r) ≤ w.wt + 1 + wts r
      omega
end
/-- the signs of a value's text -/
def rp (w : W) : List Nat := w.toD.shown.cps.toList
structure Shw (w : W) : Prop where
  s : w.sml = true
  d : w.dp ≤ 60
  w : w.wt ≤ 2 ^ 20
theorem LN_sz : (LN : Nat) = sizeLine := by rw [sizeLine_eq]
theorem reprD_of {w : W} (s : Shw w) : reprD w.toD = some (.inl (.str (rp w))) := by
  obtain ⟨h1, h2, h3, h4⟩ := sml_D w s.s
  unfold reprD
  rw [if_pos]
  · rfl
  · refine ⟨h2, ?_, ?_, h3⟩
    · rw [depth_toD]; exact s.d
    · rw [LN_sz]
      exact PyData.shown_fits (by decide) (by decide) h1 (Nat.le_trans h4 s.w)
theorem bi_repr_ {Q : Sum W O → AH → Prop} {E : Nm → AH → Prop} {h : AH} {w : W} (s : Shw w) : wp (rdO fun h => biH h .repr [w]) Q E h = Q (.inl (.str (rp w))) h := wp_rd (by
  have hg := sml_gr w s.s
  have e : biH h .repr [w] = if w.gr then reprD w.toD else none := by
    cases w with
    | loc n => have := s.s; unfold W.sml at this; cases this
    | _ => rfl
  rw [e, if_pos hg, reprD_of s])
/-- a list's text -/
def rpL (ws : List W) : List Nat := (PyData.list (toDs ws)).shown.cps.toList
structure ShwL (ws : List W) : Prop where
  s : smls ws = true
  d : dps ws ≤ 59
  w : wts ws ≤ 2 ^ 20
theorem bi_reprL_ {Q : Sum W O → AH → Prop} {E : Nm → AH → Prop} {h : AH} {p : Nat} {ws : List W} (e : lstAt h p = some ws) (s : ShwL ws) : wp (rdO fun h => biH h .repr [.loc p]) Q E h = Q (.inl (.str (rpL ws))) h := wp_rd (by
  unfold biH
  dsimp only
  rw [e]
  dsimp only
  rw [if_pos (smls_gr ws s.s)]
  obtain ⟨h1, h2, h3, h4⟩ := smls_D ws s.s
  unfold reprD
  rw [if_pos]
  · rfl
  · refine ⟨h2, ?_, ?_, ?_⟩
    · show PyData.depthAll (toDs ws) + 1 ≤ 60
      rw [depths_toD]; have := s.d; omega
    · rw [LN_sz]
      exact PyData.shown_fits (d := .list (toDs ws)) (by decide) (by decide) h1 (Nat.le_trans h4 s.w)
    · show okT (PyData.list (toDs ws)).shown
      rw [PyData.shown_list]
      exact okT_app (okT_app (okT_of "[") (okT_join (okT_of ", ") h3)) (okT_of "]"))
end MI
set_option maxHeartbeats 0
namespace HK
open PySem PySem.Spec PyProof.Rows L2 MI
def top (i : Nat) : Stmt := PySem.Challenge.pw_askthrough_k52_wanted_told.main.body.getD i (.Pass ⟨0, 0, 0, 0⟩)
def mk (nm : Nm) (N ps : List Nm) (ir : Ss) : Stmt → Dd
  | .FunctionDef n a b _ _ _ sc _ _ _ => ⟨nm, n, a, b, sc, N, ps, ir⟩
  | _ => ⟨nm, nm, ⟨[], [], none, [], [], none, []⟩, [], ⟨.function, [], false, false, []⟩, N, ps, ir⟩
def ir_is_name : Ss :=
    (.cons (.if_ (.or_ (.nt (.isi (.var 0) ["str"])) (.or_ (.nt (.chn .le .le (.int 1) (.bi .len (.cons (.var 0) .nil)) (.gl "MOST_LETTERS"))) (.cmp .in_ (.var 0) (.gl "KEPT")))) (.cons (.ret (.bl false))
    .nil) .nil)
    (.cons (.ret (.bi .all (.cons (.comp (.cmp .in_ (.var 1) (.gl "LETTERS")) (.one 1) (.val (.var 0)) .nil [1]) .nil)))
    .nil))
def ir_is_number_terms : Ss :=
    (.cons (.ret (.and_ (.isi (.var 0) ["int"]) (.and_ (.nt (.isi (.var 0) ["bool"])) (.chn .le .le (.var 1) (.var 0) (.var 2)))))
    .nil)
def ir_is_slot : Ss :=
    (.cons (.ret (.and_ (.isi (.var 0) ["int"]) (.and_ (.nt (.isi (.var 0) ["bool"])) (.cmp .ge (.var 0) (.int 0)))))
    .nil)
def ir_is_cell : Ss :=
    (.cons (.ret (.or_ (.call "is_name" (.cons (.var 0) .nil)) (.call "is_slot" (.cons (.var 0) .nil))))
    .nil)
def ir_has_form : Ss :=
    (.cons (.if_ (.or_ (.cmp .eq (.var 3) (.int 0)) (.or_ (.nt (.isi (.var 0) ["tuple"])) (.or_ (.cmp .nin (.bi .len (.cons (.var 0) .nil)) (.tup (.cons (.int 2) (.cons (.int 3) .nil)))) (.nt (.isi (.idx (.var 0) (.int 0)) ["str"]))))) (.cons (.ret (.bl false))
    .nil) .nil)
    (.cons (.if_ (.cmp .eq (.bi .len (.cons (.var 0) .nil)) (.int 2)) (.cons (.if_ (.cmp .eq (.idx (.var 0) (.int 0)) (.str [110, 117, 109, 98, 101, 114])) (.cons (.ret (.call "is_number_terms" (.cons (.idx (.var 0) (.int 1)) (.cons (.int 0) (.cons (.var 1) .nil)))))
    .nil) .nil)
    (.cons (.ret (.and_ (.cmp .eq (.idx (.var 0) (.int 0)) (.str [97, 116])) (.and_ (.call "is_cell" (.cons (.idx (.var 0) (.int 1)) .nil)) (.cmp .in_ (.idx (.var 0) (.int 1)) (.var 2)))))
    .nil)) .nil)
    (.cons (.if_ (.cmp .nin (.idx (.var 0) (.int 0)) (.gl "WORDS")) (.cons (.ret (.bl false))
    .nil) .nil)
    (.cons (.ret (.and_ (.call "has_form" (.cons (.idx (.var 0) (.int 1)) (.cons (.var 1) (.cons (.var 2) (.cons (.bin .sub (.var 3) (.int 1)) .nil))))) (.call "has_form" (.cons (.idx (.var 0) (.int 2)) (.cons (.var 1) (.cons (.var 2) (.cons (.bin .sub (.var 3) (.int 1)) .nil)))))))
    .nil))))
def ir_cells_with : Ss :=
    (.cons (.if_ (.cmp .eq (.idx (.var 0) (.int 0)) (.str [97, 116])) (.cons (.asgI (.var 1) (.idx (.var 0) (.int 1)) (.bl true))
    .nil) (.cons (.if_ (.cmp .ne (.idx (.var 0) (.int 0)) (.str [110, 117, 109, 98, 101, 114])) (.cons (.expr (.call "cells_with" (.cons (.idx (.var 0) (.int 1)) (.cons (.var 1) .nil))))
    (.cons (.expr (.call "cells_with" (.cons (.idx (.var 0) (.int 2)) (.cons (.var 1) .nil))))
    .nil)) .nil)
    .nil))
    (.cons (.ret (.var 1))
    .nil))
def ir_are_alike_cells : Ss :=
    (.cons (.ret (.or_ (.bi .all (.cons (.comp (.isi (.var 1) ["str"]) (.one 1) (.val (.var 0)) .nil [1]) .nil)) (.nt (.bi .any (.cons (.comp (.isi (.var 1) ["str"]) (.one 1) (.val (.var 0)) .nil [1]) .nil)))))
    .nil)
def ir_is_reckoning : Ss :=
    (.cons (.ret (.and_ (.call "has_form" (.cons (.var 0) (.cons (.var 1) (.cons (.var 2) (.cons (.gl "MOST_WITHIN") .nil))))) (.call "are_alike_cells" (.cons (.call "cells_with" (.cons (.var 0) (.cons (.dct .nil) .nil))) .nil))))
    .nil)
def ir_cells_in : Ss :=
    (.cons (.ret (.bi .tuple (.cons (.bi .sorted (.cons (.call "cells_with" (.cons (.var 0) (.cons (.dct .nil) .nil))) .nil)) .nil)))
    .nil)
def ir_is_number_runs : Ss :=
    (.cons (.ret (.and_ (.isi (.var 0) ["int"]) (.and_ (.nt (.isi (.var 0) ["bool"])) (.chn .le .le (.var 1) (.var 0) (.var 2)))))
    .nil)
def ir_is_tuple_of : Ss :=
    (.cons (.ret (.and_ (.isi (.var 0) ["tuple"]) (.chn .le .le (.var 1) (.bi .len (.cons (.var 0) .nil)) (.var 2))))
    .nil)
def ir_is_flat_row : Ss :=
    (.cons (.asg (.many [5, 6, 7]) (.var 2))
    (.cons (.asg (.one 3) (.bi .listr (.cons (.var 6) .nil)))
    (.cons (.asg (.one 4) (.slc (.var 0) (.int 1) .non))
    (.cons (.if_ (.cmp .eq (.idx (.var 0) (.int 0)) (.str [115, 101, 116])) (.cons (.ret (.and_ (.cmp .eq (.bi .len (.cons (.var 4) .nil)) (.int 2)) (.and_ (.call "is_number_runs" (.cons (.idx (.var 4) (.int 0)) (.cons (.int 0) (.cons (.bin .sub (.var 6) (.int 1)) .nil)))) (.call "is_reckoning" (.cons (.idx (.var 4) (.int 1)) (.cons (.var 5) (.cons (.var 3) .nil)))))))
    .nil) .nil)
    (.cons (.if_ (.cmp .eq (.idx (.var 0) (.int 0)) (.str [97, 115, 107])) (.cons (.ret (.and_ (.cmp .eq (.bi .len (.cons (.var 4) .nil)) (.int 1)) (.call "is_number_runs" (.cons (.idx (.var 4) (.int 0)) (.cons (.int 0) (.cons (.bin .sub (.var 6) (.int 1)) .nil))))))
    .nil) .nil)
    (.cons (.if_ (.cmp .eq (.idx (.var 0) (.int 0)) (.str [116, 101, 108, 108])) (.cons (.ret (.and_ (.cmp .eq (.bi .len (.cons (.var 4) .nil)) (.int 1)) (.call "is_reckoning" (.cons (.idx (.var 4) (.int 0)) (.cons (.var 5) (.cons (.var 3) .nil))))))
    .nil) .nil)
    (.cons (.if_ (.cmp .eq (.idx (.var 0) (.int 0)) (.str [103, 111])) (.cons (.ret (.and_ (.cmp .eq (.bi .len (.cons (.var 4) .nil)) (.int 1)) (.call "is_number_runs" (.cons (.idx (.var 4) (.int 0)) (.cons (.int 0) (.cons (.bin .sub (.bi .len (.cons (.var 7) .nil)) (.int 1)) .nil))))))
    .nil) .nil)
    (.cons (.if_ (.cmp .eq (.idx (.var 0) (.int 0)) (.str [101, 110, 100])) (.cons (.ret (.cmp .eq (.var 4) (.tup .nil)))
    .nil) .nil)
    (.cons (.if_ (.or_ (.cmp .ne (.idx (.var 0) (.int 0)) (.str [105, 102])) (.or_ (.cmp .ne (.bi .len (.cons (.var 4) .nil)) (.int 2)) (.nt (.call "is_reckoning" (.cons (.idx (.var 4) (.int 0)) (.cons (.var 5) (.cons (.var 3) .nil))))))) (.cons (.ret (.bl false))
    .nil) .nil)
    (.cons (.ret (.and_ (.call "is_number_runs" (.cons (.idx (.var 4) (.int 1)) (.cons (.int 0) (.cons (.bin .sub (.bi .len (.cons (.var 7) .nil)) (.int 1)) .nil)))) (.cmp .ne (.idx (.var 4) (.int 1)) (.bin .add (.var 1) (.int 1)))))
    .nil))))))))))
def ir_is_flat : Ss :=
    (.cons (.if_ (.or_ (.nt (.call "is_tuple_of" (.cons (.var 0) (.cons (.int 3) (.cons (.int 3) .nil))))) (.or_ (.nt (.call "is_number_runs" (.cons (.idx (.var 0) (.int 0)) (.cons (.int 1) (.cons (.gl "MOST_TOP") .nil))))) (.nt (.call "is_number_runs" (.cons (.idx (.var 0) (.int 1)) (.cons (.int 1) (.cons (.gl "MOST_SLOTS") .nil))))))) (.cons (.ret (.bl false))
    .nil) .nil)
    (.cons (.if_ (.nt (.call "is_tuple_of" (.cons (.idx (.var 0) (.int 2)) (.cons (.int 1) (.cons (.gl "MOST_ROWS") .nil))))) (.cons (.ret (.bl false))
    .nil) .nil)
    (.cons (.if_ (.nt (.bi .all (.cons (.comp (.and_ (.call "is_tuple_of" (.cons (.var 1) (.cons (.int 1) (.cons (.int 3) .nil)))) (.isi (.idx (.var 1) (.int 0)) ["str"])) (.one 1) (.val (.idx (.var 0) (.int 2))) .nil [1]) .nil))) (.cons (.ret (.bl false))
    .nil) .nil)
    (.cons (.if_ (.cmp .nin (.idx (.idx (.idx (.var 0) (.int 2)) (.neg (.int 1))) (.int 0)) (.gl "LAST_WORDS")) (.cons (.ret (.bl false))
    .nil) .nil)
    (.cons (.ret (.bi .all (.cons (.comp (.call "is_flat_row" (.cons (.var 1) (.cons (.var 2) (.cons (.var 0) .nil)))) (.many [2, 1]) (.enu (.idx (.var 0) (.int 2))) .nil [2, 1]) .nil)))
    .nil)))))
def ir_need_flat : Ss :=
    (.cons (.if_ (.nt (.call "is_flat" (.cons (.var 0) .nil))) (.cons (.raise_ "NoFlat")
    .nil) .nil)
    .nil)
def ir_ways_of : Ss :=
    (.cons (.asg (.one 2) (.idx (.idx (.var 0) (.int 2)) (.var 1)))
    (.cons (.if_ (.cmp .eq (.idx (.var 2) (.int 0)) (.str [101, 110, 100])) (.cons (.ret (.tup .nil))
    .nil) .nil)
    (.cons (.if_ (.cmp .eq (.idx (.var 2) (.int 0)) (.str [103, 111])) (.cons (.ret (.tup (.cons (.idx (.var 2) (.int 1)) .nil)))
    .nil) .nil)
    (.cons (.if_ (.cmp .eq (.idx (.var 2) (.int 0)) (.str [105, 102])) (.cons (.ret (.tup (.cons (.idx (.var 2) (.int 2)) (.cons (.bin .add (.var 1) (.int 1)) .nil))))
    .nil) .nil)
    (.cons (.ret (.tup (.cons (.bin .add (.var 1) (.int 1)) .nil)))
    .nil)))))
def ir_written_by : Ss :=
    (.cons (.ret (.ite (.cmp .in_ (.idx (.var 0) (.int 0)) (.tup (.cons (.str [115, 101, 116]) (.cons (.str [97, 115, 107]) .nil)))) (.idx (.var 0) (.int 1)) .non))
    .nil)
def ir_asked_by : Ss :=
    (.cons (.if_ (.cmp .eq (.idx (.var 0) (.int 0)) (.str [115, 101, 116])) (.cons (.ret (.call "cells_in" (.cons (.idx (.var 0) (.int 2)) .nil)))
    .nil) .nil)
    (.cons (.if_ (.cmp .in_ (.idx (.var 0) (.int 0)) (.tup (.cons (.str [116, 101, 108, 108]) (.cons (.str [105, 102]) .nil)))) (.cons (.ret (.call "cells_in" (.cons (.idx (.var 0) (.int 1)) .nil)))
    .nil) .nil)
    (.cons (.ret (.tup .nil))
    .nil)))
def ir_wanted_ahead : Ss :=
    (.cons (.asg (.one 2) (.comp (.var 3) (.one 3) (.val (.var 1)) (.cons (.cmp .ne (.var 3) (.call "written_by" (.cons (.var 0) .nil))) .nil) [3]))
    (.cons (.ret (.bi .tuple (.cons (.bi .sset (.cons (.bin .add (.var 2) (.bi .list (.cons (.call "asked_by" (.cons (.var 0) .nil)) .nil))) .nil)) .nil)))
    .nil))
def ir_wanted_behind : Ss :=
    (.cons (.asg (.one 3) (.lst .nil))
    (.cons (.for_ (.one 4) (.val (.call "ways_of" (.cons (.var 0) (.cons (.var 1) .nil)))) (.cons (.aug 3 .add (.idx (.var 2) (.var 4)))
    .nil))
    (.cons (.ret (.var 3))
    .nil)))
def ir_wanted_at : Ss :=
    (.cons (.expr (.call "need_flat" (.cons (.var 0) .nil)))
    (.cons (.asg (.one 1) (.comp (.tup .nil) (.one 4) (.val (.idx (.var 0) (.int 2))) .nil [4]))
    (.cons (.asg (.one 2) (.bl true))
    (.cons (.while_ (.var 2) (.cons (.asg (.one 2) (.bl false))
    (.cons (.for_ (.one 3) (.rev (.bi .len (.cons (.var 1) .nil))) (.cons (.asg (.one 5) (.call "wanted_ahead" (.cons (.idx (.idx (.var 0) (.int 2)) (.var 3)) (.cons (.call "wanted_behind" (.cons (.var 0) (.cons (.var 3) (.cons (.var 1) .nil)))) .nil))))
    (.cons (.asg (.one 2) (.or_ (.var 2) (.cmp .ne (.var 5) (.idx (.var 1) (.var 3)))))
    (.cons (.asgI (.var 1) (.var 3) (.var 5))
    .nil))))
    .nil)))
    (.cons (.ret (.bi .tuple (.cons (.var 1) .nil)))
    .nil)))))
def ir_law_begun : Ss :=
    (.cons (.asg (.one 1) (.comp (.bi .abs (.cons (.var 2) .nil)) (.one 2) (.val (.var 0)) .nil [2]))
    (.cons (.ret (.dct (.cons (.str [103, 114, 101, 97, 116]) (.cons (.comp (.var 2) (.one 2) (.val (.var 1)) (.cons (.cmp .ge (.var 2) (.bin .pow (.int 10) (.int 18))) .nil) [2]) (.cons (.str [99, 101, 108, 108, 115]) (.cons (.var 1) (.cons (.str [114, 101, 115, 116]) (.cons (.int 0) (.cons (.str [116, 117, 114, 110]) (.cons (.int 0) (.cons (.str [109, 111, 114, 101]) (.cons (.int 7) .nil))))))))))))
    .nil))
def ir_law_take : Ss :=
    (.cons (.while_ (.and_ (.cmp .eq (.idx (.var 0) (.str [114, 101, 115, 116])) (.int 0)) (.cmp .ne (.idx (.var 0) (.str [103, 114, 101, 97, 116])) (.lst .nil))) (.cons (.asgI (.var 0) (.str [114, 101, 115, 116]) (.me .pop (.idx (.var 0) (.str [103, 114, 101, 97, 116])) (.cons (.int 0) .nil)))
    .nil))
    (.cons (.if_ (.cmp .gt (.idx (.var 0) (.str [114, 101, 115, 116])) (.int 0)) (.cons (.asg (.one 4) (.bin .mod (.idx (.var 0) (.str [114, 101, 115, 116])) (.var 1)))
    (.cons (.asgI (.var 0) (.str [114, 101, 115, 116]) (.bin .fdiv (.idx (.var 0) (.str [114, 101, 115, 116])) (.var 1)))
    (.cons (.ret (.var 4))
    .nil))) .nil)
    (.cons (.asg (.one 2) (.int 0))
    (.cons (.if_ (.cmp .ne (.idx (.var 0) (.str [99, 101, 108, 108, 115])) (.lst .nil)) (.cons (.asg (.one 2) (.idx (.idx (.var 0) (.str [99, 101, 108, 108, 115])) (.bin .mod (.idx (.var 0) (.str [116, 117, 114, 110])) (.bi .len (.cons (.idx (.var 0) (.str [99, 101, 108, 108, 115])) .nil)))))
    .nil) .nil)
    (.cons (.asgI (.var 0) (.str [116, 117, 114, 110]) (.bin .add (.idx (.var 0) (.str [116, 117, 114, 110])) (.int 1)))
    (.cons (.asgI (.var 0) (.str [109, 111, 114, 101]) (.bin .mod (.bin .add (.bin .add (.bin .mul (.idx (.var 0) (.str [109, 111, 114, 101])) (.int 48271)) (.var 2)) (.bin .mul (.int 7919) (.idx (.var 0) (.str [116, 117, 114, 110])))) (.int 2147483647)))
    (.cons (.asg (.one 3) (.bin .mod (.bin .add (.bin .add (.bin .mul (.idx (.var 0) (.str [109, 111, 114, 101])) (.idx (.var 0) (.str [109, 111, 114, 101]))) (.bin .mul (.int 16807) (.idx (.var 0) (.str [109, 111, 114, 101])))) (.int 11)) (.int 2147483629)))
    (.cons (.ret (.bin .mod (.bin .fdiv (.bin .mod (.bin .mul (.var 3) (.var 3)) (.int 2147483587)) (.int 7)) (.var 1)))
    .nil))))))))
def ir_law_pick : Ss :=
    (.cons (.ret (.idx (.var 1) (.call "_law_take" (.cons (.var 0) (.cons (.bi .len (.cons (.var 1) .nil)) .nil)))))
    .nil)
def ir_law_top : Ss :=
    (.cons (.ret (.idx (.lst (.cons (.int 1) (.cons (.int 2) (.cons (.int 3) (.cons (.int 9) (.cons (.int 1) (.cons (.int 255) (.cons (.bin .pow (.int 10) (.int 9)) (.cons (.bin .add (.int 2) (.call "_law_take" (.cons (.var 0) (.cons (.int 999999) .nil)))) .nil))))))))) (.call "_law_take" (.cons (.var 0) (.cons (.int 8) .nil)))))
    .nil)
def ir_law_number : Ss :=
    (.cons (.asg (.one 2) (.call "_law_take" (.cons (.var 0) (.cons (.int 4) .nil))))
    (.cons (.if_ (.cmp .lt (.var 2) (.int 2)) (.cons (.ret (.call "_law_take" (.cons (.var 0) (.cons (.bin .add (.bi .min (.cons (.var 1) (.cons (.int 3) .nil))) (.int 1)) .nil))))
    .nil) .nil)
    (.cons (.if_ (.cmp .eq (.var 2) (.int 2)) (.cons (.ret (.bin .sub (.var 1) (.call "_law_take" (.cons (.var 0) (.cons (.bin .add (.bi .min (.cons (.var 1) (.cons (.int 2) .nil))) (.int 1)) .nil)))))
    .nil) .nil)
    (.cons (.ret (.call "_law_take" (.cons (.var 0) (.cons (.bin .add (.var 1) (.int 1)) .nil))))
    .nil))))
def ir_law_reckoning : Ss :=
    (.cons (.asg (.one 4) (.call "_law_take" (.cons (.var 0) (.cons (.int 10) .nil))))
    (.cons (.if_ (.or_ (.cmp .eq (.var 3) (.int 0)) (.cmp .lt (.var 4) (.int 6))) (.cons (.if_ (.or_ (.cmp .eq (.var 2) (.lst .nil)) (.cmp .eq (.bin .mod (.var 4) (.int 3)) (.int 0))) (.cons (.ret (.tup (.cons (.str [110, 117, 109, 98, 101, 114]) (.cons (.call "_law_number" (.cons (.var 0) (.cons (.var 1) .nil))) .nil))))
    .nil) .nil)
    (.cons (.ret (.tup (.cons (.str [97, 116]) (.cons (.call "_law_pick" (.cons (.var 0) (.cons (.var 2) .nil))) .nil))))
    .nil)) .nil)
    (.cons (.asg (.one 5) (.call "_law_pick" (.cons (.var 0) (.cons (.lst (.cons (.str [115, 117, 109]) (.cons (.str [115, 117, 109]) (.cons (.str [108, 101, 115, 115]) (.cons (.str [116, 105, 109, 101, 115]) (.cons (.str [98, 101, 108, 111, 119]) (.cons (.str [115, 97, 109, 101]) .nil))))))) .nil))))
    (.cons (.asg (.one 6) (.call "_law_reckoning" (.cons (.var 0) (.cons (.var 1) (.cons (.var 2) (.cons (.bin .sub (.var 3) (.int 1)) .nil))))))
    (.cons (.ret (.tup (.cons (.var 5) (.cons (.var 6) (.cons (.call "_law_reckoning" (.cons (.var 0) (.cons (.var 1) (.cons (.var 2) (.cons (.bin .sub (.var 3) (.int 1)) .nil))))) .nil)))))
    .nil)))))
def ir_law_flat_row : Ss :=
    (.cons (.asg (.one 5) (.bi .listr (.cons (.var 2) .nil)))
    (.cons (.asg (.one 6) (.call "_law_take" (.cons (.var 0) (.cons (.int 13) .nil))))
    (.cons (.if_ (.cmp .eq (.var 6) (.int 5)) (.cons (.ret (.tup (.cons (.str [97, 115, 107]) (.cons (.call "_law_take" (.cons (.var 0) (.cons (.var 2) .nil))) .nil))))
    .nil) .nil)
    (.cons (.if_ (.cmp .in_ (.var 6) (.tup (.cons (.int 6) (.cons (.int 7) .nil)))) (.cons (.ret (.tup (.cons (.str [116, 101, 108, 108]) (.cons (.call "_law_reckoning" (.cons (.var 0) (.cons (.var 1) (.cons (.var 5) (.cons (.int 2) .nil))))) .nil))))
    .nil) .nil)
    (.cons (.if_ (.cmp .in_ (.var 6) (.tup (.cons (.int 8) (.cons (.int 9) (.cons (.int 10) .nil))))) (.cons (.asg (.one 7) (.call "_law_take" (.cons (.var 0) (.cons (.var 4) .nil))))
    (.cons (.ret (.tup (.cons (.str [105, 102]) (.cons (.call "_law_reckoning" (.cons (.var 0) (.cons (.var 1) (.cons (.var 5) (.cons (.int 2) .nil))))) (.cons (.ite (.cmp .eq (.var 7) (.bin .add (.var 3) (.int 1))) (.var 3) (.var 7)) .nil)))))
    .nil)) .nil)
    (.cons (.if_ (.cmp .eq (.var 6) (.int 11)) (.cons (.ret (.tup (.cons (.str [103, 111]) (.cons (.call "_law_take" (.cons (.var 0) (.cons (.var 4) .nil))) .nil))))
    .nil) .nil)
    (.cons (.if_ (.and_ (.cmp .eq (.var 6) (.int 12)) (.cmp .eq (.call "_law_take" (.cons (.var 0) (.cons (.int 3) .nil))) (.int 0))) (.cons (.ret (.tup (.cons (.str [101, 110, 100]) .nil)))
    .nil) .nil)
    (.cons (.ret (.tup (.cons (.str [115, 101, 116]) (.cons (.call "_law_take" (.cons (.var 0) (.cons (.var 2) .nil))) (.cons (.call "_law_reckoning" (.cons (.var 0) (.cons (.var 1) (.cons (.var 5) (.cons (.int 2) .nil))))) .nil)))))
    .nil))))))))
def ir_law_flat : Ss :=
    (.cons (.asg (.one 3) (.call "_law_top" (.cons (.var 0) .nil)))
    (.cons (.asg (.one 4) (.bin .add (.int 1) (.call "_law_take" (.cons (.var 0) (.cons (.var 2) .nil)))))
    (.cons (.asg (.one 5) (.bin .add (.int 2) (.call "_law_take" (.cons (.var 0) (.cons (.bin .sub (.var 1) (.int 1)) .nil)))))
    (.cons (.asg (.one 6) (.comp (.call "_law_flat_row" (.cons (.var 0) (.cons (.var 3) (.cons (.var 4) (.cons (.var 7) (.cons (.var 5) .nil)))))) (.one 7) (.rng (.cons (.bin .sub (.var 5) (.int 1)) .nil)) .nil [7]))
    (.cons (.expr (.me .append (.var 6) (.cons (.ite (.cmp .gt (.call "_law_take" (.cons (.var 0) (.cons (.int 3) .nil))) (.int 0)) (.tup (.cons (.str [101, 110, 100]) .nil)) (.tup (.cons (.str [103, 111]) (.cons (.call "_law_take" (.cons (.var 0) (.cons (.var 5) .nil))) .nil)))) .nil)))
    (.cons (.ret (.tup (.cons (.var 3) (.cons (.var 4) (.cons (.bi .tuple (.cons (.var 6) .nil)) .nil)))))
    .nil))))))
def ir_law_cells : Ss :=
    (.cons (.if_ (.cmp .eq (.idx (.var 0) (.int 0)) (.str [110, 117, 109, 98, 101, 114])) (.cons (.ret (.lst .nil))
    .nil) .nil)
    (.cons (.if_ (.cmp .eq (.idx (.var 0) (.int 0)) (.str [97, 116])) (.cons (.ret (.lst (.cons (.idx (.var 0) (.int 1)) .nil)))
    .nil) .nil)
    (.cons (.asg (.one 1) (.call "_law_cells" (.cons (.idx (.var 0) (.int 1)) .nil)))
    (.cons (.ret (.bin .add (.var 1) (.comp (.var 2) (.one 2) (.val (.call "_law_cells" (.cons (.idx (.var 0) (.int 2)) .nil))) (.cons (.cmp .nin (.var 2) (.var 1)) .nil) [2])))
    .nil))))
def ir_law_asked : Ss :=
    (.cons (.if_ (.cmp .eq (.idx (.var 0) (.int 0)) (.str [115, 101, 116])) (.cons (.ret (.call "_law_cells" (.cons (.idx (.var 0) (.int 2)) .nil)))
    .nil) .nil)
    (.cons (.ret (.ite (.cmp .in_ (.idx (.var 0) (.int 0)) (.tup (.cons (.str [116, 101, 108, 108]) (.cons (.str [105, 102]) .nil)))) (.call "_law_cells" (.cons (.idx (.var 0) (.int 1)) .nil)) (.lst .nil)))
    .nil))
def ir_law_goals : Ss :=
    (.cons (.if_ (.cmp .eq (.idx (.var 0) (.int 0)) (.str [101, 110, 100])) (.cons (.ret (.lst .nil))
    .nil) .nil)
    (.cons (.if_ (.cmp .eq (.idx (.var 0) (.int 0)) (.str [103, 111])) (.cons (.ret (.lst (.cons (.idx (.var 0) (.int 1)) .nil)))
    .nil) .nil)
    (.cons (.ret (.ite (.cmp .eq (.idx (.var 0) (.int 0)) (.str [105, 102])) (.lst (.cons (.idx (.var 0) (.int 2)) (.cons (.bin .add (.var 1) (.int 1)) .nil))) (.lst (.cons (.bin .add (.var 1) (.int 1)) .nil))))
    .nil)))
def ir_law_writes : Ss :=
    (.cons (.ret (.and_ (.cmp .in_ (.idx (.var 0) (.int 0)) (.tup (.cons (.str [115, 101, 116]) (.cons (.str [97, 115, 107]) .nil)))) (.cmp .eq (.idx (.var 0) (.int 1)) (.var 1))))
    .nil)
def ir_law_wanted : Ss :=
    (.cons (.asg (.one 1) (.idx (.var 0) (.int 2)))
    (.cons (.asg (.one 2) (.comp (.lst .nil) (.one 9) (.val (.var 1)) .nil [9]))
    (.cons (.for_ (.one 3) (.rng (.cons (.bi .len (.cons (.var 1) .nil)) .nil)) (.cons (.for_ (.one 6) (.val (.call "_law_goals" (.cons (.idx (.var 1) (.var 3)) (.cons (.var 3) .nil)))) (.cons (.expr (.me .append (.idx (.var 2) (.var 6)) (.cons (.var 3) .nil)))
    .nil))
    .nil))
    (.cons (.asg (.one 4) (.comp (.lst .nil) (.one 9) (.val (.var 1)) .nil [9]))
    (.cons (.for_ (.one 5) (.rng (.cons (.idx (.var 0) (.int 1)) .nil)) (.cons (.asg (.one 7) (.comp (.var 3) (.one 3) (.rng (.cons (.bi .len (.cons (.var 1) .nil)) .nil)) (.cons (.cmp .in_ (.var 5) (.call "_law_asked" (.cons (.idx (.var 1) (.var 3)) .nil))) .nil) [3]))
    (.cons (.asg (.one 8) (.bi .dict (.cons (.comp (.tup (.cons (.var 3) (.cons (.bl true) .nil))) (.one 3) (.val (.var 7)) .nil [3]) .nil)))
    (.cons (.while_ (.cmp .ne (.var 7) (.lst .nil)) (.cons (.for_ (.one 3) (.val (.idx (.var 2) (.me .pop (.var 7) .nil))) (.cons (.if_ (.and_ (.cmp .nin (.var 3) (.var 8)) (.nt (.call "_law_writes" (.cons (.idx (.var 1) (.var 3)) (.cons (.var 5) .nil))))) (.cons (.asgI (.var 8) (.var 3) (.bl true))
    (.cons (.expr (.me .append (.var 7) (.cons (.var 3) .nil)))
    .nil)) .nil)
    .nil))
    .nil))
    (.cons (.for_ (.one 3) (.val (.bi .sorted (.cons (.var 8) .nil))) (.cons (.expr (.me .append (.idx (.var 4) (.var 3)) (.cons (.var 5) .nil)))
    .nil))
    .nil)))))
    (.cons (.ret (.var 4))
    .nil))))))
def ir_law_forked : Ss :=
    (.cons (.asg (.one 1) (.call "_law_top" (.cons (.var 0) .nil)))
    (.cons (.asg (.one 2) (.call "_law_take" (.cons (.var 0) (.cons (.int 4) .nil))))
    (.cons (.asg (.one 3) (.call "_law_reckoning" (.cons (.var 0) (.cons (.var 1) (.cons (.lst (.cons (.int 0) (.cons (.int 1) (.cons (.int 2) (.cons (.int 3) .nil))))) (.cons (.int 2) .nil))))))
    (.cons (.asg (.one 4) (.idx (.lst (.cons (.var 3) (.cons (.var 3) (.cons (.var 3) (.cons (.call "_law_reckoning" (.cons (.var 0) (.cons (.var 1) (.cons (.lst (.cons (.int 0) (.cons (.int 1) (.cons (.int 2) (.cons (.int 3) .nil))))) (.cons (.int 2) .nil))))) .nil))))) (.call "_law_take" (.cons (.var 0) (.cons (.int 4) .nil)))))
    (.cons (.asg (.one 5) (.tup (.cons (.str [115, 101, 116]) (.cons (.var 2) (.cons (.tup (.cons (.str [115, 117, 109]) (.cons (.tup (.cons (.str [97, 116]) (.cons (.var 2) .nil))) (.cons (.tup (.cons (.str [110, 117, 109, 98, 101, 114]) (.cons (.int 1) .nil))) .nil)))) .nil)))))
    (.cons (.asg (.one 6) (.lst (.cons (.tup (.cons (.str [97, 115, 107]) (.cons (.int 0) .nil))) (.cons (.tup (.cons (.str [105, 102]) (.cons (.tup (.cons (.str [97, 116]) (.cons (.int 0) .nil))) (.cons (.int 4) .nil)))) (.cons (.tup (.cons (.str [115, 101, 116]) (.cons (.var 2) (.cons (.var 3) .nil)))) (.cons (.tup (.cons (.str [103, 111]) (.cons (.int 5) .nil))) (.cons (.tup (.cons (.str [115, 101, 116]) (.cons (.var 2) (.cons (.var 4) .nil)))) .nil)))))))
    (.cons (.expr (.me .append (.var 6) (.cons (.idx (.lst (.cons (.var 5) (.cons (.tup (.cons (.str [97, 115, 107]) (.cons (.call "_law_take" (.cons (.var 0) (.cons (.int 4) .nil))) .nil))) (.cons (.call "_law_flat_row" (.cons (.var 0) (.cons (.var 1) (.cons (.int 4) (.cons (.int 5) (.cons (.int 9) .nil)))))) .nil)))) (.call "_law_take" (.cons (.var 0) (.cons (.int 3) .nil)))) .nil)))
    (.cons (.expr (.me .append (.var 6) (.cons (.idx (.lst (.cons (.var 5) (.cons (.call "_law_flat_row" (.cons (.var 0) (.cons (.var 1) (.cons (.int 4) (.cons (.int 6) (.cons (.int 9) .nil)))))) .nil))) (.call "_law_take" (.cons (.var 0) (.cons (.int 2) .nil)))) .nil)))
    (.cons (.expr (.me .append (.var 6) (.cons (.tup (.cons (.str [116, 101, 108, 108]) (.cons (.call "_law_reckoning" (.cons (.var 0) (.cons (.var 1) (.cons (.lst (.cons (.int 0) (.cons (.int 1) (.cons (.int 2) (.cons (.int 3) .nil))))) (.cons (.int 1) .nil))))) .nil))) .nil)))
    (.cons (.expr (.me .append (.var 6) (.cons (.idx (.lst (.cons (.tup (.cons (.str [101, 110, 100]) .nil)) (.cons (.tup (.cons (.str [103, 111]) (.cons (.call "_law_take" (.cons (.var 0) (.cons (.int 9) .nil))) .nil))) .nil))) (.call "_law_take" (.cons (.var 0) (.cons (.int 2) .nil)))) .nil)))
    (.cons (.ret (.tup (.cons (.var 1) (.cons (.int 4) (.cons (.bi .tuple (.cons (.var 6) .nil)) .nil)))))
    .nil)))))))))))
def ir_law_flats : Ss :=
    (.cons (.asg (.one 1) (.call "_law_take" (.cons (.var 0) (.cons (.int 3) .nil))))
    (.cons (.ret (.lst (.cons (.call "_law_flat" (.cons (.var 0) (.cons (.int 14) (.cons (.int 5) .nil)))) (.cons (.ite (.cmp .eq (.var 1) (.int 2)) (.call "_law_flat" (.cons (.var 0) (.cons (.int 9) (.cons (.int 3) .nil)))) (.call "_law_forked" (.cons (.var 0) .nil))) .nil))))
    .nil))
def ir_law_great : Ss :=
    (.cons (.asg (.one 1) (.call "_law_flat" (.cons (.var 0) (.cons (.int 200) (.cons (.int 60) .nil)))))
    (.cons (.ret (.ite (.cmp .eq (.call "_law_take" (.cons (.var 0) (.cons (.int 2) .nil))) (.int 0)) (.var 1) (.tup (.cons (.idx (.var 1) (.int 0)) (.cons (.int 60) (.cons (.idx (.var 1) (.int 2)) .nil))))))
    .nil))
def ir_law : Ss :=
    (.cons (.asg (.one 1) (.call "_law_begun" (.cons (.var 0) .nil)))
    (.cons (.asg (.one 2) (.call "_law_flats" (.cons (.var 1) .nil)))
    (.cons (.if_ (.cmp .eq (.call "_law_take" (.cons (.var 1) (.cons (.int 16) .nil))) (.int 1)) (.cons (.expr (.me .append (.var 2) (.cons (.call "_law_great" (.cons (.var 1) .nil)) .nil)))
    .nil) .nil)
    (.cons (.for_ (.one 3) (.val (.bin .add (.var 2) (.slc (.var 2) .non (.int 1)))) (.cons (.asg (.one 4) (.bi .tuple (.cons (.comp (.bi .tuple (.cons (.var 5) .nil)) (.one 5) (.val (.call "_law_wanted" (.cons (.var 3) .nil))) .nil [5]) .nil)))
    (.cons (.if_ (.cmp .ne (.bi .repr (.cons (.call "wanted_at" (.cons (.var 3) .nil)) .nil)) (.bi .repr (.cons (.var 4) .nil))) (.cons (.ret (.bl false))
    .nil) .nil)
    .nil)))
    (.cons (.ret (.bl true))
    .nil)))))
def d_is_name : Dd := mk "is_name" ["thing", "sign"] ["thing"] ir_is_name (top 9)
def d_is_number_terms : Dd := mk "is_number_terms" ["thing", "least", "most"] ["thing", "least", "most"] ir_is_number_terms (top 10)
def d_is_slot : Dd := mk "is_slot" ["thing"] ["thing"] ir_is_slot (top 12)
def d_is_cell : Dd := mk "is_cell" ["thing"] ["thing"] ir_is_cell (top 13)
def d_has_form : Dd := mk "has_form" ["thing", "top", "cells", "deep"] ["thing", "top", "cells", "deep"] ir_has_form (top 14)
def d_cells_with : Dd := mk "cells_with" ["A", "found"] ["A", "found"] ir_cells_with (top 15)
def d_are_alike_cells : Dd := mk "are_alike_cells" ["cells", "cell"] ["cells"] ir_are_alike_cells (top 16)
def d_is_reckoning : Dd := mk "is_reckoning" ["thing", "top", "cells"] ["thing", "top", "cells"] ir_is_reckoning (top 17)
def d_cells_in : Dd := mk "cells_in" ["A"] ["A"] ir_cells_in (top 18)
def d_is_number_runs : Dd := mk "is_number_runs" ["thing", "least", "most"] ["thing", "least", "most"] ir_is_number_runs (top 20)
def d_is_tuple_of : Dd := mk "is_tuple_of" ["thing", "least", "most"] ["thing", "least", "most"] ir_is_tuple_of (top 27)
def d_is_flat_row : Dd := mk "is_flat_row" ["row", "place", "flat", "cells", "words", "top", "slots", "rows"] ["row", "place", "flat"] ir_is_flat_row (top 28)
def d_is_flat : Dd := mk "is_flat" ["thing", "row", "place"] ["thing"] ir_is_flat (top 29)
def d_need_flat : Dd := mk "need_flat" ["thing"] ["thing"] ir_need_flat (top 30)
def d_ways_of : Dd := mk "ways_of" ["flat", "k", "row"] ["flat", "k"] ir_ways_of (top 31)
def d_written_by : Dd := mk "written_by" ["row"] ["row"] ir_written_by (top 33)
def d_asked_by : Dd := mk "asked_by" ["row"] ["row"] ir_asked_by (top 34)
def d_wanted_ahead : Dd := mk "wanted_ahead" ["row", "wanted", "left", "slot"] ["row", "wanted"] ir_wanted_ahead (top 35)
def d_wanted_behind : Dd := mk "wanted_behind" ["flat", "k", "found", "slots", "way"] ["flat", "k", "found"] ir_wanted_behind (top 36)
def d_wanted_at : Dd := mk "wanted_at" ["flat", "found", "changed", "k", "row", "now"] ["flat"] ir_wanted_at (top 37)
def d_law_begun : Dd := mk "_law_begun" ["_law_script", "_law_cells_here", "_law_cell"] ["_law_script"] ir_law_begun (top 39)
def d_law_take : Dd := mk "_law_take" ["_law_state", "_law_many", "_law_cell", "_law_mixed", "_law_found"] ["_law_state", "_law_many"] ir_law_take (top 40)
def d_law_pick : Dd := mk "_law_pick" ["_law_state", "_law_some"] ["_law_state", "_law_some"] ir_law_pick (top 41)
def d_law_top : Dd := mk "_law_top" ["_law_state"] ["_law_state"] ir_law_top (top 42)
def d_law_number : Dd := mk "_law_number" ["_law_state", "_law_top_here", "_law_way"] ["_law_state", "_law_top_here"] ir_law_number (top 43)
def d_law_reckoning : Dd := mk "_law_reckoning" ["_law_state", "_law_top_here", "_law_cells_here", "_law_deep", "_law_way", "_law_word", "_law_one"] ["_law_state", "_law_top_here", "_law_cells_here", "_law_deep"] ir_law_reckoning (top 44)
def d_law_flat_row : Dd := mk "_law_flat_row" ["_law_state", "_law_top_here", "_law_slots", "_law_at", "_law_many", "_law_cells_here", "_law_way", "_law_to"] ["_law_state", "_law_top_here", "_law_slots", "_law_at", "_law_many"] ir_law_flat_row (top 45)
def d_law_flat : Dd := mk "_law_flat" ["_law_state", "_law_most", "_law_most_slots", "_law_top_here", "_law_slots", "_law_many", "_law_rows", "_law_at"] ["_law_state", "_law_most", "_law_most_slots"] ir_law_flat (top 46)
def d_law_cells : Dd := mk "_law_cells" ["_law_ka", "_law_found", "_law_slot"] ["_law_ka"] ir_law_cells (top 47)
def d_law_asked : Dd := mk "_law_asked" ["_law_row"] ["_law_row"] ir_law_asked (top 48)
def d_law_goals : Dd := mk "_law_goals" ["_law_row", "_law_k"] ["_law_row", "_law_k"] ir_law_goals (top 49)
def d_law_writes : Dd := mk "_law_writes" ["_law_row", "_law_slot"] ["_law_row", "_law_slot"] ir_law_writes (top 50)
def d_law_wanted : Dd := mk "_law_wanted" ["_law_flat_here", "_law_rows", "_law_ahead", "_law_k", "_law_found", "_law_slot", "_law_goal", "_law_waits", "_law_marks", "_law_row"] ["_law_flat_here"] ir_law_wanted (top 51)
def d_law_forked : Dd := mk "_law_forked" ["_law_state", "_law_top_here", "_law_slot", "_law_one", "_law_other", "_law_more", "_law_rows"] ["_law_state"] ir_law_forked (top 52)
def d_law_flats : Dd := mk "_law_flats" ["_law_state", "_law_way"] ["_law_state"] ir_law_flats (top 53)
def d_law_great : Dd := mk "_law_great" ["_law_state", "_law_flat_here"] ["_law_state"] ir_law_great (top 54)
def d_law : Dd := mk "law" ["_law_script", "_law_state", "_law_flats_here", "_law_flat_here", "_law_due", "_law_row"] ["_law_script"] ir_law (top 55)
def law : Law := ⟨[d_is_name, d_is_number_terms, d_is_slot, d_is_cell, d_has_form, d_cells_with, d_are_alike_cells, d_is_reckoning, d_cells_in, d_is_number_runs, d_is_tuple_of, d_is_flat_row, d_is_flat, d_need_flat, d_ways_of, d_written_by, d_asked_by, d_wanted_ahead, d_wanted_behind, d_wanted_at, d_law_begun, d_law_take, d_law_pick, d_law_top, d_law_number, d_law_reckoning, d_law_flat_row, d_law_flat, d_law_cells, d_law_asked, d_law_goals, d_law_writes, d_law_wanted, d_law_forked, d_law_flats, d_law_great, d_law], ["NoFlat"], [], [("LETTERS", .str [97, 98, 99, 100, 101, 102, 103, 104, 105, 106, 107, 108, 109, 110, 111, 112, 113, 114, 115, 116, 117, 118, 119, 120, 121, 122]), ("KEPT", .tup [.str [97, 115, 107], .str [99, 97, 108, 108], .str [101, 110, 100], .str [103, 105, 118, 101], .str [103, 111], .str [104, 101, 108, 112, 101, 114], .str [105, 102], .str [110, 111, 110, 101], .str [115, 101, 116], .str [116, 101, 108, 108], .str [116, 111, 112]]), ("WORDS", .tup [.str [115, 117, 109], .str [108, 101, 115, 115], .str [116, 105, 109, 101, 115], .str [98, 101, 108, 111, 119], .str [115, 97, 109, 101]]), ("MOST_LETTERS", .int 6), ("MOST_WITHIN", .int 20), ("MOST_TOP", .int 1000000000), ("MOST_SLOTS", .int 60), ("MOST_ROWS", .int 200), ("LAST_WORDS", .tup [.str [103, 111], .str [101, 110, 100]])], ["abs", "all", "any", "bool", "dict", "enumerate", "int", "isinstance", "len", "list", "min", "range", "repr", "reversed", "set", "sorted", "str", "tuple"]⟩
theorem ok_is_name : DdOk law d_is_name := ⟨⟨by kernel_rfl, by kernel_rfl, by kernel_rfl, by decide +kernel, by kernel_rfl, by decide +kernel, by decide +kernel⟩, by kernel_rfl, fun _ _ _ _ _ _ us hl => match us, hl with | [_], _ => rfl⟩
theorem ok_is_number_terms : DdOk law d_is_number_terms := ⟨⟨by kernel_rfl, by kernel_rfl, by kernel_rfl, by decide +kernel, by kernel_rfl, by decide +kernel, by decide +kernel⟩, by kernel_rfl, fun _ _ _ _ _ _ us hl => match us, hl with | [_, _, _], _ => rfl⟩
theorem ok_is_slot : DdOk law d_is_slot := ⟨⟨by kernel_rfl, by kernel_rfl, by kernel_rfl, by decide +kernel, by kernel_rfl, by decide +kernel, by decide +kernel⟩, by kernel_rfl, fun _ _ _ _ _ _ us hl => match us, hl with | [_], _ => rfl⟩
theorem ok_is_cell : DdOk law d_is_cell := ⟨⟨by kernel_rfl, by kernel_rfl, by kernel_rfl, by decide +kernel, by kernel_rfl, by decide +kernel, by decide +kernel⟩, by kernel_rfl, fun _ _ _ _ _ _ us hl => match us, hl with | [_], _ => rfl⟩
theorem ok_has_form : DdOk law d_has_form := ⟨⟨by kernel_rfl, by kernel_rfl, by kernel_rfl, by decide +kernel, by kernel_rfl, by decide +kernel, by decide +kernel⟩, by kernel_rfl, fun _ _ _ _ _ _ us hl => match us, hl with | [_, _, _, _], _ => rfl⟩
theorem ok_cells_with : DdOk law d_cells_with := ⟨⟨by kernel_rfl, by kernel_rfl, by kernel_rfl, by decide +kernel, by kernel_rfl, by decide +kernel, by decide +kernel⟩, by kernel_rfl, fun _ _ _ _ _ _ us hl => match us, hl with | [_, _], _ => rfl⟩
theorem ok_are_alike_cells : DdOk law d_are_alike_cells := ⟨⟨by kernel_rfl, by kernel_rfl, by kernel_rfl, by decide +kernel, by kernel_rfl, by decide +kernel, by decide +kernel⟩, by kernel_rfl, fun _ _ _ _ _ _ us hl => match us, hl with | [_], _ => rfl⟩
theorem ok_is_reckoning : DdOk law d_is_reckoning := ⟨⟨by kernel_rfl, by kernel_rfl, by kernel_rfl, by decide +kernel, by kernel_rfl, by decide +kernel, by decide +kernel⟩, by kernel_rfl, fun _ _ _ _ _ _ us hl => match us, hl with | [_, _, _], _ => rfl⟩
theorem ok_cells_in : DdOk law d_cells_in := ⟨⟨by kernel_rfl, by kernel_rfl, by kernel_rfl, by decide +kernel, by kernel_rfl, by decide +kernel, by decide +kernel⟩, by kernel_rfl, fun _ _ _ _ _ _ us hl => match us, hl with | [_], _ => rfl⟩
theorem ok_is_number_runs : DdOk law d_is_number_runs := ⟨⟨by kernel_rfl, by kernel_rfl, by kernel_rfl, by decide +kernel, by kernel_rfl, by decide +kernel, by decide +kernel⟩, by kernel_rfl, fun _ _ _ _ _ _ us hl => match us, hl with | [_, _, _], _ => rfl⟩
theorem ok_is_tuple_of : DdOk law d_is_tuple_of := ⟨⟨by kernel_rfl, by kernel_rfl, by kernel_rfl, by decide +kernel, by kernel_rfl, by decide +kernel, by decide +kernel⟩, by kernel_rfl, fun _ _ _ _ _ _ us hl => match us, hl with | [_, _, _], _ => rfl⟩
theorem ok_is_flat_row : DdOk law d_is_flat_row := ⟨⟨by kernel_rfl, by kernel_rfl, by kernel_rfl, by decide +kernel, by kernel_rfl, by decide +kernel, by decide +kernel⟩, by kernel_rfl, fun _ _ _ _ _ _ us hl => match us, hl with | [_, _, _], _ => rfl⟩
theorem ok_is_flat : DdOk law d_is_flat := ⟨⟨by kernel_rfl, by kernel_rfl, by kernel_rfl, by decide +kernel, by kernel_rfl, by decide +kernel, by decide +kernel⟩, by kernel_rfl, fun _ _ _ _ _ _ us hl => match us, hl with | [_], _ => rfl⟩
theorem ok_need_flat : DdOk law d_need_flat := ⟨⟨by kernel_rfl, by kernel_rfl, by kernel_rfl, by decide +kernel, by kernel_rfl, by decide +kernel, by decide +kernel⟩, by kernel_rfl, fun _ _ _ _ _ _ us hl => match us, hl with | [_], _ => rfl⟩
theorem ok_ways_of : DdOk law d_ways_of := ⟨⟨by kernel_rfl, by kernel_rfl, by kernel_rfl, by decide +kernel, by kernel_rfl, by decide +kernel, by decide +kernel⟩, by kernel_rfl, fun _ _ _ _ _ _ us hl => match us, hl with | [_, _], _ => rfl⟩
theorem ok_written_by : DdOk law d_written_by := ⟨⟨by kernel_rfl, by kernel_rfl, by kernel_rfl, by decide +kernel, by kernel_rfl, by decide +kernel, by decide +kernel⟩, by kernel_rfl, fun _ _ _ _ _ _ us hl => match us, hl with | [_], _ => rfl⟩
theorem ok_asked_by : DdOk law d_asked_by := ⟨⟨by kernel_rfl, by kernel_rfl, by kernel_rfl, by decide +kernel, by kernel_rfl, by decide +kernel, by decide +kernel⟩, by kernel_rfl, fun _ _ _ _ _ _ us hl => match us, hl with | [_], _ => rfl⟩
theorem ok_wanted_ahead : DdOk law d_wanted_ahead := ⟨⟨by kernel_rfl, by kernel_rfl, by kernel_rfl, by decide +kernel, by kernel_rfl, by decide +kernel, by decide +kernel⟩, by kernel_rfl, fun _ _ _ _ _ _ us hl => match us, hl with | [_, _], _ => rfl⟩
theorem ok_wanted_behind : DdOk law d_wanted_behind := ⟨⟨by kernel_rfl, by kernel_rfl, by kernel_rfl, by decide +kernel, by kernel_rfl, by decide +kernel, by decide +kernel⟩, by kernel_rfl, fun _ _ _ _ _ _ us hl => match us, hl with | [_, _, _], _ => rfl⟩
theorem ok_wanted_at : DdOk law d_wanted_at := ⟨⟨by kernel_rfl, by kernel_rfl, by kernel_rfl, by decide +kernel, by kernel_rfl, by decide +kernel, by decide +kernel⟩, by kernel_rfl, fun _ _ _ _ _ _ us hl => match us, hl with | [_], _ => rfl⟩
theorem ok_law_begun : DdOk law d_law_begun := ⟨⟨by kernel_rfl, by kernel_rfl, by kernel_rfl, by decide +kernel, by kernel_rfl, by decide +kernel, by decide +kernel⟩, by kernel_rfl, fun _ _ _ _ _ _ us hl => match us, hl with | [_], _ => rfl⟩
theorem ok_law_take : DdOk law d_law_take := ⟨⟨by kernel_rfl, by kernel_rfl, by kernel_rfl, by decide +kernel, by kernel_rfl, by decide +kernel, by decide +kernel⟩, by kernel_rfl, fun _ _ _ _ _ _ us hl => match us, hl with | [_, _], _ => rfl⟩
theorem ok_law_pick : DdOk law d_law_pick := ⟨⟨by kernel_rfl, by kernel_rfl, by kernel_rfl, by decide +kernel, by kernel_rfl, by decide +kernel, by decide +kernel⟩, by kernel_rfl, fun _ _ _ _ _ _ us hl => match us, hl with | [_, _], _ => rfl⟩
theorem ok_law_top : DdOk law d_law_top := ⟨⟨by kernel_rfl, by kernel_rfl, by kernel_rfl, by decide +kernel, by kernel_rfl, by decide +kernel, by decide +kernel⟩, by kernel_rfl, fun _ _ _ _ _ _ us hl => match us, hl with | [_], _ => rfl⟩
theorem ok_law_number : DdOk law d_law_number := ⟨⟨by kernel_rfl, by kernel_rfl, by kernel_rfl, by decide +kernel, by kernel_rfl, by decide +kernel, by decide +kernel⟩, by kernel_rfl, fun _ _ _ _ _ _ us hl => match us, hl with | [_, _], _ => rfl⟩
theorem ok_law_reckoning : DdOk law d_law_reckoning := ⟨⟨by kernel_rfl, by kernel_rfl, by kernel_rfl, by decide +kernel, by kernel_rfl, by decide +kernel, by decide +kernel⟩, by kernel_rfl, fun _ _ _ _ _ _ us hl => match us, hl with | [_, _, _, _], _ => rfl⟩
theorem ok_law_flat_row : DdOk law d_law_flat_row := ⟨⟨by kernel_rfl, by kernel_rfl, by kernel_rfl, by decide +kernel, by kernel_rfl, by decide +kernel, by decide +kernel⟩, by kernel_rfl, fun _ _ _ _ _ _ us hl => match us, hl with | [_, _, _, _, _], _ => rfl⟩
theorem ok_law_flat : DdOk law d_law_flat := ⟨⟨by kernel_rfl, by kernel_rfl, by kernel_rfl, by decide +kernel, by kernel_rfl, by decide +kernel, by decide +kernel⟩, by kernel_rfl, fun _ _ _ _ _ _ us hl => match us, hl with | [_, _, _], _ => rfl⟩
theorem ok_law_cells : DdOk law d_law_cells := ⟨⟨by kernel_rfl, by kernel_rfl, by kernel_rfl, by decide +kernel, by kernel_rfl, by decide +kernel, by decide +kernel⟩, by kernel_rfl, fun _ _ _ _ _ _ us hl => match us, hl with | [_], _ => rfl⟩
theorem ok_law_asked : DdOk law d_law_asked := ⟨⟨by kernel_rfl, by kernel_rfl, by kernel_rfl, by decide +kernel, by kernel_rfl, by decide +kernel, by decide +kernel⟩, by kernel_rfl, fun _ _ _ _ _ _ us hl => match us, hl with | [_], _ => rfl⟩
theorem ok_law_goals : DdOk law d_law_goals := ⟨⟨by kernel_rfl, by kernel_rfl, by kernel_rfl, by decide +kernel, by kernel_rfl, by decide +kernel, by decide +kernel⟩, by kernel_rfl, fun _ _ _ _ _ _ us hl => match us, hl with | [_, _], _ => rfl⟩
theorem ok_law_writes : DdOk law d_law_writes := ⟨⟨by kernel_rfl, by kernel_rfl, by kernel_rfl, by decide +kernel, by kernel_rfl, by decide +kernel, by decide +kernel⟩, by kernel_rfl, fun _ _ _ _ _ _ us hl => match us, hl with | [_, _], _ => rfl⟩
theorem ok_law_wanted : DdOk law d_law_wanted := ⟨⟨by kernel_rfl, by kernel_rfl, by kernel_rfl, by decide +kernel, by kernel_rfl, by decide +kernel, by decide +kernel⟩, by kernel_rfl, fun _ _ _ _ _ _ us hl => match us, hl with | [_], _ => rfl⟩
theorem ok_law_forked : DdOk law d_law_forked := ⟨⟨by kernel_rfl, by kernel_rfl, by kernel_rfl, by decide +kernel, by kernel_rfl, by decide +kernel, by decide +kernel⟩, by kernel_rfl, fun _ _ _ _ _ _ us hl => match us, hl with | [_], _ => rfl⟩
theorem ok_law_flats : DdOk law d_law_flats := ⟨⟨by kernel_rfl, by kernel_rfl, by kernel_rfl, by decide +kernel, by kernel_rfl, by decide +kernel, by decide +kernel⟩, by kernel_rfl, fun _ _ _ _ _ _ us hl => match us, hl with | [_], _ => rfl⟩
theorem ok_law_great : DdOk law d_law_great := ⟨⟨by kernel_rfl, by kernel_rfl, by kernel_rfl, by decide +kernel, by kernel_rfl, by decide +kernel, by decide +kernel⟩, by kernel_rfl, fun _ _ _ _ _ _ us hl => match us, hl with | [_], _ => rfl⟩
theorem ok_law : DdOk law d_law := ⟨⟨by kernel_rfl, by kernel_rfl, by kernel_rfl, by decide +kernel, by kernel_rfl, by decide +kernel, by decide +kernel⟩, by kernel_rfl, fun _ _ _ _ _ _ us hl => match us, hl with | [_], _ => rfl⟩
abbrev G : Gam := law.gam
theorem df_is_name : G.df "is_name" = some ⟨1, 2, ir_is_name⟩ := by kernel_rfl
theorem df_is_number_terms : G.df "is_number_terms" = some ⟨3, 3, ir_is_number_terms⟩ := by kernel_rfl
theorem df_is_slot : G.df "is_slot" = some ⟨1, 1, ir_is_slot⟩ := by kernel_rfl
theorem df_is_cell : G.df "is_cell" = some ⟨1, 1, ir_is_cell⟩ := by kernel_rfl
theorem df_has_form : G.df "has_form" = some ⟨4, 4, ir_has_form⟩ := by kernel_rfl
theorem df_cells_with : G.df "cells_with" = some ⟨2, 2, ir_cells_with⟩ := by kernel_rfl
theorem df_are_alike_cells : G.df "are_alike_cells" = some ⟨1, 2, ir_are_alike_cells⟩ := by kernel_rfl
theorem df_is_reckoning : G.df "is_reckoning" = some ⟨3, 3, ir_is_reckoning⟩ := by kernel_rfl
theorem df_cells_in : G.df "cells_in" = some ⟨1, 1, ir_cells_in⟩ := by kernel_rfl
theorem df_is_number_runs : G.df "is_number_runs" = some ⟨3, 3, ir_is_number_runs⟩ := by kernel_rfl
theorem df_is_tuple_of : G.df "is_tuple_of" = some ⟨3, 3, ir_is_tuple_of⟩ := by kernel_rfl
theorem df_is_flat_row : G.df "is_flat_row" = some ⟨3, 8, ir_is_flat_row⟩ := by kernel_rfl
theorem df_is_flat : G.df "is_flat" = some ⟨1, 3, ir_is_flat⟩ := by kernel_rfl
theorem df_need_flat : G.df "need_flat" = some ⟨1, 1, ir_need_flat⟩ := by kernel_rfl
theorem df_ways_of : G.df "ways_of" = some ⟨2, 3, ir_ways_of⟩ := by kernel_rfl
theorem df_written_by : G.df "written_by" = some ⟨1, 1, ir_written_by⟩ := by kernel_rfl
theorem df_asked_by : G.df "asked_by" = some ⟨1, 1, ir_asked_by⟩ := by kernel_rfl
theorem df_wanted_ahead : G.df "wanted_ahead" = some ⟨2, 4, ir_wanted_ahead⟩ := by kernel_rfl
theorem df_wanted_behind : G.df "wanted_behind" = some ⟨3, 5, ir_wanted_behind⟩ := by kernel_rfl
theorem df_wanted_at : G.df "wanted_at" = some ⟨1, 6, ir_wanted_at⟩ := by kernel_rfl
theorem df_law_begun : G.df "_law_begun" = some ⟨1, 3, ir_law_begun⟩ := by kernel_rfl
theorem df_law_take : G.df "_law_take" = some ⟨2, 5, ir_law_take⟩ := by kernel_rfl
theorem df_law_pick : G.df "_law_pick" = some ⟨2, 2, ir_law_pick⟩ := by kernel_rfl
theorem df_law_top : G.df "_law_top" = some ⟨1, 1, ir_law_top⟩ := by kernel_rfl
theorem df_law_number : G.df "_law_number" = some ⟨2, 3, ir_law_number⟩ := by kernel_rfl
theorem df_law_reckoning : G.df "_law_reckoning" = some ⟨4, 7, ir_law_reckoning⟩ := by kernel_rfl
theorem df_law_flat_row : G.df "_law_flat_row" = some ⟨5, 8, ir_law_flat_row⟩ := by kernel_rfl
theorem df_law_flat : G.df "_law_flat" = some ⟨3, 8, ir_law_flat⟩ := by kernel_rfl
theorem df_law_cells : G.df "_law_cells" = some ⟨1, 3, ir_law_cells⟩ := by kernel_rfl
theorem df_law_asked : G.df "_law_asked" = some ⟨1, 1, ir_law_asked⟩ := by kernel_rfl
theorem df_law_goals : G.df "_law_goals" = some ⟨2, 2, ir_law_goals⟩ := by kernel_rfl
theorem df_law_writes : G.df "_law_writes" = some ⟨2, 2, ir_law_writes⟩ := by kernel_rfl
theorem df_law_wanted : G.df "_law_wanted" = some ⟨1, 10, ir_law_wanted⟩ := by kernel_rfl
theorem df_law_forked : G.df "_law_forked" = some ⟨1, 7, ir_law_forked⟩ := by kernel_rfl
theorem df_law_flats : G.df "_law_flats" = some ⟨1, 2, ir_law_flats⟩ := by kernel_rfl
theorem df_law_great : G.df "_law_great" = some ⟨1, 2, ir_law_great⟩ := by kernel_rfl
theorem df_law : G.df "law" = some ⟨1, 6, ir_law⟩ := by kernel_rfl
theorem gl_LETTERS : G.gl "LETTERS" = some (.str [97, 98, 99, 100, 101, 102, 103, 104, 105, 106, 107, 108, 109, 110, 111, 112, 113, 114, 115, 116, 117, 118, 119, 120, 121, 122]) := by kernel_rfl
theorem gl_KEPT : G.gl "KEPT" = some (.tup [.str [97, 115, 107], .str [99, 97, 108, 108], .str [101, 110, 100], .str [103, 105, 118, 101], .str [103, 111], .str [104, 101, 108, 112, 101, 114], .str [105, 102], .str [110, 111, 110, 101], .str [115, 101, 116], .str [116, 101, 108, 108], .str [116, 111, 112]]) := by kernel_rfl
theorem gl_WORDS : G.gl "WORDS" = some (.tup [.str [115, 117, 109], .str [108, 101, 115, 115], .str [116, 105, 109, 101, 115], .str [98, 101, 108, 111, 119], .str [115, 97, 109, 101]]) := by kernel_rfl
theorem gl_MOST_LETTERS : G.gl "MOST_LETTERS" = some (.int 6) := by kernel_rfl
theorem gl_MOST_WITHIN : G.gl "MOST_WITHIN" = some (.int 20) := by kernel_rfl
theorem gl_MOST_TOP : G.gl "MOST_TOP" = some (.int 1000000000) := by kernel_rfl
theorem gl_MOST_SLOTS : G.gl "MOST_SLOTS" = some (.int 60) := by kernel_rfl
theorem gl_MOST_ROWS : G.gl "MOST_ROWS" = some (.int 200) := by kernel_rfl
theorem gl_LAST_WORDS : G.gl "LAST_WORDS" = some (.tup [.str [103, 111], .str [101, 110, 100]]) := by kernel_rfl
@[simp] theorem gs_LETTERS {k : Nat} {s : MI.Env} {Q : W → AH → Prop} {E : Nm → AH → Prop} {h : AH} : wp (evE (cfg G k) (.gl "LETTERS") s) Q E h = Q (.str [97, 98, 99, 100, 101, 102, 103, 104, 105, 106, 107, 108, 109, 110, 111, 112, 113, 114, 115, 116, 117, 118, 119, 120, 121, 122]) h := w_gl gl_LETTERS
@[simp] theorem gs_KEPT {k : Nat} {s : MI.Env} {Q : W → AH → Prop} {E : Nm → AH → Prop} {h : AH} : wp (evE (cfg G k) (.gl "KEPT") s) Q E h = Q (.tup [.str [97, 115, 107], .str [99, 97, 108, 108], .str [101, 110, 100], .str [103, 105, 118, 101], .str [103, 111], .str [104, 101, 108, 112, 101, 114], .str [105, 102], .str [110, 111, 110, 101], .str [115, 101, 116], .str [116, 101, 108, 108], .str [116, 111, 112]]) h := w_gl gl_KEPT
@[simp] theorem gs_MOST_LETTERS {k : Nat} {s : MI.Env} {Q : W → AH → Prop} {E : Nm → AH → Prop} {h : AH} : wp (evE (cfg G k) (.gl "MOST_LETTERS") s) Q E h = Q (.int 6) h := w_gl gl_MOST_LETTERS
@[simp] theorem g_within {k : Nat} {s : MI.Env} {Q : W → AH → Prop} {E : Nm → AH → Prop} {h : AH} : wp (evE (cfg G k) (.gl "MOST_WITHIN") s) Q E h = Q (.int 20) h := w_gl gl_MOST_WITHIN
@[simp] theorem g_top {k : Nat} {s : MI.Env} {Q : W → AH → Prop} {E : Nm → AH → Prop} {h : AH} : wp (evE (cfg G k) (.gl "MOST_TOP") s) Q E h = Q (.int 1000000000) h := w_gl gl_MOST_TOP
@[simp] theorem g_slots {k : Nat} {s : MI.Env} {Q : W → AH → Prop} {E : Nm → AH → Prop} {h : AH} : wp (evE (cfg G k) (.gl "MOST_SLOTS") s) Q E h = Q (.int 60) h := w_gl gl_MOST_SLOTS
@[simp] theorem g_rows {k : Nat} {s : MI.Env} {Q : W → AH → Prop} {E : Nm → AH → Prop} {h : AH} : wp (evE (cfg G k) (.gl "MOST_ROWS") s) Q E h = Q (.int 200) h := w_gl gl_MOST_ROWS
@[simp] theorem g_last {k : Nat} {s : MI.Env} {Q : W → AH → Prop} {E : Nm → AH → Prop} {h : AH} : wp (evE (cfg G k) (.gl "LAST_WORDS") s) Q E h = Q (.tup [.str [103, 111], .str [101, 110, 100]]) h := w_gl gl_LAST_WORDS
theorem oks : ∀ d ∈ law.ds, DdOk law d := by
  intro d hd
  simp only [law, List.mem_cons, List.not_mem_nil, or_false] at hd
  rcases hd with rfl | rfl | rfl | rfl | rfl | rfl | rfl | rfl | rfl | rfl | rfl | rfl | rfl | rfl | rfl | rfl | rfl | rfl | rfl | rfl | rfl | rfl | rfl | rfl | rfl | rfl | rfl | rfl | rfl | rfl | rfl | rfl | rfl | rfl | rfl | rfl | rfl
  · exact ok_is_name
  · exact ok_is_number_terms
  · exact ok_is_slot
  · exact ok_is_cell
  · exact ok_has_form
  · exact ok_cells_with
  · exact ok_are_alike_cells
  · exact ok_is_reckoning
  · exact ok_cells_in
  · exact ok_is_number_runs
  · exact ok_is_tuple_of
  · exact ok_is_flat_row
  · exact ok_is_flat
  · exact ok_need_flat
  · exact ok_ways_of
  · exact ok_written_by
  · exact ok_asked_by
  · exact ok_wanted_ahead
  · exact ok_wanted_behind
  · exact ok_wanted_at
  · exact ok_law_begun
  · exact ok_law_take
  · exact ok_law_pick
  · exact ok_law_top
  · exact ok_law_number
  · exact ok_law_reckoning
  · exact ok_law_flat_row
  · exact ok_law_flat
  · exact ok_law_cells
  · exact ok_law_asked
  · exact ok_law_goals
  · exact ok_law_writes
  · exact ok_law_wanted
  · exact ok_law_forked
  · exact ok_law_flats
  · exact ok_law_great
  · exact ok_law
theorem nms : ∀ d ∈ law.ds, law.dfn d.nm = some d := by
  intro d hd
  simp only [law, List.mem_cons, List.not_mem_nil, or_false] at hd
  rcases hd with rfl | rfl | rfl | rfl | rfl | rfl | rfl | rfl | rfl | rfl | rfl | rfl | rfl | rfl | rfl | rfl | rfl | rfl | rfl | rfl | rfl | rfl | rfl | rfl | rfl | rfl | rfl | rfl | rfl | rfl | rfl | rfl | rfl | rfl | rfl | rfl | rfl
  · kernel_rfl
  · kernel_rfl
  · kernel_rfl
  · kernel_rfl
  · kernel_rfl
  · kernel_rfl
  · kernel_rfl
  · kernel_rfl
  · kernel_rfl
  · kernel_rfl
  · kernel_rfl
  · kernel_rfl
  · kernel_rfl
  · kernel_rfl
  · kernel_rfl
  · kernel_rfl
  · kernel_rfl
  · kernel_rfl
  · kernel_rfl
  · kernel_rfl
  · kernel_rfl
  · kernel_rfl
  · kernel_rfl
  · kernel_rfl
  · kernel_rfl
  · kernel_rfl
  · kernel_rfl
  · kernel_rfl
  · kernel_rfl
  · kernel_rfl
  · kernel_rfl
  · kernel_rfl
  · kernel_rfl
  · kernel_rfl
  · kernel_rfl
  · kernel_rfl
  · kernel_rfl
abbrev R : PySem.W.OpenRow := PySem.W.OpenLaw.row PySem.Challenge.rw_askthrough_k52_wanted_told
abbrev hk : PySem.W.Hook := He.hookX 4 law.fa law.fn [] [] law.ex
def ob (s : PySem.W.SharedT) : He.AlX := He.obsX 4 law.fa law.fn [] [] law.ex (HandSHeadRun.getT s)
theorem ob_eq (s : PySem.W.SharedT) : ob s = hk.obs s.abs := He.obsX_eq (HandSHeadRun.getT_eq s)
def names : List PySem.Str := (["__name__", "LETTERS", "KEPT", "WORDS", "MOST_LETTERS", "MOST_WITHIN", "MOST_TOP", "MOST_SLOTS", "MOST_ROWS", "LAST_WORDS", "AskError", "NoFlat", "is_name", "is_number", "is_number_terms", "is_slot", "is_cell", "has_form", "cells_with", "are_alike_cells"] : List PySem.Str) ++ (["is_reckoning", "cells_in", "is_number_runs", "is_tuple_of", "is_flat_row", "is_flat", "need_flat", "ways_of", "written_by", "asked_by", "wanted_ahead", "wanted_behind", "wanted_at", "_law_begun", "_law_take", "_law_pick", "_law_top", "_law_number", "_law_reckoning", "_law_flat_row"] : List PySem.Str) ++ (["_law_flat", "_law_cells", "_law_asked", "_law_goals", "_law_writes", "_law_wanted", "_law_forked", "_law_flats", "_law_great"] : List PySem.Str)
theorem run (w : World) : HandSHeadRun.RunEq R (PySem.W.view R.prog [55]) hk ob 3760 names w := by
  intro os
  kernel_rfl
end HK
section
open PySem PySem.W PySem.Calls PyProof.Rows
theorem hk_holds (hrun : ∀ ns : List Int, ns.length ≤ 63 → ∃ h', MI.callF HK.law.gam 200 "law" [.loc 0] [.frl (ns.map MI.W.int)] = .ok (.bl true) h') : PySem.Challenge.rw_askthrough_k52_wanted_told.Holds := by
  w_on; o_law
  refine HandSHeadRun.head_any (r := OpenLaw.row PySem.Challenge.rw_askthrough_k52_wanted_told) (q := view (OpenLaw.row PySem.Challenge.rw_askthrough_k52_wanted_told).prog [55]) (H := HK.hk) (ob := HK.ob) (M := 3760) (loose := HK.names) (d := HandSHeadRun.topDef (OpenLaw.row PySem.Challenge.rw_askthrough_k52_wanted_told).prog 55) (kwd := []) HK.ob_eq
    (by kernel_rfl) (fun s => by kernel_rfl) HK.run (by kernel_rfl) (by kernel_rfl) (by kernel_rfl) (by rfl) (by first | assumption | decide +kernel) (by decide +kernel) ⟨rfl, rfl, rfl, rfl, rfl, by decide +kernel⟩ ?hw ?hc
  case hw => w_witness2
  case hc =>
    have e : (HandSHeadRun.topDef (OpenLaw.row PySem.Challenge.rw_askthrough_k52_wanted_told).prog 55).name = ("law" : PySem.Str) := by kernel_rfl
    refine MI.law_end (L := HK.law) (l := PySem.Challenge.rw_askthrough_k52_wanted_told) (k := 200) (dl := HK.d_law) (x := "_law_script") rfl (by kernel_rfl) ⟨rfl, by decide, by decide⟩ (by decide +kernel) HK.oks HK.nms (by rw [e]; kernel_rfl) rfl ?_
    rw [e]
    exact hrun
end
/-! F1d: numbers and reckonings, what any law needs. -/
namespace K
open MI HK
section
variable {k : Nat} {h : AH} {Q : W → AH → Prop} {E : Nm → AH → Prop} {sub : Sub}
@[simp] theorem i_int_int {Q : Bool → AH → Prop} {i : Int} : wp (rdO fun h => tyAny sub h (.int i) ["int"]) Q E h = Q true h := by first | rfl | (unfold wp; rfl)
@[simp] theorem i_int_bool {Q : Bool → AH → Prop} {i : Int} : wp (rdO fun h => tyAny sub h (.int i) ["bool"]) Q E h = Q false h := by first | rfl | (unfold wp; rfl)
@[simp] theorem i_tup_tup {Q : Bool → AH → Prop} {ws : List W} : wp (rdO fun h => tyAny sub h (.tup ws) ["tuple"]) Q E h = Q true h := by first | rfl | (unfold wp; rfl)
@[simp] theorem i_str_str {Q : Bool → AH → Prop} {s : List Nat} : wp (rdO fun h => tyAny sub h (.str s) ["str"]) Q E h = Q true h := by first | rfl | (unfold wp; rfl)
@[simp] theorem i_int_str {Q : Bool → AH → Prop} {i : Int} : wp (rdO fun h => tyAny sub h (.int i) ["str"]) Q E h = Q false h := by first | rfl | (unfold wp; rfl)
/-- five words -/
def words : List (List Nat) := [[115, 117, 109], [108, 101, 115, 115], [116, 105, 109, 101, 115], [98, 101, 108, 111, 119], [115, 97, 109, 101]]
/-- a reckoning on slots below n, numbers to top, so deep at most -/
inductive Rk (top n : Int) : Nat → W → Prop where
  | num {d : Nat} {i : Int} : 0 ≤ i → i ≤ top → Rk top n d (.tup [.str [110, 117, 109, 98, 101, 114], .int i])
  | at_ {d : Nat} {i : Int} : 0 ≤ i → i < n → Rk top n d (.tup [.str [97, 116], .int i])
  | op {d : Nat} {s : List Nat} {a b : W} : s ∈ words → Rk top n d a → Rk top n d b → Rk top n (d + 1) (.tup [.str s, a, b])
@[simp] theorem c_nin2 {Q : Bool → AH → Prop} {i a b : Int} : wp (rdO fun h => cmpH h .nin (.int i) (.tup [.int a, .int b])) Q E h = Q (!(a == i || (b == i || false))) h := by first | rfl | (unfold wp; rfl)
theorem grs_rng (a : Int) (n : Nat) : grs (rngL a n) = true := by
  unfold rngL
  generalize List.range n = l
  induction l with
  | nil => rfl
  | cons x r ih => rw [List.map_cons]; unfold grs; rw [ih]; rfl
theorem inL_mem {x : W} : ∀ {ws : List W}, x ∈ ws → x.eqv x = true → inL x ws = true
  | [], hm, _ => nomatch hm
  | y :: r, hm, he => by
    unfold inL
    rcases List.mem_cons.mp hm with e | e
    · rw [← e, he]; rfl
    · rw [inL_mem e he, Bool.or_true]
theorem inL_rng {i n : Int} (h0 : 0 ≤ i) (h1 : i < n) : inL (.int i) (rngL 0 n.toNat) = true := by
  refine inL_mem (List.mem_map.mpr ⟨i.toNat, List.mem_range.mpr (by omega), ?_⟩) (by unfold W.eqv; simp)
  congr 1
  omega
/-- a dict whose keys are numbers -/
def KI (kvs : List (W × W)) : Prop := ∀ p ∈ kvs, ∃ i : Int, p.1 = .int i
theorem KI_put {i : Int} {w : W} : ∀ {kvs : List (W × W)}, KI kvs → KI (dput kvs (.int i) w) ∧ (dput kvs (.int i) w).length ≤ kvs.length + 1
  | [], _ => ⟨fun p hp => ⟨i, by cases List.mem_singleton.mp hp; rfl⟩, Nat.le_refl _⟩
  | (a, x) :: r, hk => by
    obtain ⟨h1, h2⟩ := KI_put (i := i) (w := w) (kvs := r) fun p hp => hk p (List.mem_cons_of_mem _ hp)
    unfold dput
    split
    · refine ⟨fun p hp => ?_, by rw [List.length_cons, List.length_cons]; omega⟩
      rcases List.mem_cons.mp hp with e | e
      · rw [e]; exact hk (a, x) List.mem_cons_self
      · exact hk p (List.mem_cons_of_mem _ e)
    · refine ⟨fun p hp => ?_, by rw [List.length_cons, List.length_cons]; omega⟩
      rcases List.mem_cons.mp hp with e | e
      · rw [e]; exact hk (a, x) List.mem_cons_self
      · exact h1 p e
theorem set_same {h : AH} {f : Nat} {o : O} (e : h[f]? = some o) : h.set f o = h := by
  apply List.ext_getElem?
  intro i
  by_cases z : f = i
  · subst z
    rw [List.getElem?_set_self (List.getElem?_eq_some_iff.mp e).1, e]
  · rw [List.getElem?_set_ne z]
theorem w_cells {top n : Int} {f : Nat} {d : Nat} {A : W} (r : Rk top n d A) : ∀ {h : AH} {kvs : List (W × W)} {k : Nat} {Q : W → AH → Prop} {E : Nm → AH → Prop}, h[f]? = some (.dct kvs) → KI kvs → kvs.length + 2 ^ d < LN → (∀ kvs', KI kvs' → kvs'.length ≤ kvs.length + 2 ^ d → Q (.loc f) (h.set f (.dct kvs'))) →
    wp (callF G (k + d + 1) "cells_with" [A, .loc f]) Q E h := by
  induction r with
  | @num d i r1 r2 =>
    intro h kvs k Q E e hk hl q
    rw [w_def df_cells_with rfl]
    simp [ir_cells_with, startE]
    have := q kvs hk (Nat.le_add_right _ _)
    rw [set_same e] at this
    exact this
  | @at_ d i r1 r2 =>
    intro h kvs k Q E e hk hl q
    rw [w_def df_cells_with rfl]
    simp [ir_cells_with, startE]
    obtain ⟨p1, p2⟩ := KI_put (i := i) (w := .bl true) hk
    have hp : 0 < 2 ^ d := Nat.two_pow_pos d
    have es : setI f (.int i) (.bl true) h = .ok .non (h.set f (.dct (dput kvs (.int i) (.bl true)))) := by
      unfold setI
      rw [e]
      dsimp only
      rw [if_pos ⟨rfl, by omega⟩]
    rw [wp_eq es]
    exact q _ p1 (Nat.le_trans p2 (Nat.add_le_add_left hp _))
  | @op d s a b hs r1 r2 ih1 ih2 =>
    intro h kvs k Q E e hk hl q
    rw [w_def df_cells_with rfl]
    have hw : ∀ s ∈ words, (s == [97, 116]) = false ∧ (s == [110, 117, 109, 98, 101, 114]) = false := by decide
    obtain ⟨w1, w2⟩ := hw s hs
    simp [ir_cells_with, startE, w1, w2]
    rw [Nat.pow_succ] at hl
    have hf : f < h.length := (List.getElem?_eq_some_iff.mp e).1
    rw [show k + (d + 1) = k + d + 1 from by omega]
    refine ih1 e hk (by omega) fun kvs1 k1 l1 => ?_
    refine ih2 (List.getElem?_set_self hf) k1 (by omega) fun kvs2 k2 l2 => ?_
    rw [List.set_set]
    exact q kvs2 k2 (by rw [Nat.pow_succ]; omega)
theorem app_at {x y : AH} {l : Nat} (hl : l < x.length) : (x ++ y)[l]? = x[l]? := List.getElem?_append_left hl
end
end K
/-! F1: numbers, names, reckonings, as the program looks at them. -/
namespace K
open MI HK
section
variable {k : Nat} {h : AH} {Q : W → AH → Prop} {E : Nm → AH → Prop} {sub : Sub}
theorem w_number_runs {i a b : Int} : wp (callF G (k + 1) "is_number_runs" [.int i, .int a, .int b]) Q E h = Q (.bl (decide (a ≤ i) && decide (i ≤ b))) h := by
  rw [w_def df_is_number_runs rfl]
  simp [ir_is_number_runs, startE]
  by_cases h1 : a ≤ i <;> simp [h1]
theorem w_number_terms {i a b : Int} : wp (callF G (k + 1) "is_number_terms" [.int i, .int a, .int b]) Q E h = Q (.bl (decide (a ≤ i) && decide (i ≤ b))) h := by
  rw [w_def df_is_number_terms rfl]
  simp [ir_is_number_terms, startE]
  by_cases h1 : a ≤ i <;> simp [h1]
theorem w_cell {i : Int} (hi : 0 ≤ i) : wp (callF G (k + 2) "is_cell" [.int i]) Q E h = Q (.bl true) h := by
  rw [w_def df_is_cell rfl]
  simp [ir_is_cell, startE]
  rw [w_def df_is_name rfl]
  simp [ir_is_name, startE]
  rw [w_def df_is_slot rfl]
  simp [ir_is_slot, startE, hi]
@[simp] theorem g_words {s : Env} : wp (evE (cfg G k) (.gl "WORDS") s) Q E h = Q (.tup (words.map .str)) h := w_gl gl_WORDS
theorem w_form {top n : Int} {l : Nat} (hl : lstAt h l = some (rngL 0 n.toNat)) {d : Nat} {A : W} (r : Rk top n d A) : ∀ {deep : Int} {k : Nat} {Q : W → AH → Prop}, (d : Int) + 1 ≤ deep → wp (callF G (k + d + 3) "has_form" [A, .int top, .loc l, .int deep]) Q E h = Q (.bl true) h := by
  induction r with
  | @num d i r1 r2 =>
    intro deep k Q hd
    rw [w_def df_has_form rfl]
    have hd0 : (deep == 0) = false := by simp; omega
    simp [ir_has_form, startE, hd0, LN, w_number_terms, r1, r2]
  | @at_ d i r1 r2 =>
    intro deep k Q hd
    rw [w_def df_has_form rfl]
    have hd0 : (deep == 0) = false := by simp; omega
    simp [ir_has_form, startE, hd0, LN, w_cell r1]
    rw [c_inL (x := .int i) hl (grs_rng _ _) rfl (.inr (Nat.zero_le 60)), inL_rng r1 r2]
  | @op d s a b hs r1 r2 ih1 ih2 =>
    intro deep k Q hd
    rw [w_def df_has_form rfl]
    have hd0 : (deep == 0) = false := by simp; omega
    simp [ir_has_form, startE, hd0, LN]
    rw [c_ninT (x := .str s) (ws := words.map W.str) (by decide) rfl (.inr (Nat.zero_le 60))]
    have hw : inL (.str s) (words.map W.str) = true := by
      have : ∀ s ∈ words, inL (.str s) (words.map W.str) = true := by decide
      exact this s hs
    rw [hw]
    simp
    rw [show k + (d + 1) + 2 = k + d + 3 from by omega, ih1 (by omega)]
    simp
    rw [ih2 (by omega)]
theorem w_alike {f : Nat} {h : AH} {kvs : List (W × W)} {k : Nat} {Q : W → AH → Prop} {E : Nm → AH → Prop} (e : h[f]? = some (.dct kvs)) (hk : KI kvs) (hl : kvs.length ≤ LN) (q : ∀ x, Q (.bl true) (h.set f (.frd kvs) ++ x)) :
    wp (callF G (k + 1) "are_alike_cells" [.loc f]) Q E h := by
  have hf : f < h.length := (List.getElem?_eq_some_iff.mp e).1
  have g1 : itM (.loc f) h = .ok (.seq (kvs.map fun kv => kv.1)) (h.set f (.frd kvs)) := by
    show dkyM f h = _
    unfold dkyM
    rw [e]
  have e2 : ∀ x, (h.set f (.frd kvs) ++ x)[f]? = some (.frd kvs) := fun x => by
    rw [List.getElem?_append_left (by rw [List.length_set]; exact hf), List.getElem?_set_self hf]
  have g2 : ∀ x, itM (.loc f) (h.set f (.frd kvs) ++ x) = .ok (.seq (kvs.map fun kv => kv.1)) (h.set f (.frd kvs) ++ x) := fun x => by
    show dkyM f _ = _
    unfold dkyM
    rw [e2]
  have hc : ∀ (s : Env) (h1 : AH), s.length = 2 → compN (evT (cfg G k) .nil) (evE (cfg G k) (.isi (.var 1) ["str"])) (.one 1) (.seq (kvs.map fun kv => kv.1)) ((kvs.map fun kv => kv.1).length + 1) 0 [] s h1 = .ok ((kvs.map fun kv => kv.1).map fun _ => W.bl false) h1 := fun s h1 hs => by
    have := compN_pure (test := evT (cfg G k) .nil) (elt := evE (cfg G k) (.isi (.var 1) ["str"])) (t := .one 1) (s := s) (h := h1) (J := .seq (kvs.map fun kv => kv.1)) (ws := kvs.map fun kv => kv.1) (f := fun _ => W.bl false) (fun i => rfl) (fun w hw => ?_) (by rw [List.length_map]; exact hl)
      ((kvs.map fun kv => kv.1).length + 1) 0 [] rfl (by omega) (Nat.zero_le _)
    · rw [List.nil_append, List.drop_zero] at this
      exact this
    · obtain ⟨p, hp, ew⟩ := List.mem_map.mp hw
      obtain ⟨i, ei⟩ := hk p hp
      refine ⟨_, rfl, by rw [evt_nil]; rfl, ?_⟩
      match s, hs with
      | [a, b], _ =>
        show evE (cfg G k) (.isi (.var 1) ["str"]) [a, some w] h1 = _
        rw [ev_isi]
        unfold mIsi bnd
        rw [ev_var]
        rw [← ew, ei]
        rfl
  rw [w_def df_are_alike_cells rfl]
  simp only [ir_are_alike_cells, startE, ss_cons, s_ret, w_or, w_bi, ws_cons, w_comp, wi_val, ws_nil, List.map_cons, List.map_nil, List.length_cons, List.length_nil, List.replicate, List.cons_append, List.nil_append, v0]
  rw [wp_eq g1]
  have eb : ((kvs.map fun kv => kv.1).map fun _ => W.bl false) = (kvs.map fun _ => false).map W.bl := by rw [List.map_map, List.map_map]; rfl
  have el : ∀ h1 : AH, lstAt (h1 ++ [.lst ((kvs.map fun kv => kv.1).map fun _ => W.bl false)]) h1.length = some ((kvs.map fun _ => false).map W.bl) := fun h1 => by rw [lstAt_new, eb]
  have hc2 := fun h1 => hc [some (.loc f), none] h1 rfl
  dsimp only [It.fuel, wipeE, List.set]
  rw [wp_eq (hc2 _), bi_allL (el _)]
  cases kvs with
  | nil => simpa using q [.lst []]
  | cons p r =>
    simp
    rw [wp_eq (g2 _)]
    dsimp only [It.fuel, wipeE, List.set]
    rw [wp_eq (hc2 _)]
    have ea : ∀ (h1 : AH), biH (h1 ++ [.lst (((p :: r).map fun kv => kv.1).map fun _ => W.bl false)]) .any [.loc h1.length] = some (.inl (.bl false)) := fun h1 => by
      have b0 : ∀ bs : List Bool, blsOf (bs.map W.bl) = some bs := by
        intro bs
        induction bs with
        | nil => rfl
        | cons a r ih => show (blsOf (r.map W.bl)).map (a :: ·) = _; rw [ih]; rfl
      unfold biH
      dsimp only
      rw [el h1]
      dsimp only
      rw [b0]
      dsimp only
      have : ∀ l : List (W × W), (l.map fun _ => false).any id = false := fun l => by
        induction l with
        | nil => rfl
        | cons a r ih => rw [List.map_cons, List.any_cons, ih]; rfl
      rw [this]
    rw [wp_rd (ea _)]
    simp
    exact q _
theorem w_reck {top n : Int} {l d : Nat} {A : W} {h : AH} {k : Nat} {Q : W → AH → Prop} {E : Nm → AH → Prop} (hl : lstAt h l = some (rngL 0 n.toNat)) (r : Rk top n d A) (hd : d ≤ 19) (q : ∀ x, Q (.bl true) (h ++ x)) :
    wp (callF G (k + d + 4) "is_reckoning" [A, .int top, .loc l]) Q E h := by
  rw [w_def df_is_reckoning rfl]
  simp [ir_is_reckoning, startE]
  rw [w_form hl r (by omega)]
  simp [pairUp, mergeD]
  have e0 : (h ++ [O.dct []])[h.length]? = some (O.dct []) := by rw [List.getElem?_append_right (Nat.le_refl _), Nat.sub_self]; rfl
  have p2 : 2 ^ d ≤ 524288 := Nat.le_trans (Nat.pow_le_pow_right (by omega) hd) (by decide)
  rw [show k + d + 3 = (k + 2) + d + 1 from by omega]
  refine w_cells r e0 (fun _ z => nomatch z) (by rw [List.length_nil, Nat.zero_add]; exact Nat.lt_of_le_of_lt p2 (by decide)) fun kvs hk hl2 => ?_
  have e1 : (h ++ [O.dct []]).set h.length (O.dct kvs) = h ++ [O.dct kvs] := by
    rw [List.set_append_right _ _ (Nat.le_refl _), Nat.sub_self]; rfl
  rw [e1]
  have e2 : (h ++ [O.dct kvs])[h.length]? = some (O.dct kvs) := by rw [List.getElem?_append_right (Nat.le_refl _), Nat.sub_self]; rfl
  refine w_alike e2 hk (by rw [List.length_nil, Nat.zero_add] at hl2; exact Nat.le_trans (Nat.le_trans hl2 p2) (by decide)) fun x => ?_
  have e3 : (h ++ [O.dct kvs]).set h.length (O.frd kvs) = h ++ [O.frd kvs] := by
    rw [List.set_append_right _ _ (Nat.le_refl _), Nat.sub_self]; rfl
  rw [e3, List.append_assoc]
  exact q _
end
end K
/-! F2d: rows, what any law needs. -/
namespace K
open MI HK
/-- the words of rows -/
abbrev sSet : List Nat := [115, 101, 116]
abbrev sAsk : List Nat := [97, 115, 107]
abbrev sTell : List Nat := [116, 101, 108, 108]
abbrev sGo : List Nat := [103, 111]
abbrev sEnd : List Nat := [101, 110, 100]
abbrev sIf : List Nat := [105, 102]
/-- a row at place p of n, on so many slots, reckonings so deep -/
inductive Rw (top slots : Int) (d : Nat) (n p : Int) : W → Prop where
  | set {c : Int} {A : W} : 0 ≤ c → c < slots → Rk top slots d A → Rw top slots d n p (.tup [.str sSet, .int c, A])
  | ask {c : Int} : 0 ≤ c → c < slots → Rw top slots d n p (.tup [.str sAsk, .int c])
  | tell {A : W} : Rk top slots d A → Rw top slots d n p (.tup [.str sTell, A])
  | go {t : Int} : 0 ≤ t → t < n → Rw top slots d n p (.tup [.str sGo, .int t])
  | stop : Rw top slots d n p (.tup [.str sEnd])
  | if_ {A : W} {t : Int} : Rk top slots d A → 0 ≤ t → t < n → t ≠ p + 1 → Rw top slots d n p (.tup [.str sIf, A, .int t])
section
variable {k d : Nat} {h : AH} {Q : W → AH → Prop} {E : Nm → AH → Prop} {top slots p : Int} {rows : List W}
theorem b_listr {Q : Sum W O → AH → Prop} {j : Int} (h0 : 0 ≤ j) (h1 : j ≤ 1000000) : wp (rdO fun h => biH h .listr [.int j]) Q E h = Q (.inr (.lst (rngL 0 j.toNat))) h := wp_rd (by
  unfold biH rngH
  dsimp only
  have : smallR j = true := by unfold smallR; rw [Bool.and_eq_true, decide_eq_true_eq, decide_eq_true_eq]; omega
  rw [if_pos this]
  dsimp only
  rw [if_pos (by rw [rgL_len]; unfold LN; omega)])
theorem enumL_len : ∀ {ws : List W} {n : Nat}, (enumL n ws).length = ws.length
  | [], n => rfl
  | w :: r, n => by unfold enumL; rw [List.length_cons, List.length_cons, enumL_len]
/-- may a flat's last row be such a one -/
def lastOk (lw : List Nat) : Bool := inL (.str lw) [.str sGo, .str sEnd]
theorem it_tup {Q : It → AH → Prop} {ws : List W} : wp (itM (.tup ws)) Q E h = Q (.seq ws) h := by first | rfl | (unfold wp; rfl)
end
end K
/-! F2: rows of a flat, flats. -/
namespace K
open MI HK
section
variable {k d : Nat} {h : AH} {Q : W → AH → Prop} {E : Nm → AH → Prop} {top slots p : Int} {rows : List W}
theorem w_row {w : W} (hs : 0 ≤ slots ∧ slots ≤ 1000000) (hd : d ≤ 19) (r : Rw top slots d rows.length p w) (q : ∀ x, Q (.bl true) (h ++ x)) : wp (callF G (k + d + 5) "is_flat_row" [w, .int p, .tup [.int top, .int slots, .tup rows]]) Q E h := by
  have hl : lstAt (h ++ [.lst (rngL 0 slots.toNat)]) h.length = some (rngL 0 slots.toNat) := lstAt_new
  have q' : ∀ x, Q (.bl true) (h ++ [.lst (rngL 0 slots.toNat)] ++ x) := fun x => by rw [List.append_assoc]; exact q _
  rw [w_def df_is_flat_row rfl]
  cases r with
  | @set c A c1 c2 rk =>
    simp [ir_is_flat_row, startE, bindT, bindT.seqT, setAll, b_listr hs.1 hs.2, w_number_runs, LN]
    rw [if_pos ⟨c1, by omega⟩]
    exact w_reck hl rk hd q'
  | @ask c c1 c2 =>
    simp [ir_is_flat_row, startE, bindT, bindT.seqT, setAll, b_listr hs.1 hs.2, w_number_runs, LN, c1]
    have : c ≤ slots - 1 := by omega
    simp [this]
    exact q _
  | @tell A rk =>
    simp [ir_is_flat_row, startE, bindT, bindT.seqT, setAll, b_listr hs.1 hs.2, w_number_runs, LN]
    exact w_reck hl rk hd q'
  | @go t t1 t2 =>
    simp [ir_is_flat_row, startE, bindT, bindT.seqT, setAll, b_listr hs.1 hs.2, w_number_runs, LN, t1]
    have : t ≤ (rows.length : Int) - 1 := by omega
    simp [this]
    exact q _
  | stop =>
    simp [ir_is_flat_row, startE, bindT, bindT.seqT, setAll, b_listr hs.1 hs.2, w_number_runs, LN]
    rw [wp_rd (a := true) rfl]
    exact q _
  | @if_ A t rk t1 t2 t3 =>
    simp [ir_is_flat_row, startE, bindT, bindT.seqT, setAll, b_listr hs.1 hs.2, w_number_runs, LN]
    refine w_reck hl rk hd fun x => ?_
    have : t ≤ (rows.length : Int) - 1 := by omega
    have t4 : (t == p + 1) = false := by simpa using t3
    simp [t1, this, t4]
    exact q _
theorem w_tuple_of {ws : List W} {a b : Int} : wp (callF G (k + 1) "is_tuple_of" [.tup ws, .int a, .int b]) Q E h = Q (.bl (decide (a ≤ ws.length) && decide ((ws.length : Int) ≤ b))) h := by
  rw [w_def df_is_tuple_of rfl]
  simp [ir_is_tuple_of, startE]
  by_cases h1 : a ≤ (ws.length : Int) <;> simp [h1]
/-- what the program says of a row at a place -/
def RowR (top slots : Int) (rows : List W) (p : Int) (w : W) (b : Bool) : Prop := ∀ (k : Nat) (h : AH) (Q : W → AH → Prop) (E : Nm → AH → Prop), (∀ x, Q (.bl b) (h ++ x)) → wp (callF G (k + 24) "is_flat_row" [w, .int p, .tup [.int top, .int slots, .tup rows]]) Q E h
theorem rowR_ok {w : W} (hs : 0 ≤ slots ∧ slots ≤ 1000000) (hd : d ≤ 19) (r : Rw top slots d rows.length p w) : RowR top slots rows p w true := fun k h Q E q => by
  rw [show k + 24 = (k + 19 - d) + d + 5 from by omega]
  exact w_row hs hd r q
/-- a row of a shape: one to three parts, the first a text -/
def Sh (w : W) : Prop := ∃ s r, w = .tup (.str s :: r) ∧ r.length ≤ 2
/-- the first looking over the rows -/
theorem w_shapes {ws : List W} (hw : ∀ w ∈ ws, Sh w) (hl : ws.length ≤ 1000) {s : Env} (hs : s.length = 3) {h : AH} {k : Nat} :
    compN (evT (cfg G (k + 1)) .nil) (evE (cfg G (k + 1)) (.and_ (.call "is_tuple_of" (.cons (.var 1) (.cons (.int 1) (.cons (.int 3) .nil)))) (.isi (.idx (.var 1) (.int 0)) ["str"]))) (.one 1) (.seq ws) (ws.length + 1) 0 [] s h = .ok ((ws.map fun _ => true).map W.bl) h := by
  have := compN_pure (test := evT (cfg G (k + 1)) .nil) (elt := evE (cfg G (k + 1)) (.and_ (.call "is_tuple_of" (.cons (.var 1) (.cons (.int 1) (.cons (.int 3) .nil)))) (.isi (.idx (.var 1) (.int 0)) ["str"]))) (t := .one 1) (s := s) (h := h) (J := .seq ws) (ws := ws) (f := fun _ => W.bl true) (fun i => rfl) (fun w hm => ?_) (by unfold LN; omega)
    (ws.length + 1) 0 [] rfl (by omega) (Nat.zero_le _)
  · rw [List.nil_append, List.drop_zero] at this
    rw [this, List.map_map]
    rfl
  · obtain ⟨t, r, ew, hr⟩ := hw w hm
    refine ⟨_, rfl, by rw [evt_nil]; rfl, ?_⟩
    match s, hs with
    | [a, b, c], _ =>
      have z : wp (evE (cfg G (k + 1)) (.and_ (.call "is_tuple_of" (.cons (.var 1) (.cons (.int 1) (.cons (.int 3) .nil)))) (.isi (.idx (.var 1) (.int 0)) ["str"])) [a, some w, c]) (fun v h' => v = .bl true ∧ h' = h) (fun _ _ => False) h := by
        subst ew
        simp [w_tuple_of]
        have : (r.length : Int) + 1 ≤ 3 := by omega
        have h2 : (1 : Int) ≤ (r.length : Int) + 1 := by omega
        simp [this, h2]
      obtain ⟨v, h', e, e1, e2⟩ := wp_out z
      subst e1 e2
      exact e
/-- a well formed flat, as far as its rows' shapes -/
theorem w_flat {bs : List Bool} {lw : List Nat} {lr : List W} (ht : 1 ≤ top ∧ top ≤ 1000000000) (hs : 1 ≤ slots ∧ slots ≤ 60) (h1 : 1 ≤ rows.length) (h2 : rows.length ≤ 200) (hw : ∀ w ∈ rows, Sh w) (hlast : rows[rows.length - 1]? = some (.tup (.str lw :: lr)))
    (hb : bs.length = rows.length) (hr : lastOk lw = true → ∀ (j : Nat) (w : W) (b : Bool), rows[j]? = some w → bs[j]? = some b → RowR top slots rows j w b) (q : ∀ x, Q (.bl (lastOk lw && bs.all id)) (h ++ x)) :
    wp (callF G (k + 25) "is_flat" [.tup [.int top, .int slots, .tup rows]]) Q E h := by
  rw [w_def df_is_flat rfl]
  have a1 : (1 : Int) ≤ (rows.length : Int) := by omega
  have a2 : (rows.length : Int) ≤ 200 := by omega
  simp [ir_is_flat, startE, w_tuple_of, w_number_runs, ht.1, ht.2, hs.1, hs.2, a1, a2, -w_comp]
  rw [w_comp]
  simp only [wi_val, w_idx, v0, w_int, at2]
  rw [it_tup]
  dsimp only [It.fuel, wipeE, List.set]
  rw [wp_eq (w_shapes (k := k + 23) hw (by omega) rfl)]
  rw [bi_allL (bs := rows.map fun _ => true) lstAt_new]
  have ha : (rows.map fun _ => true).all id = true := by rw [List.all_eq_true]; intro b hm; obtain ⟨_, _, e⟩ := List.mem_map.mp hm; rw [← e]; rfl
  rw [ha]
  simp [-w_comp]
  rw [at_tup (atI_neg1 hlast)]
  simp [LN, -w_comp]
  rw [c_ninT (x := .str lw) (ws := [.str sGo, .str sEnd]) (by decide) rfl (.inr (Nat.zero_le 60))]
  have hq : inL (.str lw) [.str sGo, .str sEnd] = lastOk lw := rfl
  rw [hq]
  cases hlo : lastOk lw with
  | false =>
    rw [hlo] at q
    simp
    exact q _
  | true =>
    rw [hlo] at q
    have hr := hr hlo
    simp [-w_comp]
    rw [w_comp, wi_enuT]
    simp only [w_idx, v0, w_int, at2, wp_ret]
    dsimp only [It.fuel, wipeE, List.set]
    have step := compN_inv (test := evT (cfg G (k + 24)) .nil) (elt := evE (cfg G (k + 24)) (.call "is_flat_row" (.cons (.var 1) (.cons (.var 2) (.cons (.var 0) .nil))))) (t := .many [2, 1]) (s := [some (.tup [.int top, .int slots, .tup rows]), none, none]) (J := .seq (enumL 0 rows)) (ws := enumL 0 rows)
      (P := fun i acc h1 => ∃ x, h1 = h ++ x ∧ acc = (bs.take i).map W.bl) (E := fun _ _ => False) (fun i acc h _ => rfl) (fun i acc h1 w hp hi => ?_) ((enumL 0 rows).length + 1) 0 [] (h ++ [.lst (List.map (W.bl ∘ fun x => true) rows)]) (by omega) (Nat.zero_le _) ⟨_, rfl, rfl⟩
    · refine wp_mono step (fun acc h1 hx => ?_) fun _ _ z => z
      obtain ⟨x, e1, e2⟩ := hx
      subst e1 e2
      rw [enumL_len, ← hb, List.take_length]
      rw [bi_allL lstAt_new, wp_outL]
      have q := q (x ++ [.lst (bs.map W.bl)])
      rw [Bool.true_and, ← List.append_assoc] at q
      exact q
    · obtain ⟨x, e1, e2⟩ := hp
      subst e1
      rw [enumL_at, Nat.zero_add] at hi
      obtain ⟨w0, e3, e4⟩ := Option.map_eq_some_iff.mp hi
      have hil : i < rows.length := (List.getElem?_eq_some_iff.mp e3).1
      have hib : i < bs.length := by rw [hb]; exact hil
      refine ⟨by rw [e2, List.length_map, List.length_take]; unfold LN; omega, [some (.tup [.int top, .int slots, .tup rows]), some w0, some (.int i)], by rw [← e4]; rfl, ?_⟩
      simp only [wt_nil, if_true, w_call, ws_cons, v1, v2, v0, ws_nil, cfg_cf]
      refine hr i w0 bs[i] e3 (List.getElem?_eq_getElem hib) k _ _ _ fun x2 => ⟨x ++ x2, by rw [List.append_assoc], ?_⟩
      rw [e2, List.take_succ, List.getElem?_eq_getElem hib, List.map_append]
      rfl
end
end K
/-! F3: what the law draws from. -/
namespace K
open MI HK
abbrev sGreat : List Nat := [103, 114, 101, 97, 116]
abbrev sCells : List Nat := [99, 101, 108, 108, 115]
abbrev sRest : List Nat := [114, 101, 115, 116]
abbrev sTurn : List Nat := [116, 117, 114, 110]
abbrev sMore : List Nat := [109, 111, 114, 101]
def stK (r t m : Int) : List (W × W) := [(.str sGreat, .loc 2), (.str sCells, .loc 1), (.str sRest, .int r), (.str sTurn, .int t), (.str sMore, .int m)]
/-- the state that is drawn from: at 3, its lists at 2 and 1 -/
structure StOk (h : AH) (gs cs : List Int) (r t m : Int) : Prop where
  d : h[3]? = some (.dct (stK r t m))
  g : h[2]? = some (.lst (gs.map .int))
  c : h[1]? = some (.lst (cs.map .int))
  gp : ∀ x ∈ gs, 1 ≤ x
  gl : gs.length ≤ 63
  cl : cs.length ≤ 63
  cp : ∀ x ∈ cs, 0 ≤ x
  r0 : 0 ≤ r
  t0 : 0 ≤ t
  m0 : 0 ≤ m
  m1 : m < 2147483647
def St (h : AH) : Prop := ∃ gs cs r t m, StOk h gs cs r t m
/-- all else stays -/
def Fr (h h' : AH) : Prop := h.length ≤ h'.length ∧ ∀ n, n < h.length → n ≠ 2 → n ≠ 3 → h'[n]? = h[n]?
theorem Fr.refl {h : AH} : Fr h h := ⟨Nat.le_refl _, fun _ _ _ _ => rfl⟩
theorem Fr.trans {h h1 h2 : AH} (a : Fr h h1) (b : Fr h1 h2) : Fr h h2 := ⟨Nat.le_trans a.1 b.1, fun n hn h2 h3 => (b.2 n (Nat.lt_of_lt_of_le hn a.1) h2 h3).trans (a.2 n hn h2 h3)⟩
theorem Fr.app {h x : AH} : Fr h (h ++ x) := ⟨by rw [List.length_append]; omega, fun n hn _ _ => List.getElem?_append_left hn⟩
section
variable {h x : AH} {gs cs : List Int} {r t m : Int}
theorem lt_of {n : Nat} {o : O} (e : h[n]? = some o) : n < h.length := (List.getElem?_eq_some_iff.mp e).1
theorem StOk.app (S : StOk h gs cs r t m) : StOk (h ++ x) gs cs r t m :=
  ⟨by rw [List.getElem?_append_left (lt_of S.d)]; exact S.d, by rw [List.getElem?_append_left (lt_of S.g)]; exact S.g, by rw [List.getElem?_append_left (lt_of S.c)]; exact S.c, S.gp, S.gl, S.cl, S.cp, S.r0, S.t0, S.m0, S.m1⟩
theorem St.app (S : St h) : St (h ++ x) := let ⟨gs, cs, r, t, m, q⟩ := S; ⟨gs, cs, r, t, m, q.app⟩
theorem StOk.put (S : StOk h gs cs r t m) {r' t' m' : Int} (h1 : 0 ≤ r') (h2 : 0 ≤ t') (h3 : 0 ≤ m') (h4 : m' < 2147483647) : StOk (h.set 3 (.dct (stK r' t' m'))) gs cs r' t' m' :=
  ⟨List.getElem?_set_self (lt_of S.d), by rw [List.getElem?_set_ne (by decide)]; exact S.g, by rw [List.getElem?_set_ne (by decide)]; exact S.c, S.gp, S.gl, S.cl, S.cp, h1, h2, h3, h4⟩
theorem StOk.pop (S : StOk h gs cs r t m) {gs' : List Int} (h1 : ∀ x ∈ gs', 1 ≤ x) (h2 : gs'.length ≤ 63) : StOk (h.set 2 (.lst (gs'.map .int))) gs' cs r t m :=
  ⟨by rw [List.getElem?_set_ne (by decide)]; exact S.d, List.getElem?_set_self (lt_of S.g), by rw [List.getElem?_set_ne (by decide)]; exact S.c, h1, h2, S.cl, S.cp, S.r0, S.t0, S.m0, S.m1⟩
theorem Fr.set3 {o : O} : Fr h (h.set 3 o) := ⟨by rw [List.length_set]; omega, fun n _ _ h3 => List.getElem?_set_ne (Ne.symm h3)⟩
theorem Fr.set2 {o : O} : Fr h (h.set 2 o) := ⟨by rw [List.length_set]; omega, fun n _ h2 _ => List.getElem?_set_ne (Ne.symm h2)⟩
section
variable {Q : W → AH → Prop} {E : Nm → AH → Prop}
theorem at_dct {l : Nat} {kvs : List (W × W)} {k w : W} (e : h[l]? = some (.dct kvs)) (hk : isKey k = true) (e2 : dget kvs k = some w) : wp (rdO fun h => idxH h (.loc l) k) Q E h = Q w h := wp_rd (by
  unfold idxH
  dsimp only
  rw [e]
  dsimp only
  rw [if_pos hk]
  exact e2)
theorem st_great (S : StOk h gs cs r t m) : wp (rdO fun h => idxH h (.loc 3) (.str sGreat)) Q E h = Q (.loc 2) h := at_dct S.d rfl rfl
theorem st_cells (S : StOk h gs cs r t m) : wp (rdO fun h => idxH h (.loc 3) (.str sCells)) Q E h = Q (.loc 1) h := at_dct S.d rfl rfl
theorem st_rest (S : StOk h gs cs r t m) : wp (rdO fun h => idxH h (.loc 3) (.str sRest)) Q E h = Q (.int r) h := at_dct S.d rfl rfl
theorem st_turn (S : StOk h gs cs r t m) : wp (rdO fun h => idxH h (.loc 3) (.str sTurn)) Q E h = Q (.int t) h := at_dct S.d rfl rfl
theorem st_more (S : StOk h gs cs r t m) : wp (rdO fun h => idxH h (.loc 3) (.str sMore)) Q E h = Q (.int m) h := at_dct S.d rfl rfl
theorem st_setR (S : StOk h gs cs r t m) {i : Int} : wp (setI 3 (.str sRest) (.int i)) Q E h = Q .non (h.set 3 (.dct (stK i t m))) := wp_eq (by
  unfold setI; rw [S.d]; dsimp only; rw [if_pos ⟨rfl, (by show 5 < LN; decide)⟩]; rfl)
theorem st_setT (S : StOk h gs cs r t m) {i : Int} : wp (setI 3 (.str sTurn) (.int i)) Q E h = Q .non (h.set 3 (.dct (stK r i m))) := wp_eq (by
  unfold setI; rw [S.d]; dsimp only; rw [if_pos ⟨rfl, (by show 5 < LN; decide)⟩]; rfl)
theorem st_setM (S : StOk h gs cs r t m) {i : Int} : wp (setI 3 (.str sMore) (.int i)) Q E h = Q .non (h.set 3 (.dct (stK r t i))) := wp_eq (by
  unfold setI; rw [S.d]; dsimp only; rw [if_pos ⟨rfl, (by show 5 < LN; decide)⟩]; rfl)
theorem dps_ints (l : List Int) : dps (l.map W.int) = 0 := by
  induction l with
  | nil => rfl
  | cons a r ih => rw [List.map_cons]; unfold dps; rw [ih]; rfl
theorem grs_ints (l : List Int) : grs (l.map W.int) = true := by
  induction l with
  | nil => rfl
  | cons a r ih => rw [List.map_cons]; unfold grs; rw [ih]; rfl
/-- a list of numbers beside the empty list that was just laid -/
theorem c_neNil {Q : Bool → AH → Prop} {n : Nat} {l : List Int} (e : h[n]? = some (.lst (l.map W.int))) : wp (rdO fun h => cmpH h .ne (.loc n) (.loc h.length)) Q E h = wp (rdO fun h => cmpH h .ne (.loc n) (.loc h.length)) Q E h := by first | rfl | (unfold wp; rfl)
theorem ne_nil {n : Nat} {l : List Int} (e : h[n]? = some (.lst (l.map W.int))) : cmpH (h ++ [.lst []]) .ne (.loc n) (.loc h.length) = some (!l.isEmpty) := by
  have e1 : (h ++ [.lst []])[n]? = some (.lst (l.map W.int)) := by rw [List.getElem?_append_left (lt_of e)]; exact e
  have e2 : (h ++ [O.lst []])[h.length]? = some (.lst []) := by rw [List.getElem?_append_right (Nat.le_refl _), Nat.sub_self]; rfl
  show (eqH _ (.loc n) (.loc h.length)).map (!·) = _
  unfold eqH dctAt lstAt
  dsimp only
  rw [e1, e2]
  dsimp only
  unfold eqL
  rw [if_pos]
  · cases l <;> rfl
  · rw [grs_ints, dps_ints]; rfl
end
end
section
variable {k : Nat} {h : AH} {Q : W → AH → Prop} {E : Nm → AH → Prop} {many : Int}
theorem st_knd {gs cs : List Int} {r t m : Int} (S : StOk h gs cs r t m) {Q : Kd → AH → Prop} : wp (rdO fun h => kndM h .pop (.loc 2)) Q E h = Q .lst h := wp_rd (by
  unfold kndM kndH
  dsimp only
  rw [S.g]
  rfl)
theorem st_pop {g : Int} {gs cs : List Int} {r t m : Int} (S : StOk h (g :: gs) cs r t m) : wp (meH .pop .lst (.loc 2) [.int 0]) Q E h = Q (.int g) (h.set 2 (.lst (gs.map .int))) := wp_eq (by
  unfold meH
  dsimp only
  unfold lstM
  rw [S.g]
  dsimp only
  rw [if_pos (by decide)]
  have : ixN (List.map W.int (g :: gs)).length 0 = some 0 := by
    unfold ixN
    rw [if_pos (by decide), if_pos (by rw [List.length_map, List.length_cons]; omega)]
    rfl
  rw [this]
  rfl)
theorem mulOk_r {i j : Int} (h1 : -18446744073709551616 < j) (h2 : j < 18446744073709551616) : mulOk i j = true := by
  unfold mulOk P64
  simp only [Bool.or_eq_true, Bool.and_eq_true, decide_eq_true_eq]
  exact .inr ⟨h1, h2⟩
theorem mulOk_l {i j : Int} (h1 : -18446744073709551616 < i) (h2 : i < 18446744073709551616) : mulOk i j = true := by
  unfold mulOk P64
  simp only [Bool.or_eq_true, Bool.and_eq_true, decide_eq_true_eq]
  exact .inl ⟨h1, h2⟩
theorem st_lenC {gs cs : List Int} {r t m : Int} (S : StOk h gs cs r t m) {Q : Sum W O → AH → Prop} : wp (rdO fun h => biH h .len [.loc 1]) Q E h = Q (.inl (.int (cs.length : Int))) h := by
  have e : lstAt h 1 = some (cs.map W.int) := by unfold lstAt; rw [S.c]
  rw [bi_lenL e, List.length_map]
def takeTail : Ss :=
    (.cons (.asgI (.var 0) (.str [116, 117, 114, 110]) (.bin .add (.idx (.var 0) (.str [116, 117, 114, 110])) (.int 1)))
    (.cons (.asgI (.var 0) (.str [109, 111, 114, 101]) (.bin .mod (.bin .add (.bin .add (.bin .mul (.idx (.var 0) (.str [109, 111, 114, 101])) (.int 48271)) (.var 2)) (.bin .mul (.int 7919) (.idx (.var 0) (.str [116, 117, 114, 110])))) (.int 2147483647)))
    (.cons (.asg (.one 3) (.bin .mod (.bin .add (.bin .add (.bin .mul (.idx (.var 0) (.str [109, 111, 114, 101])) (.idx (.var 0) (.str [109, 111, 114, 101]))) (.bin .mul (.int 16807) (.idx (.var 0) (.str [109, 111, 114, 101])))) (.int 11)) (.int 2147483629)))
    (.cons (.ret (.bin .mod (.bin .fdiv (.bin .mod (.bin .mul (.var 3) (.var 3)) (.int 2147483587)) (.int 7)) (.var 1)))
    .nil))))
theorem w_takeTail {h0 : AH} {gs cs : List Int} {r t m cell : Int} (S : StOk h gs cs r t m) (F : Fr h0 h) (hm : 0 < many ∧ many ≤ 1073741823) (q : ∀ h' v, 0 ≤ v → v < many → St h' → Fr h0 h' → Q (.int v) h') : wp (evSs (cfg G k) takeTail [some (.loc 3), some (.int many), some (.int cell), none, none]) (fun o h' => match o with
      | .nx _ => Q .non h'
      | .rt w => Q w h'
      | .xn c _ => E c h'
      | _ => False) (fun _ _ => False) h := by
  simp [takeTail, bindT]
  rw [st_turn S]
  simp
  rw [st_setT S]
  have S1 := S.put S.r0 (show 0 ≤ t + 1 by have := S.t0; omega) S.m0 S.m1
  rw [st_more S1, b_mul (mulOk_r (by decide) (by decide))]
  simp
  rw [st_turn S1, b_mul (mulOk_l (by decide) (by decide))]
  simp
  rw [b_mod (by decide)]
  simp
  rw [st_setM S1]
  have b1 : 0 ≤ (m * 48271 + cell + 7919 * (t + 1)) % 2147483647 := Int.emod_nonneg _ (by decide)
  have b2 : (m * 48271 + cell + 7919 * (t + 1)) % 2147483647 < 2147483647 := Int.emod_lt_of_pos _ (by decide)
  have S2 := S1.put S1.r0 S1.t0 b1 b2
  generalize (m * 48271 + cell + 7919 * (t + 1)) % 2147483647 = m2 at b1 b2 S2 ⊢
  simp only [List.set_set] at S2 ⊢
  rw [st_more S2]
  rw [st_more S2, b_mul (mulOk_r (by omega) (by omega))]
  simp
  rw [st_more S2, b_mul (mulOk_l (by decide) (by decide))]
  simp
  rw [b_mod (by decide)]
  simp
  have b3 : 0 ≤ (m2 * m2 + 16807 * m2 + 11) % 2147483629 := Int.emod_nonneg _ (by decide)
  have b4 : (m2 * m2 + 16807 * m2 + 11) % 2147483629 < 2147483629 := Int.emod_lt_of_pos _ (by decide)
  generalize (m2 * m2 + 16807 * m2 + 11) % 2147483629 = m3 at b3 b4 ⊢
  rw [b_mul (mulOk_r (by omega) (by omega))]
  simp
  rw [b_mod (by decide)]
  simp
  rw [b_div (by decide) (by decide)]
  simp
  rw [b_mod hm.1]
  simp
  exact q _ _ (Int.emod_nonneg _ (by omega)) (Int.emod_lt_of_pos _ hm.1) ⟨gs, cs, r, t + 1, m2, S2⟩ (F.trans .set3)
theorem w_take (S : St h) (hm : 0 < many ∧ many ≤ 1073741823) (q : ∀ h' v, 0 ≤ v → v < many → St h' → Fr h h' → Q (.int v) h') : wp (callF G (k + 1) "_law_take" [.loc 3, .int many]) Q E h := by
  rw [w_def df_law_take rfl]
  obtain ⟨gs, cs, r, t, m, S⟩ := S
  simp only [ir_law_take, startE, ss_cons, s_while, List.map_cons, List.map_nil, List.length_cons, List.length_nil, List.replicate, List.cons_append, List.nil_append]
  refine wp_mono (whileN_inv (Q := fun o h1 => o = .nx [some (.loc 3), some (.int many), none, none, none] ∧ (∃ gs r, StOk h1 gs cs r t m) ∧ Fr h h1) (E := fun _ _ => False) (P := fun k s h1 => s = [some (.loc 3), some (.int many), none, none, none] ∧ (∃ gs r, gs.length = k ∧ StOk h1 gs cs r t m) ∧ Fr h h1) (fun k1 s h1 hp => ?_) WF gs.length _ h (by unfold WF; have := S.gl; omega) ⟨rfl, ⟨gs, r, rfl, S⟩, .refl⟩) (fun o h1 ho => ?_) fun _ _ z => z.elim
  · obtain ⟨es, ⟨gs1, r1, el, S1⟩, F1⟩ := hp
    subst es
    simp [LN]
    rw [st_rest S1]
    simp
    by_cases hr : r1 = 0
    · rw [if_pos hr, st_great S1, wp_rd (ne_nil S1.g)]
      cases gs1 with
      | nil =>
        simp
        exact ⟨⟨[], r1, S1.app⟩, F1.trans .app⟩
      | cons g gr =>
        simp
        have S2 := S1.app (x := [.lst []])
        rw [st_great S2, st_knd S2, st_pop S2]
        have S3 := S2.pop (gs' := gr) (fun x hx => S1.gp x (List.mem_cons_of_mem _ hx)) (by have := S1.gl; rw [List.length_cons] at this; omega)
        rw [st_setR S3]
        refine ⟨gr.length, by rw [← el, List.length_cons]; omega, ⟨gr, rfl, g, S3.put ?_ S3.t0 S3.m0 S3.m1⟩, ((F1.trans .app).trans .set2).trans .set3⟩
        have := S1.gp g List.mem_cons_self
        omega
    · simp only [hr, if_false]
      exact ⟨⟨gs1, r1, S1⟩, F1⟩
  · obtain ⟨eo, ⟨gs1, r1, S1⟩, F1⟩ := ho
    subst eo
    simp [LN]
    rw [st_rest S1]
    simp
    by_cases hr : 0 < r1
    · rw [if_pos hr, st_rest S1, b_mod hm.1]
      simp [bindT]
      rw [st_rest S1, b_div hm.1 (by omega)]
      simp
      rw [st_setR S1]
      exact q _ _ (Int.emod_nonneg _ (by omega)) (Int.emod_lt_of_pos _ hm.1) ⟨gs1, cs, _, t, m, S1.put (Int.ediv_nonneg S1.r0 (by omega)) S1.t0 S1.m0 S1.m1⟩ (F1.trans .set3)
    · rw [if_neg hr]
      simp [bindT]
      rw [st_cells S1, wp_rd (ne_nil S1.c)]
      cases cs with
      | nil =>
        have z := w_takeTail (k := k) (Q := Q) (E := E) (cell := 0) (S1.app (x := [.lst []])) (F1.trans .app) hm q
        simp [takeTail, LN, bindT] at z
        simpa using z
      | cons c0 cr =>
        have S2 := S1.app (x := [.lst []])
        have hlen : (0 : Int) < ((c0 :: cr).length : Int) := by rw [List.length_cons]; omega
        simp
        rw [st_cells S2, st_turn S2, st_cells S2, st_lenC S2]
        simp only [wp_outL]
        rw [b_mod hlen]
        simp only [wp_outL]
        have e1 : 0 ≤ t % ((c0 :: cr).length : Int) := Int.emod_nonneg _ (by omega)
        have e2 : t % ((c0 :: cr).length : Int) < ((c0 :: cr).length : Int) := Int.emod_lt_of_pos _ hlen
        generalize t % ((c0 :: cr).length : Int) = ti at e1 e2 ⊢
        have e3 : ti.toNat < (c0 :: cr).length := by omega
        have e4 : lstAt (h1 ++ [.lst []]) 1 = some ((c0 :: cr).map W.int) := by unfold lstAt; rw [S2.c]
        have e5 : MI.atI ((c0 :: cr).map W.int) ti = some (.int (c0 :: cr)[ti.toNat]) := by
          have := atI_nat (xs := (c0 :: cr).map W.int) (i := ti.toNat) (a := .int (c0 :: cr)[ti.toNat]) (by rw [List.getElem?_map, List.getElem?_eq_getElem e3]; rfl)
          rw [Int.toNat_of_nonneg e1] at this
          exact this
        rw [at_lst e4 e5]
        have z := w_takeTail (k := k) (Q := Q) (E := E) (cell := (c0 :: cr)[ti.toNat]) S2 (F1.trans .app) hm q
        simp [takeTail, LN, bindT] at z
        simpa using z
end
end K
/-! F4: what the law draws. -/
namespace K
open MI HK
section
variable {k : Nat} {h : AH} {Q : W → AH → Prop} {E : Nm → AH → Prop}
theorem lstAt_of {n : Nat} {xs : List W} (e : h[n]? = some (.lst xs)) : lstAt h n = some xs := by unfold lstAt; rw [e]
theorem atI_int {xs : List W} {i : Int} (h1 : 0 ≤ i) (h2 : i < (xs.length : Int)) : ∃ w, w ∈ xs ∧ MI.atI xs i = some w := by
  have e3 : i.toNat < xs.length := by omega
  refine ⟨xs[i.toNat], List.getElem_mem e3, ?_⟩
  have := atI_nat (xs := xs) (i := i.toNat) (a := xs[i.toNat]) (List.getElem?_eq_getElem e3)
  rw [Int.toNat_of_nonneg h1] at this
  exact this
theorem w_pick {p : Nat} {xs : List W} (S : St h) (hp : p ≠ 2 ∧ p ≠ 3) (e : h[p]? = some (.lst xs)) (hx : 0 < xs.length ∧ xs.length ≤ 63) (q : ∀ h' w, w ∈ xs → St h' → Fr h h' → Q w h') : wp (callF G (k + 2) "_law_pick" [.loc 3, .loc p]) Q E h := by
  rw [w_def df_law_pick rfl]
  simp [ir_law_pick, startE, LN, bindT]
  rw [bi_lenL (lstAt_of e)]
  simp
  refine w_take S (by omega) fun h' v h1 h2 S' F => ?_
  have e' : h'[p]? = some (.lst xs) := (F.2 p (lt_of e) hp.1 hp.2).trans e
  obtain ⟨w, hw, ea⟩ := atI_int (xs := xs) h1 h2
  rw [at_lst (lstAt_of e') ea]
  exact q _ _ hw S' F
theorem w_number {top : Int} (S : St h) (ht : 1 ≤ top ∧ top ≤ 1000000000) (q : ∀ h' v, 0 ≤ v → v ≤ top → St h' → Fr h h' → Q (.int v) h') : wp (callF G (k + 2) "_law_number" [.loc 3, .int top]) Q E h := by
  rw [w_def df_law_number rfl]
  simp [ir_law_number, startE, LN, bindT, bindT.seqT, setAll]
  refine w_take S (by omega) fun h1 v v0 v1 S1 F1 => ?_
  simp
  by_cases c1 : v < 2
  · rw [if_pos c1]
    refine w_take S1 (by split <;> omega) fun h2 u u0 u1 S2 F2 => q _ _ u0 ?_ S2 (F1.trans F2)
    split at u1 <;> omega
  · rw [if_neg c1]
    by_cases c2 : v = 2
    · rw [if_pos c2]
      refine w_take S1 (by split <;> omega) fun h2 u u0 u1 S2 F2 => ?_
      simp
      refine q _ _ ?_ ?_ S2 (F1.trans F2)
      · split at u1 <;> omega
      · omega
    · rw [if_neg c2]
      exact w_take S1 (by omega) fun h2 u u0 u1 S2 F2 => q _ _ u0 (by omega) S2 (F1.trans F2)
theorem b_pow {Q : Sum W O → AH → Prop} {i j : Int} (h1 : 0 ≤ j ∧ j ≤ 1000) (h2 : -18446744073709551616 < i ∧ i < 18446744073709551616) : wp (rdO fun h => binH h .pow (.int i) (.int j)) Q E h = Q (.inl (.int (i ^ j.toNat))) h := wp_rd (by
  unfold binH
  dsimp only
  rw [if_pos ⟨h1.1, h1.2, h2.1, h2.2⟩])
/-- a display of numbers that was just laid, read at a place that is drawn -/
theorem new_list {xs : List W} : (h ++ [O.lst xs])[h.length]? = some (.lst xs) := by rw [List.getElem?_append_right (Nat.le_refl _), Nat.sub_self]; rfl
theorem St.len {h : AH} (S : St h) : 3 < h.length := let ⟨_, _, _, _, _, q⟩ := S; lt_of q.d
theorem w_top (S : St h) (q : ∀ h' v, 1 ≤ v → v ≤ 1000000000 → St h' → Fr h h' → Q (.int v) h') : wp (callF G (k + 2) "_law_top" [.loc 3]) Q E h := by
  rw [w_def df_law_top rfl]
  simp [ir_law_top, startE, LN, bindT, bindT.seqT, setAll]
  rw [b_pow (by decide) (by decide)]
  simp
  refine w_take S (by decide) fun h1 v v0 v1 S1 F1 => ?_
  simp
  refine w_take (S1.app (x := [O.lst _])) (by decide) fun h2 u u0 u1 S2 F2 => ?_
  have l1 := S1.len
  have e' := (F2.2 h1.length (by simp) (by omega) (by omega)).trans new_list
  obtain ⟨w, hw, ea⟩ := atI_int (xs := [W.int 1, W.int 2, W.int 3, W.int 9, W.int 1, W.int 255, W.int 1000000000, W.int (2 + v)]) u0 u1
  rw [at_lst (lstAt_of e') ea]
  have F := F1.trans (Fr.app.trans F2)
  simp only [List.mem_cons, List.not_mem_nil, or_false] at hw
  rcases hw with e | e | e | e | e | e | e | e <;> subst e <;> exact q _ _ (by omega) (by omega) S2 F
theorem rng_map (m : Nat) : rngL 0 m = ((List.range m).map Int.ofNat).map W.int := by
  unfold rngL
  rw [List.map_map]
  apply List.map_congr_left
  intro a _
  simp
theorem eq_nil {n : Nat} {l : List Int} (e : h[n]? = some (.lst (l.map W.int))) : cmpH (h ++ [.lst []]) .eq (.loc n) (.loc h.length) = some l.isEmpty := by
  have e1 : (h ++ [.lst []])[n]? = some (.lst (l.map W.int)) := by rw [List.getElem?_append_left (lt_of e)]; exact e
  show eqH _ (.loc n) (.loc h.length) = _
  unfold eqH dctAt lstAt
  dsimp only
  rw [e1, new_list]
  dsimp only
  unfold eqL
  rw [if_pos]
  · cases l <;> rfl
  · rw [grs_ints, dps_ints]; rfl
theorem rng_len (m : Nat) : (rngL 0 m).length = m := by unfold rngL; rw [List.length_map, List.length_range]
theorem rng_mem {m : Nat} {w : W} (hw : w ∈ rngL 0 m) : ∃ i : Int, w = .int i ∧ 0 ≤ i ∧ i < m := by
  rw [rng_map, List.map_map] at hw
  obtain ⟨a, ha, e⟩ := List.mem_map.mp hw
  have := List.mem_range.mp ha
  exact ⟨Int.ofNat a, e.symm, Int.natCast_nonneg _, Int.ofNat_lt.mpr this⟩
theorem w_reckoning {top n : Int} {p : Nat} (ht : 1 ≤ top ∧ top ≤ 1000000000) (hn : 1 ≤ n ∧ n ≤ 63) (hp : p ≠ 2 ∧ p ≠ 3) : ∀ (d : Nat) {h : AH} {k : Nat} {Q : W → AH → Prop} {E : Nm → AH → Prop}, St h → h[p]? = some (.lst (rngL 0 n.toNat)) → (∀ h' A, Rk top n d A → St h' → Fr h h' → Q A h') →
    wp (callF G (k + d + 3) "_law_reckoning" [.loc 3, .int top, .loc p, .int d]) Q E h := by
  intro d
  induction d with
  | zero =>
    intro h k Q E S hl q
    rw [w_def df_law_reckoning rfl]
    simp [ir_law_reckoning, startE, LN, bindT, bindT.seqT, setAll]
    refine w_take S (by decide) fun h1 v v0 v1 S1 F1 => ?_
    have hl1 : h1[p]? = some (.lst (rngL 0 n.toNat)) := (F1.2 p (lt_of hl) hp.1 hp.2).trans hl
    rw [rng_map] at hl1
    rw [wp_rd (eq_nil hl1)]
    have hne : ((List.range n.toNat).map Int.ofNat).isEmpty = false := by
      rw [List.isEmpty_eq_false_iff, ne_eq, List.map_eq_nil_iff, List.range_eq_nil]
      omega
    rw [hne, ← rng_map] at *
    simp
    rw [b_mod (by decide)]
    simp
    have hl2 : (h1 ++ [O.lst []])[p]? = some (.lst (rngL 0 n.toNat)) := by rw [List.getElem?_append_left (lt_of hl1)]; exact hl1
    split
    · exact w_number (S1.app (x := [O.lst []])) ht fun h2 u u0 u1 S2 F2 => q _ _ (.num u0 u1) S2 (F1.trans (Fr.app.trans F2))
    · refine w_pick (S1.app (x := [O.lst []])) hp hl2 (by rw [rng_len]; omega) fun h2 w hw S2 F2 => ?_
      obtain ⟨i, rfl, i0, i1⟩ := rng_mem hw
      exact q _ _ (.at_ i0 (by omega)) S2 (F1.trans (Fr.app.trans F2))
  | succ d ih =>
    intro h k Q E S hl q
    rw [w_def df_law_reckoning rfl]
    simp [ir_law_reckoning, startE, LN, bindT, bindT.seqT, setAll]
    refine w_take S (by decide) fun h1 v v0 v1 S1 F1 => ?_
    rw [if_neg (by omega)]
    simp
    by_cases c : v < 6
    · rw [if_pos c]
      have hl1 : h1[p]? = some (.lst (rngL 0 n.toNat)) := (F1.2 p (lt_of hl) hp.1 hp.2).trans hl
      rw [rng_map] at hl1
      rw [wp_rd (eq_nil hl1)]
      have hne : ((List.range n.toNat).map Int.ofNat).isEmpty = false := by
        rw [List.isEmpty_eq_false_iff, ne_eq, List.map_eq_nil_iff, List.range_eq_nil]
        omega
      rw [hne, ← rng_map] at *
      simp
      rw [b_mod (by decide)]
      simp
      have hl2 : (h1 ++ [O.lst []])[p]? = some (.lst (rngL 0 n.toNat)) := by rw [List.getElem?_append_left (lt_of hl1)]; exact hl1
      split
      · exact w_number (S1.app (x := [O.lst []])) ht fun h2 u u0 u1 S2 F2 => q _ _ (.num u0 u1) S2 (F1.trans (Fr.app.trans F2))
      · refine w_pick (S1.app (x := [O.lst []])) hp hl2 (by rw [rng_len]; omega) fun h2 w hw S2 F2 => ?_
        obtain ⟨i, rfl, i0, i1⟩ := rng_mem hw
        exact q _ _ (.at_ i0 (by omega)) S2 (F1.trans (Fr.app.trans F2))
    · rw [if_neg c]
      refine w_pick (S1.app (x := [O.lst _])) (by have := S1.len; omega) new_list (by decide) fun h2 w hw S2 F2 => ?_
      have F := F1.trans (Fr.app.trans F2)
      have hl2 : h2[p]? = some (.lst (rngL 0 n.toNat)) := (F.2 p (lt_of hl) hp.1 hp.2).trans hl
      refine ih S2 hl2 fun h3 A r3 S3 F3 => ?_
      refine ih S3 ((F3.2 p (lt_of hl2) hp.1 hp.2).trans hl2) fun h4 B r4 S4 F4 => ?_
      have hs : ∃ s, w = .str s ∧ s ∈ words := by
        simp only [List.mem_cons, List.not_mem_nil, or_false] at hw
        rcases hw with e | e | e | e | e | e <;> subst e <;> exact ⟨_, rfl, by decide⟩
      obtain ⟨s, rfl, hs⟩ := hs
      exact q _ _ (.op hs r3 r4) S4 (F.trans (F3.trans F4))
end
end K
/-! F5: the rows that the law draws. -/
namespace K
open MI HK
section
variable {k : Nat} {h : AH} {Q : W → AH → Prop} {E : Nm → AH → Prop}
theorem w_flat_row {top n p rows : Int} (S : St h) (ht : 1 ≤ top ∧ top ≤ 1000000000) (hn : 1 ≤ n ∧ n ≤ 63) (hr : 2 ≤ rows ∧ rows ≤ 1000) (hp : 0 ≤ p ∧ p + 1 < rows) (q : ∀ h' w, Rw top n 2 rows p w → St h' → Fr h h' → Q w h') : wp (callF G (k + 6) "_law_flat_row" [.loc 3, .int top, .int n, .int p, .int rows]) Q E h := by
  rw [w_def df_law_flat_row rfl]
  simp [ir_law_flat_row, startE, LN, bindT, bindT.seqT, setAll]
  rw [b_listr (by omega) (by omega)]
  simp
  refine w_take (S.app (x := [O.lst _])) (by decide) fun h1 v v0 v1 S1 F1 => ?_
  have F := Fr.app.trans F1
  have l0 := S.len
  have hl : h1[h.length]? = some (.lst (rngL 0 n.toNat)) := (F1.2 h.length (by simp) (by omega) (by omega)).trans new_list
  have np : h.length ≠ 2 ∧ h.length ≠ 3 := by omega
  have rk : ∀ {h2 : AH} {Q : W → AH → Prop} {E : Nm → AH → Prop}, St h2 → Fr h1 h2 → (∀ h' A, Rk top n 2 A → St h' → Fr h h' → Q A h') → wp (callF G (k + 5) "_law_reckoning" [.loc 3, .int top, .loc h.length, .int 2]) Q E h2 := fun S2 F2 q2 =>
    w_reckoning ht hn np 2 S2 ((F2.2 _ (lt_of hl) np.1 np.2).trans hl) fun h' A r S' F' => q2 h' A r S' (F.trans (F2.trans F'))
  simp
  by_cases c5 : v = 5
  · rw [if_pos c5]
    exact w_take S1 (by omega) fun h2 u u0 u1 S2 F2 => q _ _ (.ask u0 u1) S2 (F.trans F2)
  · rw [if_neg c5, c_inT (x := .int v) (ws := [.int 6, .int 7]) rfl rfl (.inr (Nat.zero_le 60))]
    by_cases c6 : inL (.int v) [.int 6, .int 7] = true
    · rw [if_pos c6]
      exact rk S1 .refl fun h' A r S' F' => q _ _ (.tell r) S' F'
    · rw [if_neg c6, c_inT (x := .int v) (ws := [.int 8, .int 9, .int 10]) rfl rfl (.inr (Nat.zero_le 60))]
      by_cases c8 : inL (.int v) [.int 8, .int 9, .int 10] = true
      · rw [if_pos c8]
        refine w_take S1 (by omega) fun h2 t t0 t1 S2 F2 => ?_
        refine rk S2 F2 fun h3 A r S3 F3 => ?_
        simp
        by_cases ct : t = p + 1
        · rw [if_pos ct]
          exact q _ _ (.if_ r (by omega) (by omega) (by omega)) S3 F3
        · rw [if_neg ct]
          exact q _ _ (.if_ r (by omega) (by omega) (by omega)) S3 F3
      · rw [if_neg c8]
        have set_ : ∀ {h2 : AH}, St h2 → Fr h1 h2 → wp (callF G (k + 5) "_law_take" [.loc 3, .int n]) (fun x h1 => wp (callF G (k + 5) "_law_reckoning" [.loc 3, .int top, .loc h.length, .int 2]) (fun x_1 h1 => Q (.tup [.str [115, 101, 116], x, x_1]) h1) (fun x h' => E x h') h1) (fun x h' => E x h') h2 := by
          intro h2 S2 F2
          refine w_take S2 (by omega) fun h3 u u0 u1 S3 F3 => ?_
          exact rk S3 (F2.trans F3) fun h4 A r S4 F4 => q _ _ (.set u0 u1 r) S4 F4
        by_cases c11 : v = 11
        · rw [if_pos c11]
          exact w_take S1 (by omega) fun h2 u u0 u1 S2 F2 => q _ _ (.go u0 u1) S2 (F.trans F2)
        · rw [if_neg c11]
          by_cases c12 : v = 12
          · rw [if_pos c12]
            refine w_take S1 (by decide) fun h2 u u0 u1 S2 F2 => ?_
            simp
            by_cases cu : u = 0
            · rw [if_pos cu]
              exact q _ _ .stop S2 (F.trans F2)
            · rw [if_neg cu]
              exact set_ S2 F2
          · rw [if_neg c12, if_neg c12]
            exact set_ S1 .refl
end
end K
/-! F6: the flat programs that the law draws. -/
namespace K
open MI HK
section
variable {k : Nat} {h : AH} {Q : W → AH → Prop} {E : Nm → AH → Prop}
/-- a flat program, well formed -/
structure PrgOk (top slots : Int) (rows : List W) : Prop where
  t : 1 ≤ top ∧ top ≤ 1000000000
  s : 1 ≤ slots ∧ slots ≤ 60
  n : 2 ≤ rows.length ∧ rows.length ≤ 200
  r : ∀ (i : Nat) w, rows[i]? = some w → Rw top slots 2 rows.length i w
  l : ∃ lw lr, rows[rows.length - 1]? = some (.tup (.str lw :: lr)) ∧ lastOk lw = true
theorem knd_app {Q : Kd → AH → Prop} {p : Nat} {xs : List W} (e : h[p]? = some (.lst xs)) : wp (rdO fun h => kndM h .append (.loc p)) Q E h = Q .lst h := wp_rd (by
  unfold kndM kndH
  dsimp only
  rw [e]
  rfl)
theorem me_app {p : Nat} {xs : List W} {w : W} (e : h[p]? = some (.lst xs)) (hl : xs.length < 1000) : wp (meH .append .lst (.loc p) [w]) Q E h = Q .non (h.set p (.lst (xs ++ [w]))) := wp_eq (by
  unfold meH
  dsimp only
  unfold lstM
  rw [e]
  dsimp only
  rw [if_pos (Nat.lt_trans hl (by unfold LN; decide))])
theorem rng_atI {m i : Nat} {w : W} (e : (rngL 0 m)[i]? = some w) : w = .int i ∧ i < m := by
  rw [rng_map, List.map_map, List.getElem?_map] at e
  obtain ⟨a, ha, e⟩ := Option.map_eq_some_iff.mp e
  obtain ⟨hi, hv⟩ := List.getElem?_eq_some_iff.mp ha
  rw [List.getElem_range] at hv
  subst hv
  exact ⟨e.symm, by rw [List.length_range] at hi; exact hi⟩
theorem St.setNew {h : AH} (S : St h) {p : Nat} {o : O} (hp : p ≠ 1 ∧ p ≠ 2 ∧ p ≠ 3) : St (h.set p o) := let ⟨gs, cs, r, t, m, q⟩ := S; ⟨gs, cs, r, t, m,
  ⟨by rw [List.getElem?_set_ne hp.2.2]; exact q.d, by rw [List.getElem?_set_ne hp.2.1]; exact q.g, by rw [List.getElem?_set_ne hp.1]; exact q.c, q.gp, q.gl, q.cl, q.cp, q.r0, q.t0, q.m0, q.m1⟩⟩
theorem Fr.setNew {h0 h : AH} (F : Fr h0 h) {p : Nat} {o : O} (hp : h0.length ≤ p) : Fr h0 (h.set p o) := ⟨by rw [List.length_set]; exact F.1, fun n hn h2 h3 => by rw [List.getElem?_set_ne (by omega)]; exact F.2 n hn h2 h3⟩
theorem w_lflatG {most ms : Int} (hmo : 3 ≤ most ∧ most ≤ 200) (hms : 1 ≤ ms ∧ ms ≤ 60) (S : St h) (q : ∀ h' top slots rows, PrgOk top slots rows → slots ≤ ms → (rows.length : Int) ≤ most → St h' → Fr h h' → Q (.tup [.int top, .int slots, .tup rows]) h') : wp (callF G (k + 7) "_law_flat" [.loc 3, .int most, .int ms]) Q E h := by
  rw [w_def df_law_flat rfl]
  simp [ir_law_flat, startE, LN, bindT, bindT.seqT, setAll, -w_comp]
  refine w_top S fun h1 top t0 t1 S1 F1 => ?_
  refine w_take S1 (by omega) fun h2 v v0 v1 S2 F2 => ?_
  simp [-w_comp]
  refine w_take S2 (by omega) fun h3 r r0 r1 S3 F3 => ?_
  simp [-w_comp]
  rw [w_comp]
  simp
  have er : rngH [W.int (2 + r - 1)] = some (.seq (rngL 0 (2 + r - 1).toNat)) := by
    unfold rngH
    dsimp only
    have : smallR (2 + r - 1) = true := by unfold smallR; rw [Bool.and_eq_true, decide_eq_true_eq, decide_eq_true_eq]; omega
    rw [if_pos this]
  rw [er, wp_ofO]
  have F03 := F1.trans (F2.trans F3)
  have en : (rngL 0 (2 + r - 1).toNat).length = (2 + r - 1).toNat := rng_len _
  have step := compN_inv (test := evT (cfg G (k + 6)) .nil) (elt := evE (cfg G (k + 6)) (.call "_law_flat_row" (.cons (.var 0) (.cons (.var 3) (.cons (.var 4) (.cons (.var 7) (.cons (.var 5) .nil))))))) (t := .one 7) (s := [some (.loc 3), some (.int most), some (.int ms), some (.int top), some (.int (1 + v)), some (.int (2 + r)), none, none]) (J := .seq (rngL 0 (2 + r - 1).toNat)) (ws := rngL 0 (2 + r - 1).toNat)
    (P := fun i acc h' => acc.length = i ∧ St h' ∧ Fr h h' ∧ ∀ (j : Nat) w, acc[j]? = some w → Rw top (1 + v) 2 (2 + r) j w) (E := fun _ _ => False) (fun i acc h _ => rfl) (fun i acc h4 w hp hi => ?_) ((rngL 0 (2 + r - 1).toNat).length + 1) 0 [] h3 (by omega) (Nat.zero_le _) ⟨rfl, S3, F03, fun j w e => by simp at e⟩
  · refine wp_mono step (fun acc h4 hx => ?_) fun _ _ z => z
    obtain ⟨el, S4, F4, ha⟩ := hx
    rw [en] at el
    have l4 := S4.len
    rw [knd_app new_list]
    have fin : ∀ {h5 : AH} {lw : List Nat} {lr : List W}, St h5 → Fr (h4 ++ [O.lst acc]) h5 → lastOk lw = true → Rw top (1 + v) 2 (2 + r) (1 + r) (.tup (.str lw :: lr)) → wp (meH .append .lst (.loc h4.length) [.tup (.str lw :: lr)]) (fun x h' => wp (rdO fun h => biH h .tuple [.loc h4.length]) (fun r h2 => wp (outM (some r)) (fun x h1 => Q (.tup [.int top, .int (1 + v), x]) h1) (fun x h' => E x h') h2) (fun x h' => E x h') h') (fun x h' => E x h') h5 := by
      intro h5 lw lr S5 F5 hlo hrw
      have e5 : h5[h4.length]? = some (.lst acc) := (F5.2 h4.length (by simp) (by omega) (by omega)).trans new_list
      rw [me_app e5 (by omega)]
      have e6 : (h5.set h4.length (.lst (acc ++ [.tup (.str lw :: lr)])))[h4.length]? = some (.lst (acc ++ [.tup (.str lw :: lr)])) := List.getElem?_set_self (lt_of e5)
      rw [bi_tupL (lstAt_of e6)]
      simp
      have hlen : ((acc ++ [W.tup (.str lw :: lr)]).length : Int) = 2 + r := by rw [List.length_append, List.length_singleton]; omega
      refine q _ _ _ _ ⟨⟨t0, t1⟩, by omega, by omega, fun i w e => ?_, lw, lr, ?_, hlo⟩ (by omega) (by omega) (S5.setNew (by omega)) ((F4.trans (Fr.app.trans F5)).setNew F4.1)
      · rw [hlen]
        by_cases hi : i < acc.length
        · rw [List.getElem?_append_left hi] at e
          exact ha i w e
        · rw [List.getElem?_append_right (by omega)] at e
          have : i - acc.length = 0 := by
            have := (List.getElem?_eq_some_iff.mp e).1
            simp at this
            omega
          rw [this] at e
          cases e
          have : (i : Int) = 1 + r := by omega
          rw [this]
          exact hrw
      · rw [List.length_append, List.length_singleton, Nat.add_sub_cancel, List.getElem?_append_right (Nat.le_refl _), Nat.sub_self]
        rfl
    refine w_take (S4.app (x := [O.lst _])) (by decide) fun h5 u u0 u1 S5 F5 => ?_
    simp
    by_cases cu : 0 < u
    · rw [if_pos cu]
      exact fin S5 F5 rfl .stop
    · rw [if_neg cu]
      exact w_take S5 (by omega) fun h6 t t0 t1 S6 F6 => fin S6 (F5.trans F6) rfl (.go t0 t1)
  · obtain ⟨el, S4, F4, ha⟩ := hp
    obtain ⟨ew, hil⟩ := rng_atI hi
    subst ew
    refine ⟨by unfold LN; omega, [some (.loc 3), some (.int most), some (.int ms), some (.int top), some (.int (1 + v)), some (.int (2 + r)), none, some (.int i)], rfl, ?_⟩
    simp
    refine w_flat_row S4 ⟨t0, t1⟩ (by omega) (by omega) (by omega) fun h5 w rw_ S5 F5 => ⟨by omega, S5, F4.trans F5, fun j x e => ?_⟩
    by_cases hj : j < acc.length
    · rw [List.getElem?_append_left hj] at e
      exact ha j x e
    · rw [List.getElem?_append_right (by omega)] at e
      have : j - acc.length = 0 := by
        have := (List.getElem?_eq_some_iff.mp e).1
        simp at this
        omega
      rw [this] at e
      cases e
      have : j = i := by omega
      subst this
      exact rw_
theorem w_lflat (S : St h) (q : ∀ h' top slots rows, PrgOk top slots rows → St h' → Fr h h' → Q (.tup [.int top, .int slots, .tup rows]) h') : wp (callF G (k + 7) "_law_flat" [.loc 3, .int 14, .int 4]) Q E h :=
  w_lflatG (by decide) (by decide) S fun h' t s r P _ _ S' F' => q h' t s r P S' F'
end
end K
/-! F8: the law's beginning. -/
namespace K
open MI HK
section
variable {k : Nat} {h : AH} {Q : W → AH → Prop} {E : Nm → AH → Prop}
def absI (i : Int) : Int := if i < 0 then -i else i
theorem w_begun {ns : List Int} (hn : ns.length ≤ 63) (q : ∀ h', St h' → h'.length = 4 → Q (.loc 3) h') : wp (callF G (k + 1) "_law_begun" [.loc 0]) Q E [.frl (ns.map .int)] := by
  rw [w_def df_law_begun rfl]
  simp [ir_law_begun, startE, LN, bindT, bindT.seqT, setAll, -w_comp]
  rw [w_comp]
  simp only [wi_val, v0]
  have ei : ∀ {Q : It → AH → Prop} {E : Nm → AH → Prop}, wp (itM (.loc 0)) Q E [.frl (ns.map .int)] = Q (.lst 0) [.frl (ns.map .int)] := fun {_ _} => wp_eq rfl
  rw [ei]
  have c1 := compN_inv (test := evT (cfg G k) .nil) (elt := evE (cfg G k) (.bi .abs (.cons (.var 2) .nil))) (t := .one 2) (s := wipeE [some (.loc 0), none, none] [2]) (J := .lst 0) (ws := ns.map .int)
    (P := fun i acc h' => h' = [.frl (ns.map .int)] ∧ ∃ cs : List Int, acc = cs.map .int ∧ cs.length = i ∧ ∀ x ∈ cs, 0 ≤ x) (E := fun _ _ => False) (fun i acc h e => by obtain ⟨e, _⟩ := e; subst e; rfl) (fun i acc h' w hp hi => ?_) (LN + 1) 0 [] [.frl (ns.map .int)] (by rw [List.length_map]; unfold LN; omega) (Nat.zero_le _) ⟨rfl, [], rfl, rfl, fun x hx => by cases hx⟩
  · refine wp_mono c1 (fun acc h1 hx => ?_) fun _ _ z => z
    obtain ⟨e1, cs, e2, el, cp⟩ := hx
    subst e1 e2
    rw [List.length_map] at el
    rw [w_comp]
    simp only [wi_val, v1]
    have ei : ∀ {Q : It → AH → Prop} {E : Nm → AH → Prop}, wp (itM (.loc 1)) Q E [.frl (ns.map .int), .lst (cs.map .int)] = Q (.lst 1) [.frl (ns.map .int), .lst (cs.map .int)] := fun {_ _} => wp_eq rfl
    show wp (itM (.loc 1)) _ _ [.frl (ns.map .int), .lst (cs.map .int)]
    rw [ei]
    have c2 := compN_inv (test := evT (cfg G k) (.cons (.cmp .ge (.var 2) (.bin .pow (.int 10) (.int 18))) .nil)) (elt := evE (cfg G k) (.var 2)) (t := .one 2) (s := wipeE [some (.loc 0), some (.loc 1), none] [2]) (J := .lst 1) (ws := cs.map .int)
      (P := fun i acc h' => h' = [.frl (ns.map .int), .lst (cs.map .int)] ∧ ∃ gs : List Int, acc = gs.map .int ∧ gs.length ≤ i ∧ ∀ x ∈ gs, 1 ≤ x) (E := fun _ _ => False) (fun i acc h e => by obtain ⟨e, _⟩ := e; subst e; rfl) (fun i acc h' w hp hi => ?_) (LN + 1) 0 [] [.frl (ns.map .int), .lst (cs.map .int)] (by rw [List.length_map]; unfold LN; omega) (Nat.zero_le _) ⟨rfl, [], rfl, Nat.le_refl _, fun x hx => by cases hx⟩
    · refine wp_mono c2 (fun acc h1 hx => ?_) fun _ _ z => z
      obtain ⟨e1, gs, e2, gl, gp⟩ := hx
      subst e1 e2
      rw [List.length_map] at gl
      unfold wp
      show Q (.loc 3) [.frl (ns.map .int), .lst (cs.map .int), .lst (gs.map .int), .dct (stK 0 0 7)]
      exact q _ ⟨gs, cs, 0, 0, 7, rfl, rfl, rfl, gp, by omega, by omega, cp, by decide, by decide, by decide, by decide⟩ rfl
    · obtain ⟨e1, gs, e2, gl, gp⟩ := hp
      subst e1 e2
      have hil := (List.getElem?_eq_some_iff.mp hi).1
      rw [List.length_map] at hil
      rw [List.getElem?_map] at hi
      obtain ⟨x, hx, ew⟩ := Option.map_eq_some_iff.mp hi
      subst ew
      refine ⟨by rw [List.length_map]; unfold LN; omega, [some (.loc 0), some (.loc 1), some (.int x)], rfl, ?_⟩
      simp
      rw [b_pow (by decide) (by decide)]
      simp
      by_cases c : 1000000000000000000 ≤ x
      · rw [if_pos c]
        refine ⟨gs ++ [x], by rw [List.map_append]; rfl, by rw [List.length_append, List.length_singleton]; omega, fun y hy => ?_⟩
        rcases List.mem_append.mp hy with hy | hy
        · exact gp y hy
        · rw [List.mem_singleton] at hy
          omega
      · rw [if_neg c]
        exact ⟨gs, rfl, by omega, gp⟩
  · obtain ⟨e1, cs, e2, el, cp⟩ := hp
    subst e1 e2
    rw [List.getElem?_map] at hi
    obtain ⟨x, hx, ew⟩ := Option.map_eq_some_iff.mp hi
    subst ew
    have hil := (List.getElem?_eq_some_iff.mp hx).1
    refine ⟨by rw [List.length_map]; unfold LN; omega, [some (.loc 0), none, some (.int x)], rfl, ?_⟩
    simp
    refine ⟨cs ++ [absI x], by rw [List.map_append]; rfl, by rw [List.length_append, List.length_singleton]; omega, fun y hy => ?_⟩
    rcases List.mem_append.mp hy with hy | hy
    · exact cp y hy
    · rw [List.mem_singleton] at hy
      unfold absI at hy
      split at hy <;> omega
end
end K
/-! M1: plain mathematics: a walk on n places, where it ends. -/
namespace K
theorem pigeon : ∀ (n : Nat) (l : List Nat), l.Nodup → (∀ x ∈ l, x < n) → l.length ≤ n
  | 0, l, _, h => by
    cases l with
    | nil => exact Nat.le_refl _
    | cons a r => exact absurd (h a List.mem_cons_self) (Nat.not_lt_zero _)
  | n + 1, l, hd, h => by
    have h1 := pigeon n (l.erase n) (hd.erase n) fun x hx => by
      have h2 := (hd.mem_erase_iff).mp hx
      have := h x h2.2
      have := h2.1
      omega
    have h3 : l.length ≤ (l.erase n).length + 1 := by
      rw [List.length_erase]
      split <;> omega
    omega
section
variable (f : Nat → Nat)
def itr : Nat → Nat → Nat
  | 0, a => a
  | j + 1, a => f (itr j a)
theorem itr_add (a : Nat) (i : Nat) : ∀ j, itr f (i + j) a = itr f j (itr f i a)
  | 0 => rfl
  | j + 1 => by
    show f (itr f (i + j) a) = f (itr f j (itr f i a))
    rw [itr_add a i j]
variable {f} {n a : Nat}
theorem itr_lt (hf : ∀ i, i < n → f i < n) (ha : a < n) : ∀ j, itr f j a < n
  | 0 => ha
  | j + 1 => hf _ (itr_lt hf ha j)
/-- walked round -/
theorem itr_per {i j : Nat} (e : itr f i a = itr f j a) (m : Nat) : itr f (i + m) a = itr f (j + m) a := by
  rw [itr_add, itr_add, e]
theorem itr_per2 {i p : Nat} (e : itr f i a = itr f (i + p) a) (m : Nat) : ∀ q, itr f (i + m) a = itr f (i + m + q * p) a
  | 0 => by rw [Nat.zero_mul]; rfl
  | q + 1 => by
    rw [itr_per2 e m q, show i + m + q * p = i + (m + q * p) from by omega, itr_per e (m + q * p), Nat.succ_mul]
    congr 1
    omega
/-- v is the least of the values at the places i to j of the walk -/
def LeastOf (f : Nat → Nat) (a i j v : Nat) : Prop := (∃ k, i ≤ k ∧ k < j ∧ v = itr f k a) ∧ ∀ k, i ≤ k → k < j → v ≤ itr f k a
theorem least_same {i p n m v w : Nat} (hp : 0 < p) (e : itr f i a = itr f (i + p) a) (hi : i ≤ n) (hm : n + p ≤ m) (h1 : LeastOf f a i (i + p) v) (h2 : LeastOf f a n m w) : v = w := by
  obtain ⟨⟨k, k1, k2, ev⟩, hv⟩ := h1
  obtain ⟨⟨l, l1, l2, ew⟩, hw⟩ := h2
  apply Nat.le_antisymm
  · -- place l lies on the round
    have h3 : itr f (i + (l - i) % p) a = itr f l a := by
      have := itr_per2 e ((l - i) % p) ((l - i) / p)
      rw [this]
      congr 1
      have := Nat.mod_add_div (l - i) p
      rw [Nat.mul_comm p] at this
      omega
    have h4 := Nat.mod_lt (l - i) hp
    have := hv (i + (l - i) % p) (by omega) (by omega)
    rw [h3, ← ew] at this
    exact this
  · -- place k is met between n and n + p
    have h5 : itr f k a = itr f (k + (n + p - 1 - k) / p * p) a := by
      have := itr_per2 e (k - i) ((n + p - 1 - k) / p)
      rw [show i + (k - i) = k from by omega] at this
      exact this
    have h6 := Nat.mod_add_div (n + p - 1 - k) p
    have h7 := Nat.mod_lt (n + p - 1 - k) hp
    rw [Nat.mul_comm p] at h6
    have := hw (k + (n + p - 1 - k) / p * p) (by omega) (by omega)
    rw [← h5, ← ev] at this
    exact this
end
end K
/-! H1: what stays, lists, tables, sizes: general facts. -/
namespace K
open MI HK
/-- what stood stays -/
def Kp (h h1 : AH) : Prop := h.length ≤ h1.length ∧ ∀ n, n < h.length → h1[n]? = h[n]?
theorem Kp.refl {h : AH} : Kp h h := ⟨Nat.le_refl _, fun _ _ => rfl⟩
theorem Kp.trans {h h1 h2 : AH} (a : Kp h h1) (b : Kp h1 h2) : Kp h h2 := ⟨Nat.le_trans a.1 b.1, fun n hn => (b.2 n (Nat.lt_of_lt_of_le hn a.1)).trans (a.2 n hn)⟩
theorem Kp.app {h x : AH} : Kp h (h ++ x) := ⟨by rw [List.length_append]; omega, fun n hn => List.getElem?_append_left hn⟩
theorem Kp.more {h h1 x : AH} (a : Kp h h1) : Kp h (h1 ++ x) := a.trans .app
theorem Kp.put {h h1 : AH} (a : Kp h h1) {p : Nat} {o : O} (hp : h.length ≤ p) : Kp h (h1.set p o) := ⟨by rw [List.length_set]; exact a.1, fun n hn => by rw [List.getElem?_set_ne (by omega)]; exact a.2 n hn⟩
theorem Kp.out {h h1 : AH} (a : Kp h h1) : ∃ x, h1 = h ++ x := ⟨h1.drop h.length, by
  apply List.ext_getElem?
  intro n
  by_cases c : n < h.length
  · rw [List.getElem?_append_left c, a.2 n c]
  · rw [List.getElem?_append_right (by omega), List.getElem?_drop, show h.length + (n - h.length) = n from by omega]⟩
def natsW (l : List Nat) : List W := l.map fun (v : Nat) => W.int v
theorem natsW_len {l : List Nat} : (natsW l).length = l.length := List.length_map _
theorem natsW_at {l : List Nat} {i : Nat} {w : W} (e : (natsW l)[i]? = some w) : ∃ v, l[i]? = some v ∧ w = .int v := by
  unfold natsW at e
  rw [List.getElem?_map] at e
  obtain ⟨v, h1, h2⟩ := Option.map_eq_some_iff.mp e
  exact ⟨v, h1, h2.symm⟩
theorem natsW_ints {l : List Nat} : natsW l = (l.map fun (v : Nat) => (v : Int)).map W.int := by unfold natsW; rw [List.map_map]; rfl
theorem app_get {h x : AH} {n : Nat} {o : O} (e : h[n]? = some o) : (h ++ x)[n]? = some o := by rw [List.getElem?_append_left (lt_of e)]; exact e
/-- the table of what was found -/
def kT (ks : List Nat) : List (W × W) := ks.map fun (v : Nat) => (W.int v, W.bl true)
theorem kT_get {v : Nat} : ∀ {ks : List Nat}, (dget (kT ks) (.int v)).isSome = decide (v ∈ ks)
  | [] => rfl
  | a :: r => by
    show (dget ((W.int a, W.bl true) :: kT r) (.int v)).isSome = _
    unfold dget
    have e : W.eqv (.int (a : Int)) (.int v) = decide ((a : Int) = v) := rfl
    rw [e]
    by_cases c : a = v
    · subst c; simp
    · have : ¬ (a : Int) = v := fun z => c (Int.ofNat.inj z)
      rw [decide_eq_false this, if_neg (by decide), kT_get]
      simp [Ne.symm c]
theorem kT_put {v : Nat} : ∀ {ks : List Nat}, v ∉ ks → dput (kT ks) (.int v) (.bl true) = kT (ks ++ [v])
  | [], _ => rfl
  | a :: r, h => by
    show dput ((W.int a, W.bl true) :: kT r) (.int v) (.bl true) = _
    unfold dput
    have e : W.eqv (.int (a : Int)) (.int v) = decide ((a : Int) = v) := rfl
    have : ¬ (a : Int) = v := fun z => h (by rw [Int.ofNat.inj z]; exact List.mem_cons_self)
    rw [e, decide_eq_false this, if_neg (by decide), kT_put fun z => h (List.mem_cons_of_mem _ z)]
    rfl
section
variable {k : Nat} {h : AH} {Q : W → AH → Prop} {E : Nm → AH → Prop}
theorem it_lst {Q : It → AH → Prop} {n : Nat} {xs : List W} (e : h[n]? = some (.lst xs)) : wp (itM (.loc n)) Q E h = Q (.lst n) h := wp_eq (by
  show dkyM n h = _
  unfold dkyM
  rw [e])
theorem item_lst {n i : Nat} {xs : List W} (e : h[n]? = some (.lst xs)) : It.item h i (.lst n) = some xs[i]? := by
  unfold It.item lstAt
  dsimp only
  rw [e]
  rfl
theorem rngH_1 {i : Int} (h0 : 0 ≤ i) (h1 : i < 1000000) : rngH [W.int i] = some (.seq (rngL 0 i.toNat)) := by
  unfold rngH
  dsimp only
  have : smallR i = true := by unfold smallR; rw [Bool.and_eq_true, decide_eq_true_eq, decide_eq_true_eq]; omega
  rw [if_pos this]
theorem rngH_n {n : Nat} (hn : n ≤ 1000) : rngH [W.int (n : Int)] = some (.seq (rngL 0 n)) := by
  have := rngH_1 (i := (n : Int)) (Int.natCast_nonneg n) (by omega)
  rw [Int.toNat_natCast] at this
  exact this
theorem nat_eq {a b : Nat} : ((a : Int) == (b : Int)) = decide (a = b) := by
  by_cases c : a = b
  · subst c; simp
  · have : ¬ (a : Int) = b := fun z => c (Int.ofNat.inj z)
    simp [c, this]
theorem c_isN {Q : Bool → AH → Prop} {w : W} : wp (rdO fun h => cmpH h .is_ w .non) Q E h = Q (isNon w) h := wp_rd (by cases w <;> rfl)
theorem me_pop {p : Nat} {wt : List W} {w : W} (e : h[p]? = some (.lst (wt ++ [w]))) : wp (meH .pop .lst (.loc p) []) Q E h = Q w (h.set p (.lst wt)) := wp_eq (by
  unfold meH
  dsimp only
  unfold lstM
  rw [e]
  dsimp only
  have : (wt ++ [w])[(wt ++ [w]).length - 1]? = some w := by
    rw [List.length_append, List.length_singleton, Nat.add_sub_cancel, List.getElem?_append_right (Nat.le_refl _), Nat.sub_self]; rfl
  rw [this]
  dsimp only
  rw [List.dropLast_concat])
theorem knd_pop {Q : Kd → AH → Prop} {p : Nat} {xs : List W} (e : h[p]? = some (.lst xs)) : wp (rdO fun h => kndM h .pop (.loc p)) Q E h = Q .lst h := wp_rd (by
  unfold kndM kndH
  dsimp only
  rw [e]
  rfl)
theorem set_dct {d v : Nat} {ks : List Nat} (e : h[d]? = some (.dct (kT ks))) (hn : v ∉ ks) (hl : ks.length ≤ 1000) : wp (setI d (.int v) (.bl true)) Q E h = Q .non (h.set d (.dct (kT (ks ++ [v])))) := wp_eq (by
  unfold setI
  rw [e]
  dsimp only
  rw [if_pos ⟨rfl, by unfold kT LN; rw [List.length_map]; omega⟩, kT_put hn])
theorem intsOf_kT : ∀ {ks : List Nat}, intsOf ((kT ks).map (·.1)) = some (ks.map fun (v : Nat) => (v : Int))
  | [] => rfl
  | a :: r => by
    show (intsOf ((kT r).map (·.1))).map ((a : Int) :: ·) = _
    rw [intsOf_kT]; rfl
theorem bi_sortedK {Q : Sum W O → AH → Prop} {d : Nat} {ks : List Nat} (e : h[d]? = some (.dct (kT ks))) (hl : ks.length < 4096) : wp (rdO fun h => biH h .sorted [.loc d]) Q E h = Q (.inr (.lst ((sortI (ks.map fun (v : Nat) => (v : Int))).map .int))) h := wp_rd (by
  unfold biH lstAt dctAt
  dsimp only
  rw [e]
  dsimp only
  rw [if_pos (by unfold kT; rw [List.length_map]; exact hl)]
  unfold sortW
  rw [intsOf_kT]
  rfl)
theorem b_lst {Q : Sum W O → AH → Prop} {a b : Nat} {xs ys : List W} (ea : h[a]? = some (.lst xs)) (eb : h[b]? = some (.lst ys)) (hl : xs.length + ys.length ≤ 1000) : wp (rdO fun h => binH h .add (.loc a) (.loc b)) Q E h = Q (.inr (.lst (xs ++ ys))) h := wp_rd (by
  unfold binH lstM
  dsimp only
  rw [ea, eb]
  dsimp only
  rw [if_pos (Nat.le_trans hl (by unfold LN; decide))])
theorem cast1 {i : Nat} : (i : Int) + 1 = ((i + 1 : Nat) : Int) := by omega
theorem int_sml {i : Int} (h : i.natAbs < 10 ^ 12) : (W.int i).sml = true := by unfold W.sml; exact decide_eq_true h
/-- no greater than -/
def Sz (d B : Nat) (w : W) : Prop := w.sml = true ∧ w.dp ≤ d ∧ w.wt ≤ B
theorem szs {d B : Nat} {ws : List W} (h : ∀ w ∈ ws, Sz d B w) : smls ws = true ∧ dps ws ≤ d ∧ wts ws ≤ (B + 1) * ws.length := by
  induction ws with
  | nil => exact ⟨rfl, Nat.zero_le _, Nat.zero_le _⟩
  | cons a r ih =>
    obtain ⟨h1, h2, h3⟩ := ih fun w hw => h w (List.mem_cons_of_mem _ hw)
    obtain ⟨a1, a2, a3⟩ := h a List.mem_cons_self
    refine ⟨?_, ?_, ?_⟩
    · unfold smls; rw [a1, h1]; rfl
    · show max a.dp (dps r) ≤ d; omega
    · show a.wt + 1 + wts r ≤ (B + 1) * (r.length + 1); rw [Nat.mul_succ]; omega
theorem sz_tup {d B C n : Nat} {ws : List W} (h : ∀ w ∈ ws, Sz d B w) (hl : ws.length ≤ n) (hc : (B + 1) * n ≤ C) : Sz (d + 1) C (.tup ws) := by
  obtain ⟨h1, h2, h3⟩ := szs h
  refine ⟨?_, ?_, ?_⟩
  · unfold W.sml; exact h1
  · show dps ws + 1 ≤ d + 1; omega
  · show wts ws ≤ C
    have := Nat.mul_le_mul_left (B + 1) hl
    omega
theorem sz_nat {i n : Nat} (hi : i < n) (hn : n ≤ 1000) : Sz 0 41 (.int (i : Nat)) := ⟨int_sml (by omega), Nat.zero_le _, Nat.le_refl _⟩
theorem sz_pair {d1 B1 d2 B2 d C : Nat} {a b : W} (h1 : Sz d1 B1 a) (h2 : Sz d2 B2 b) (hd : d1 < d ∧ d2 < d) (hc : B1 + B2 + 2 ≤ C) : Sz d C (.tup [a, b]) := by
  obtain ⟨a1, a2, a3⟩ := h1
  obtain ⟨b1, b2, b3⟩ := h2
  refine ⟨?_, ?_, ?_⟩
  · unfold W.sml smls smls smls; rw [a1, b1]; rfl
  · show max a.dp (max b.dp 0) + 1 ≤ d; omega
  · show a.wt + 1 + (b.wt + 1 + 0) ≤ C; omega
theorem sz_three {d1 B1 d2 B2 d3 B3 d C : Nat} {a b c : W} (h1 : Sz d1 B1 a) (h2 : Sz d2 B2 b) (h3 : Sz d3 B3 c) (hd : d1 < d ∧ d2 < d ∧ d3 < d) (hc : B1 + B2 + B3 + 3 ≤ C) : Sz d C (.tup [a, b, c]) := by
  obtain ⟨a1, a2, a3⟩ := h1
  obtain ⟨b1, b2, b3⟩ := h2
  obtain ⟨c1, c2, c3⟩ := h3
  refine ⟨?_, ?_, ?_⟩
  · unfold W.sml smls smls smls smls; rw [a1, b1, c1]; rfl
  · show max a.dp (max b.dp (max c.dp 0)) + 1 ≤ d; omega
  · show a.wt + 1 + (b.wt + 1 + (c.wt + 1 + 0)) ≤ C; omega
theorem c_isnN {Q : Bool → AH → Prop} {w : W} : wp (rdO fun h => cmpH h .isn w .non) Q E h = Q (!isNon w) h := wp_rd (by cases w <;> rfl)
end
end K
/-! J1: reckonings and rows as data. -/
namespace K
open MI HK
abbrev sNum : List Nat := [110, 117, 109, 98, 101, 114]
abbrev sAt : List Nat := [97, 116]
/-- a reckoning -/
inductive T where
  | num (i : Int)
  | at_ (s : Nat)
  | op (s : List Nat) (a b : T)
def T.w : T → W
  | .num i => .tup [.str sNum, .int i]
  | .at_ s => .tup [.str sAt, .int (s : Nat)]
  | .op s a b => .tup [.str s, a.w, b.w]
/-- its slots -/
def T.cs : T → List Nat
  | .num _ => []
  | .at_ s => [s]
  | .op _ a b => a.cs ++ b.cs
/-- on slots below n, numbers to top, so deep at most -/
inductive Tk (top : Int) (n : Nat) : Nat → T → Prop where
  | num {d : Nat} {i : Int} : 0 ≤ i → i ≤ top → Tk top n d (.num i)
  | at_ {d s : Nat} : s < n → Tk top n d (.at_ s)
  | op {d : Nat} {s : List Nat} {a b : T} : s ∈ words → Tk top n d a → Tk top n d b → Tk top n (d + 1) (.op s a b)
theorem Tk.mono {top : Int} {n d n' d' : Nat} {t : T} (r : Tk top n d t) : n ≤ n' → d ≤ d' → Tk top n' d' t := by
  intro hn
  induction r generalizing d' with
  | num h1 h2 => exact fun _ => .num h1 h2
  | at_ h1 => exact fun _ => .at_ (Nat.lt_of_lt_of_le h1 hn)
  | @op d s a b h1 r1 r2 ih1 ih2 =>
    intro hd
    obtain ⟨e, rfl⟩ : ∃ e, d' = e + 1 := ⟨d' - 1, by omega⟩
    exact .op h1 (ih1 (by omega)) (ih2 (by omega))
theorem rk_T {top n : Int} {d : Nat} {A : W} (r : Rk top n d A) : ∃ t : T, A = t.w ∧ Tk top n.toNat d t := by
  induction r with
  | num h1 h2 => exact ⟨.num _, rfl, .num h1 h2⟩
  | @at_ d i h1 h2 =>
    refine ⟨.at_ i.toNat, ?_, .at_ (by omega)⟩
    show _ = W.tup [.str sAt, .int (i.toNat : Nat)]
    rw [Int.toNat_of_nonneg h1]
  | @op d s a b hs r1 r2 ih1 ih2 =>
    obtain ⟨t, rfl, t1⟩ := ih1
    obtain ⟨u, rfl, u1⟩ := ih2
    exact ⟨.op s t u, rfl, .op hs t1 u1⟩
inductive Row where
  | set (c : Nat) (t : T)
  | ask (c : Nat)
  | tell (t : T)
  | go (g : Nat)
  | stop
  | if_ (t : T) (g : Nat)
def Row.w : Row → W
  | .set c t => .tup [.str sSet, .int (c : Nat), t.w]
  | .ask c => .tup [.str sAsk, .int (c : Nat)]
  | .tell t => .tup [.str sTell, t.w]
  | .go g => .tup [.str sGo, .int (g : Nat)]
  | .stop => .tup [.str sEnd]
  | .if_ t g => .tup [.str sIf, t.w, .int (g : Nat)]
def Row.ways : Row → Nat → List Nat
  | .go g, _ => [g]
  | .stop, _ => []
  | .if_ _ g, i => [g, i + 1]
  | _, i => [i + 1]
/-- the rows behind a place -/
def waysR (rs : List Row) (i : Nat) : List Nat := (rs[i]?.map fun r => r.ways i).getD []
def fltW (top : Int) (slots : Nat) (rs : List Row) : W := .tup [.int top, .int (slots : Nat), .tup (rs.map Row.w)]
/-- how many ways a row has -/
def Row.wl : Row → Nat
  | .stop => 0
  | .if_ _ _ => 2
  | _ => 1
theorem ways_len {r : Row} {i : Nat} : (r.ways i).length = r.wl := by cases r <;> rfl
theorem waysR_at {rs : List Row} {i : Nat} {r : Row} (e : rs[i]? = some r) : waysR rs i = r.ways i := by unfold waysR; rw [e]; rfl
theorem Kp.fr {h h1 : AH} (a : Kp h h1) : Fr h h1 := ⟨a.1, fun n hn _ _ => a.2 n hn⟩
theorem st_kp {h1 h2 : AH} (S : St h1) (kp : Kp h1 h2) : St h2 := let ⟨gs, cs, r, t, m, q⟩ := S; ⟨gs, cs, r, t, m, ⟨(kp.2 3 (lt_of q.d)).trans q.d, (kp.2 2 (lt_of q.g)).trans q.g, (kp.2 1 (lt_of q.c)).trans q.c, q.gp, q.gl, q.cl, q.cp, q.r0, q.t0, q.m0, q.m1⟩⟩
theorem fr_of {h h1 h2 : AH} {f : Nat} (F : Fr h h1) (hf : h.length ≤ f) (fr : ∀ m, m < h1.length → m ≠ f → h2[m]? = h1[m]?) (hl : h1.length ≤ h2.length) : Fr h h2 := ⟨Nat.le_trans F.1 hl, fun m hm h1' h2' => (fr m (Nat.lt_of_lt_of_le hm F.1) (by omega)).trans (F.2 m hm h1' h2')⟩
theorem st_of {h1 h2 : AH} {f : Nat} (S : St h1) (hf : 4 ≤ f) (fr : ∀ m, m < h1.length → m ≠ f → h2[m]? = h1[m]?) : St h2 := let ⟨gs, cs, r, t, m, q⟩ := S; ⟨gs, cs, r, t, m, ⟨(fr 3 (lt_of q.d) (by omega)).trans q.d, (fr 2 (lt_of q.g) (by omega)).trans q.g, (fr 1 (lt_of q.c) (by omega)).trans q.c, q.gp, q.gl, q.cl, q.cp, q.r0, q.t0, q.m0, q.m1⟩⟩
mutual
theorem eqv_refl : ∀ w : W, w.gr = true → w.eqv w = true
  | .non, _ => rfl
  | .bl _, _ => by unfold W.eqv; simp
  | .int _, _ => by unfold W.eqv; simp
  | .str _, _ => by unfold W.eqv; simp
  | .tup xs, h => by
    unfold W.eqv
    exact eqvs_refl xs h
  | .loc _, h => by cases h
  | .gl _, h => by cases h
theorem eqvs_refl : ∀ ws : List W, grs ws = true → eqvs ws ws = true
  | [], _ => rfl
  | x :: r, h => by
    unfold grs at h
    rw [Bool.and_eq_true] at h
    unfold eqvs
    rw [eqv_refl x h.1, eqvs_refl r h.2]
    rfl
end
/-- where a row leads to -/
def Row.to : Row → Option Nat
  | .go g => some g
  | .if_ _ g => some g
  | _ => none
/-- does a stretch end with a row -/
def Row.fin : Row → Bool
  | .go _ => true
  | .stop => true
  | _ => false
theorem T_rk {top : Int} {n d : Nat} {t : T} (r : Tk top n d t) : Rk top n d t.w := by
  induction r with
  | num h1 h2 => exact .num h1 h2
  | @at_ d s h1 => exact .at_ (Int.natCast_nonneg s) (by omega)
  | op hs r1 r2 ih1 ih2 => exact .op hs ih1 ih2
/-- a row that may stand at place i of m -/
structure RowF (top : Int) (n d m i : Nat) (r : Row) : Prop where
  on : r.fin = false → i + 1 < m
  to : ∀ g, r.to = some g → g < m
  ne : ∀ t g, r = .if_ t g → g ≠ i + 1
  c : ∀ c t, r = .set c t → c < n ∧ Tk top n d t
  a : ∀ c, r = .ask c → c < n
  t : ∀ t, r = .tell t → Tk top n d t
  f : ∀ t g, r = .if_ t g → Tk top n d t
theorem RowF.rw {top : Int} {n d m i : Nat} {r : Row} (F : RowF top n d m i r) : Rw top n d m i r.w := by
  cases r with
  | set c t => obtain ⟨h1, h2⟩ := F.c c t rfl; exact .set (by omega) (by omega) (T_rk h2)
  | ask c => have := F.a c rfl; exact .ask (by omega) (by omega)
  | tell t => exact .tell (T_rk (F.t t rfl))
  | go g => have := F.to g rfl; exact .go (by omega) (by omega)
  | stop => exact .stop
  | if_ t g =>
    have h1 := F.to g rfl
    have h2 := F.ne t g rfl
    exact .if_ (T_rk (F.f t g rfl)) (by omega) (by omega) (by omega)
theorem RowF.lt {top : Int} {n d m i : Nat} {r : Row} (F : RowF top n d m i r) : ∀ v ∈ r.ways i, v < m := by
  intro v hv
  cases r with
  | set c t => rw [List.mem_singleton.mp hv]; exact F.on rfl
  | ask c => rw [List.mem_singleton.mp hv]; exact F.on rfl
  | tell t => rw [List.mem_singleton.mp hv]; exact F.on rfl
  | go g => rw [List.mem_singleton.mp hv]; exact F.to _ rfl
  | stop => cases hv
  | if_ t g =>
    rcases List.mem_cons.mp hv with z | z
    · rw [z]; exact F.to _ rfl
    · rw [List.mem_singleton.mp z]; exact F.on rfl
/-- a flat, well formed -/
structure FlF (top : Int) (sl dp : Nat) (rs : List Row) : Prop where
  t : 1 ≤ top ∧ top ≤ 1000000000
  s : 1 ≤ sl ∧ sl ≤ 60
  d : dp ≤ 19
  n : 2 ≤ rs.length ∧ rs.length ≤ 200
  r : ∀ i r, rs[i]? = some r → RowF top sl dp rs.length i r
  z : ∀ r ∈ rs, Sz 24 2500 r.w
section
variable {k n d : Nat} {h : AH} {Q : W → AH → Prop} {E : Nm → AH → Prop} {top : Int} {t : T} {rs : List Row}
theorem map_at {α : Type} {g : α → W} {l : List α} {i : Nat} {w : W} (e : (l.map g)[i]? = some w) : ∃ a, l[i]? = some a ∧ w = g a := by
  rw [List.getElem?_map] at e
  obtain ⟨a, h1, h2⟩ := Option.map_eq_some_iff.mp e
  exact ⟨a, h1, h2.symm⟩
theorem drop_at {α : Type} {l : List α} {i : Nat} {a : α} (e : l[i]? = some a) : l.drop i = a :: l.drop (i + 1) := by
  obtain ⟨h1, h2⟩ := List.getElem?_eq_some_iff.mp e
  rw [List.drop_eq_getElem_cons h1, h2]
theorem take_at {α : Type} {l : List α} {i : Nat} {a : α} (e : l[i]? = some a) : l.take (i + 1) = l.take i ++ [a] := by
  rw [List.take_succ, e]; rfl
theorem at3 {a b d e : W} {r : List W} : wp (rdO fun h => idxH h (.tup (a :: b :: d :: e :: r)) (.int 3)) Q E h = Q e h := wp_rd (atI_nat (i := 3) rfl)
theorem w_ways_of {slots : Nat} {i : Nat} {r : Row} (e : rs[i]? = some r) : wp (callF G (k + 1) "ways_of" [fltW top slots rs, .int (i : Nat)]) Q E h = Q (.tup (natsW (waysR rs i))) h := by
  have e2 : (rs.map Row.w)[i]? = some r.w := by rw [List.getElem?_map, e]; rfl
  have ew : waysR rs i = r.ways i := by unfold waysR; rw [e]; rfl
  rw [w_def df_ways_of rfl]
  show wp (evSs _ ir_ways_of [some (.tup [.int top, .int (slots : Nat), .tup (rs.map Row.w)]), some (.int (i : Nat)), none]) _ _ h = _
  unfold ir_ways_of
  rw [ss_cons, s_asg, w_idx, w_idx, v0, w_int, at2, v1, at_tup (atI_nat e2), ew]
  cases r <;> simp [LN, bindT, natsW, Row.ways, Row.w]
theorem neg1 {c : Cfg} {s : Env} : wp (evE c (.neg (.int 1)) s) Q E h = Q (.int (-1)) h := by rw [w_neg, w_int]; dsimp only; rw [wp_ret]
theorem ai0 {α : Type} {a : α} {r : List α} : MI.atI (a :: r) 0 = some a := atI_nat (i := 0) rfl
theorem ai1 {α : Type} {a b : α} {r : List α} : MI.atI (a :: b :: r) 1 = some b := atI_nat (i := 1) rfl
theorem lift_rows {P : Nat → Row → Prop} : ∀ (rows : List W) (m : Nat), (∀ i w, rows[i]? = some w → ∃ r : Row, w = r.w ∧ P (m + i) r) → ∃ rs : List Row, rows = rs.map Row.w ∧ ∀ i r, rs[i]? = some r → P (m + i) r
  | [], m, _ => ⟨[], rfl, fun i r e => by simp at e⟩
  | a :: l, m, hp => by
    obtain ⟨r, er, pr⟩ := hp 0 a rfl
    obtain ⟨rs, e, ps⟩ := lift_rows (P := P) l (m + 1) fun i w e => by
      obtain ⟨r, e1, e2⟩ := hp (i + 1) w e
      exact ⟨r, e1, by rw [show m + 1 + i = m + (i + 1) from by omega]; exact e2⟩
    refine ⟨r :: rs, by rw [List.map_cons, ← er, ← e], fun i x hx => ?_⟩
    cases i with
    | zero => cases hx; exact pr
    | succ i =>
      have := ps i x hx
      rw [show m + 1 + i = m + (i + 1) from by omega] at this
      exact this
theorem sz_int {i : Int} (h : i.natAbs < 10 ^ 12) : Sz 0 41 (.int i) := ⟨int_sml h, Nat.zero_le _, Nat.le_refl _⟩
theorem dput_last {i : Int} {w : W} : ∀ {kvs : List (W × W)}, (∀ p ∈ kvs, ∃ j : Int, p.1 = .int j ∧ j < i) → dput kvs (.int i) w = kvs ++ [(.int i, w)]
  | [], _ => rfl
  | (a, x) :: r, hk => by
    obtain ⟨j, e, hj⟩ := hk _ List.mem_cons_self
    have e : a = .int j := e
    subst e
    unfold dput
    have e : W.eqv (.int j) (.int i) = decide (j = i) := rfl
    rw [e, decide_eq_false (by omega), if_neg (by decide), dput_last fun p hp => hk p (List.mem_cons_of_mem _ hp)]
    rfl
theorem dget_put {z s : Int} {w : W} : ∀ {kvs : List (W × W)}, KI kvs → dget (dput kvs (.int z) w) (.int s) = if z = s then some w else dget kvs (.int s)
  | [], _ => by
    unfold dput dget
    have e : W.eqv (.int z) (.int s) = decide (z = s) := rfl
    rw [e]
    by_cases c : z = s
    · rw [decide_eq_true c, if_pos rfl, if_pos c]
    · rw [decide_eq_false c, if_neg (by decide), if_neg c]; rfl
  | (a, x) :: r, hk => by
    obtain ⟨j, ej⟩ := hk _ List.mem_cons_self
    have ej : a = .int j := ej
    subst ej
    have e1 : W.eqv (.int j) (.int z) = decide (j = z) := rfl
    have e2 : W.eqv (.int j) (.int s) = decide (j = s) := rfl
    unfold dput
    rw [e1]
    by_cases c : j = z
    · rw [decide_eq_true c, if_pos rfl]
      unfold dget
      rw [e2]
      subst c
      by_cases c2 : j = s
      · rw [decide_eq_true c2, if_pos rfl, if_pos c2]
      · rw [decide_eq_false c2, if_neg (by decide), if_neg c2]; simp only [Bool.false_eq_true, if_false]
    · rw [decide_eq_false c, if_neg (by decide)]
      have ih := dget_put (z := z) (s := s) (w := w) (kvs := r) fun p hp => hk p (List.mem_cons_of_mem _ hp)
      show (if W.eqv (.int j) (.int s) = true then some x else dget (dput r (.int z) w) (.int s)) = if z = s then some w else if W.eqv (.int j) (.int s) = true then some x else dget r (.int s)
      rw [ih, e2]
      by_cases c2 : j = s
      · rw [decide_eq_true c2, if_pos rfl, if_pos rfl, if_neg (fun y => c (c2.trans y.symm))]
      · rw [decide_eq_false c2]; simp only [Bool.false_eq_true, if_false]
theorem set_dctG {Q : W → AH → Prop} {l : Nat} {kvs : List (W × W)} {x w : W} (e : h[l]? = some (.dct kvs)) (hk : isKey x = true) (hl : kvs.length < 1000) : wp (setI l x w) Q E h = Q .non (h.set l (.dct (dput kvs x w))) := wp_eq (by
  unfold setI
  rw [e]
  dsimp only
  rw [if_pos ⟨hk, by unfold LN; omega⟩])
theorem set_lst {l c : Nat} {xs : List W} {w : W} (e : h[l]? = some (.lst xs)) (hc : c < xs.length) : wp (setI l (.int (c : Nat)) w) Q E h = Q .non (h.set l (.lst (xs.set c w))) := wp_eq (by
  unfold setI
  rw [e]
  dsimp only
  have : ixN xs.length (c : Int) = some c := by
    unfold ixN
    rw [if_pos (by omega), if_pos (by omega), Int.toNat_natCast]
  rw [this])
theorem rngH_2 : rngH [W.int 2] = some (.seq (rngL 0 2)) := rngH_n (n := 2) (by decide)
theorem cutL_to {xs : List W} {i : Nat} : cutL xs none (some (i : Int)) = xs.take i := by
  unfold cutL sIx
  dsimp only
  rw [if_pos (by omega), Int.toNat_natCast, List.drop_zero, Nat.sub_zero]
  by_cases c : i ≤ xs.length
  · rw [Nat.min_eq_left c]
  · rw [Nat.min_eq_right (by omega), List.take_of_length_le (Nat.le_refl _), List.take_of_length_le (by omega)]
theorem enumD_at : ∀ {xs : List W} {m s : Nat}, dget (enumD m xs) (.int ((m + s : Nat) : Int)) = xs[s]?
  | [], m, s => by rw [List.getElem?_nil]; rfl
  | w :: r, m, s => by
    unfold enumD dget
    have e : W.eqv (.int (m : Int)) (.int ((m + s : Nat) : Int)) = decide ((m : Int) = ((m + s : Nat) : Int)) := rfl
    rw [e]
    cases s with
    | zero => rw [decide_eq_true (by simp), if_pos rfl]; rfl
    | succ s =>
      rw [decide_eq_false (by omega), if_neg (by decide), show m + (s + 1) = (m + 1) + s from by omega, enumD_at]
      rfl
theorem FlF.lt {s : Nat} (F : FlF top s d rs) {i : Nat} {r : Row} (e : rs[i]? = some r) : ∀ v ∈ waysR rs i, v < rs.length := by
  rw [waysR_at e]
  exact (F.r i r e).lt
end
end K
/-! N1: a reckoning's slots; a flat is one; what rows ask and write. -/
namespace K
open MI HK
section
variable {k n d : Nat} {h : AH} {Q : W → AH → Prop} {E : Nm → AH → Prop} {top : Int} {t : T} {rs ms : List Row} {s p x j : Nat}
theorem Tk.cs_lt {top : Int} {n d : Nat} {t : T} (r : Tk top n d t) : ∀ s ∈ t.cs, s < n := by
  induction r with
  | num h1 h2 => intro s hs; cases hs
  | at_ h1 => intro s hs; rw [List.mem_singleton.mp hs]; exact h1
  | op h1 r1 r2 ih1 ih2 =>
    intro s hs
    rcases List.mem_append.mp hs with z | z
    · exact ih1 s z
    · exact ih2 s z
theorem Tk.cs_len {top : Int} {n d : Nat} {t : T} (r : Tk top n d t) : t.cs.length ≤ 2 ^ d := by
  induction r with
  | num h1 h2 => exact Nat.zero_le _
  | at_ h1 => exact Nat.one_le_two_pow
  | op h1 r1 r2 ih1 ih2 => unfold T.cs; rw [List.length_append, Nat.pow_succ]; omega
theorem ne_word {s : List Nat} (hs : s ∈ words) : (s == sNum) = false ∧ (s == sAt) = false := by
  have hw : ∀ s ∈ words, (s == sNum) = false ∧ (s == sAt) = false := by decide
  exact hw s hs
theorem kT_same {v : Nat} : ∀ {ks : List Nat}, v ∈ ks → dput (kT ks) (.int v) (.bl true) = kT ks
  | [], h => nomatch h
  | a :: r, h => by
    show dput ((W.int a, W.bl true) :: kT r) (.int v) (.bl true) = _
    unfold dput
    have e : W.eqv (.int (a : Int)) (.int v) = decide ((a : Int) = v) := rfl
    by_cases c : a = v
    · subst c
      rw [e, decide_eq_true rfl, if_pos rfl]; rfl
    · have : ¬ (a : Int) = v := fun z => c (Int.ofNat.inj z)
      rw [e, decide_eq_false this, if_neg (by decide), kT_same]
      · rfl
      · rcases List.mem_cons.mp h with z | z
        · exact absurd z.symm c
        · exact z
theorem w_cwith (hn : n ≤ 63) (r : Tk top n d t) : ∀ {l k : Nat} {h : AH} {ks : List Nat} {Q : W → AH → Prop} {E : Nm → AH → Prop}, h[l]? = some (.dct (kT ks)) → ks.Nodup → (∀ x ∈ ks, x < n) →
    (∀ ks' : List Nat, ks'.Nodup → (∀ x ∈ ks', x < n) → (∀ x, x ∈ ks' ↔ x ∈ ks ∨ x ∈ t.cs) → Q (.loc l) (h.set l (.dct (kT ks')))) → wp (callF G (k + d + 1) "cells_with" [t.w, .loc l]) Q E h := by
  induction r with
  | @num d i h1 h2 =>
    intro l k h ks Q E e nd lt q
    rw [w_def df_cells_with rfl]
    show wp (evSs _ ir_cells_with [some (.tup [.str sNum, .int i]), some (.loc l)]) _ _ h
    unfold ir_cells_with
    rw [ss_cons, s_if, w_cmp, w_idx, v0, w_int, at0, w_str, c_eqS, t_bl, if_neg (by decide), ss_cons, s_if, w_cmp, w_idx, v0, w_int, at0, w_str, c_neS, t_bl, if_neg (by decide), ss_nil, onN_nx, ss_nil, onN_nx, ss_cons, s_ret, v1, onN_rt]
    have := q ks nd lt fun x => ⟨.inl, fun z => z.elim id fun z => nomatch z⟩
    rw [set_same e] at this
    exact this
  | @at_ d s h1 =>
    intro l k h ks Q E e nd lt q
    rw [w_def df_cells_with rfl]
    show wp (evSs _ ir_cells_with [some (.tup [.str sAt, .int (s : Nat)]), some (.loc l)]) _ _ h
    unfold ir_cells_with
    rw [ss_cons, s_if, w_cmp, w_idx, v0, w_int, at0, w_str, c_eqS, t_bl, if_pos (by decide), ss_cons, s_asgI, w_bl, v1, w_idx, v0, w_int, at1]
    dsimp only
    by_cases hs : s ∈ ks
    · have es : setI l (.int (s : Nat)) (.bl true) h = .ok .non h := by
        unfold setI
        rw [e]
        dsimp only
        have := pigeon n ks nd lt
        rw [if_pos ⟨rfl, by unfold kT LN; rw [List.length_map]; omega⟩, kT_same hs, set_same e]
      rw [wp_eq es, onN_nx, ss_nil, onN_nx, ss_cons, s_ret, v1, onN_rt]
      have := q ks nd lt fun x => ⟨.inl, fun z => z.elim id fun z => by rw [List.mem_singleton.mp z]; exact hs⟩
      rw [set_same e] at this
      exact this
    · have := pigeon n ks nd lt
      rw [set_dct e hs (by omega), onN_nx, ss_nil, onN_nx, ss_cons, s_ret, v1, onN_rt]
      refine q _ (List.nodup_append.mpr ⟨nd, by simp, fun a ha b hb => by rw [List.mem_singleton.mp hb]; exact fun z => hs (by rw [← z]; exact ha)⟩) (fun x hx => ?_) fun x => by rw [List.mem_append]; exact Iff.rfl
      rcases List.mem_append.mp hx with z | z
      · exact lt x z
      · rw [List.mem_singleton.mp z]; exact h1
  | @op d s a b hs r1 r2 ih1 ih2 =>
    intro l k h ks Q E e nd lt q
    obtain ⟨n1, n2⟩ := ne_word hs
    rw [show k + (d + 1) + 1 = (k + d + 1) + 1 from by omega, w_def df_cells_with rfl]
    show wp (evSs _ ir_cells_with [some (.tup [.str s, a.w, b.w]), some (.loc l)]) _ _ h
    unfold ir_cells_with
    rw [ss_cons, s_if, w_cmp, w_idx, v0, w_int, at0, w_str, c_eqS, t_bl, n2, if_neg (by decide), ss_cons, s_if, w_cmp, w_idx, v0, w_int, at0, w_str, c_neS, t_bl, n1, if_pos (by decide), ss_cons, s_expr, w_call, ws_cons, w_idx, v0, w_int, at1, ws_cons, v1, ws_nil, cfg_cf]
    refine ih1 e nd lt fun ks1 nd1 lt1 m1 => ?_
    rw [onN_nx, ss_cons, s_expr, w_call, ws_cons, w_idx, v0, w_int, at2, ws_cons, v1, ws_nil, cfg_cf]
    refine ih2 (List.getElem?_set_self (lt_of e)) nd1 lt1 fun ks2 nd2 lt2 m2 => ?_
    rw [onN_nx, ss_nil, onN_nx, ss_nil, onN_nx, ss_cons, s_ret, v1, onN_rt, List.set_set]
    refine q ks2 nd2 lt2 fun x => ?_
    rw [m2, m1]
    show _ ↔ _ ∨ x ∈ a.cs ++ b.cs
    rw [List.mem_append, or_assoc]
theorem w_cells_in (hn : n ≤ 63) (r : Tk top n d t) (q : ∀ x (ks : List Nat), (∀ v, v ∈ ks ↔ v ∈ t.cs) → ks.length ≤ 63 → Q (.tup (natsW ks)) (h ++ x)) : wp (callF G (k + d + 2) "cells_in" [t.w]) Q E h := by
  rw [w_def df_cells_in rfl]
  show wp (evSs _ ir_cells_in [some t.w]) _ _ h
  unfold ir_cells_in
  rw [ss_cons, s_ret, w_bi, ws_cons, w_bi, ws_cons, w_call, ws_cons, v0, ws_cons, w_dct, ws_nil, show pairUp [] = some [] from rfl, wp_ofO, show mergeD [] [] = kT [] from rfl, ws_nil, cfg_cf]
  have e0 : (h ++ [O.dct (kT [])])[h.length]? = some (O.dct (kT [])) := by rw [List.getElem?_append_right (Nat.le_refl _), Nat.sub_self]; rfl
  refine w_cwith hn r e0 List.nodup_nil (fun x hx => nomatch hx) fun ks nd lt m => ?_
  have hl := pigeon n ks nd lt
  have es : (h ++ [O.dct (kT [])]).set h.length (.dct (kT ks)) = h ++ [O.dct (kT ks)] := by
    rw [List.set_append_right _ _ (Nat.le_refl _), Nat.sub_self]; rfl
  rw [es]
  have e1 : (h ++ [O.dct (kT ks)])[h.length]? = some (O.dct (kT ks)) := by rw [List.getElem?_append_right (Nat.le_refl _), Nat.sub_self]; rfl
  rw [ws_nil, bi_sortedK e1 (by omega), wp_outR, ws_nil, bi_tupL lstAt_new, wp_outL, onN_rt, List.append_assoc]
  have hp := sortI_perm (ks.map fun (v : Nat) => (v : Int))
  have hnat : ∀ l : List Int, (∀ i ∈ l, ∃ v : Nat, i = v) → ∃ ks' : List Nat, l = ks'.map fun (v : Nat) => (v : Int) := by
    intro l
    induction l with
    | nil => exact fun _ => ⟨[], rfl⟩
    | cons a r ih =>
      intro hl
      obtain ⟨v, e⟩ := hl a List.mem_cons_self
      obtain ⟨ks', e'⟩ := ih fun i hi => hl i (List.mem_cons_of_mem _ hi)
      exact ⟨v :: ks', by rw [List.map_cons, ← e, ← e']⟩
  obtain ⟨ks', e'⟩ := hnat (sortI (ks.map fun (v : Nat) => (v : Int))) fun i hi => by
    obtain ⟨v, _, e⟩ := List.mem_map.mp (hp.mem_iff.mp hi)
    exact ⟨v, e.symm⟩
  have hm : ∀ v, v ∈ ks' ↔ v ∈ ks := by
    intro v
    have := hp.mem_iff (a := (v : Int))
    rw [e'] at this
    constructor
    · intro hv
      obtain ⟨u, hu, e⟩ := List.mem_map.mp (this.mp (List.mem_map.mpr ⟨v, hv, rfl⟩))
      have e : (u : Int) = v := e
      rw [← Int.ofNat.inj e]; exact hu
    · intro hv
      obtain ⟨u, hu, e⟩ := List.mem_map.mp (this.mpr (List.mem_map.mpr ⟨v, hv, rfl⟩))
      have e : (u : Int) = v := e
      rw [← Int.ofNat.inj e]; exact hu
  have hlen := hp.length_eq
  rw [e', List.length_map, List.length_map] at hlen
  rw [e', ← natsW_ints]
  exact q _ ks' (fun v => by rw [hm, m]; exact ⟨fun z => z.elim (fun z => nomatch z) id, .inr⟩) (by omega)
theorem row_sh {r : Row} : Sh r.w := by cases r <;> exact ⟨_, _, rfl, by simp⟩
theorem w_is_flat (F : FlF top s d rs) (q : ∀ x, Q (.bl true) (h ++ x)) : wp (callF G (k + 25) "is_flat" [fltW top s rs]) Q E h := by
  have hs := F.s
  have hn := F.n
  have hlen : (rs.map Row.w).length = rs.length := List.length_map _
  have hl : rs.length - 1 < rs.length := by omega
  obtain ⟨r, er⟩ : ∃ r, rs[rs.length - 1]? = some r := ⟨_, List.getElem?_eq_getElem hl⟩
  have rf := F.r _ r er
  have fin : r.fin = true := by
    cases hf : r.fin with
    | true => rfl
    | false => have := rf.on hf; omega
  obtain ⟨lw, lr, elw, hlo⟩ : ∃ lw lr, r.w = .tup (.str lw :: lr) ∧ lastOk lw = true := by
    cases r with
    | go g => exact ⟨sGo, _, rfl, rfl⟩
    | stop => exact ⟨sEnd, _, rfl, rfl⟩
    | _ => cases fin
  refine w_flat (rows := rs.map Row.w) (bs := rs.map fun _ => true) (lw := lw) (lr := lr) F.t (by omega) (by omega) (by omega) (fun w hw => ?_) ?_ (by rw [List.length_map, List.length_map]) (fun _ j w b hj hb => ?_) fun x => ?_
  · obtain ⟨r, _, e⟩ := List.mem_map.mp hw
    rw [← e]; exact row_sh
  · rw [hlen, List.getElem?_map, er, ← elw]; rfl
  · obtain ⟨r, e1, e2⟩ := map_at hj
    subst e2
    obtain ⟨_, _, e3⟩ := Option.map_eq_some_iff.mp (by rw [← List.getElem?_map]; exact hb)
    subst e3
    have := (F.r j r e1).rw
    rw [← hlen] at this
    exact rowR_ok (by omega) F.d this
  · have : (lastOk lw && (rs.map fun _ => true).all id) = true := by
      rw [hlo, Bool.true_and, List.all_eq_true]
      intro b hb
      obtain ⟨_, _, e⟩ := List.mem_map.mp hb
      rw [← e]; rfl
    rw [this]
    exact q x
theorem w_need_flat (F : FlF top s d rs) (q : ∀ x, Q .non (h ++ x)) : wp (callF G (k + 26) "need_flat" [fltW top s rs]) Q E h := by
  rw [w_def df_need_flat rfl]
  show wp (evSs _ ir_need_flat [some (fltW top s rs)]) _ _ h
  unfold ir_need_flat
  rw [ss_cons, s_if, w_nt, w_call, ws_cons, v0, ws_nil, cfg_cf]
  refine w_is_flat (k := k) F fun x => ?_
  rw [t_bl, t_bl, if_neg (by decide), ss_nil, onN_nx, ss_nil]
  exact q x
theorem inL_nats {v : Nat} : ∀ {l : List Nat}, inL (.int (v : Nat)) (natsW l) = decide (v ∈ l)
  | [] => rfl
  | a :: r => by
    show (W.eqv (.int (a : Nat)) (.int (v : Nat)) || inL (.int (v : Nat)) (natsW r)) = _
    rw [inL_nats]
    have e : W.eqv (.int (a : Int)) (.int v) = decide ((a : Int) = v) := rfl
    rw [e]
    by_cases c : a = v
    · subst c; simp
    · have c2 : ¬ (a : Int) = v := fun z => c (Int.ofNat.inj z)
      rw [decide_eq_false c2, Bool.false_or]
      by_cases c3 : v ∈ r
      · rw [decide_eq_true c3, decide_eq_true (List.mem_cons_of_mem _ c3)]
      · rw [decide_eq_false c3, decide_eq_false]
        intro z
        rcases List.mem_cons.mp z with q | q
        · exact c q.symm
        · exact c3 q
theorem grs_nats {l : List Nat} : grs (natsW l) = true := by rw [natsW_ints]; exact grs_ints _
theorem bi_sortedN {l : Nat} {ks : List Nat} (e : h[l]? = some (.lst (natsW ks))) : ∃ ks' : List Nat, (∀ v, v ∈ ks' ↔ v ∈ ks) ∧ ks'.length = ks.length ∧ ∀ (Q : Sum W O → AH → Prop) (E : Nm → AH → Prop), wp (rdO fun h => biH h .sorted [.loc l]) Q E h = Q (.inr (.lst (natsW ks'))) h := by
  have hnat : ∀ l : List Int, (∀ i ∈ l, ∃ v : Nat, i = v) → ∃ ks' : List Nat, l = ks'.map fun (v : Nat) => (v : Int) := by
    intro l
    induction l with
    | nil => exact fun _ => ⟨[], rfl⟩
    | cons a r ih =>
      intro hl
      obtain ⟨v, e⟩ := hl a List.mem_cons_self
      obtain ⟨ks', e'⟩ := ih fun i hi => hl i (List.mem_cons_of_mem _ hi)
      exact ⟨v :: ks', by rw [List.map_cons, ← e, ← e']⟩
  have intsN : ∀ l : List Nat, intsOf (natsW l) = some (l.map fun (v : Nat) => (v : Int)) := by
    intro l
    induction l with
    | nil => rfl
    | cons a r ih =>
      show (intsOf (natsW r)).map ((a : Int) :: ·) = _
      rw [ih]; rfl
  have hp := sortI_perm (ks.map fun (v : Nat) => (v : Int))
  obtain ⟨ks', e'⟩ := hnat (sortI (ks.map fun (v : Nat) => (v : Int))) fun i hi => by
    obtain ⟨v, _, e⟩ := List.mem_map.mp (hp.mem_iff.mp hi)
    exact ⟨v, e.symm⟩
  refine ⟨ks', fun v => ?_, ?_, fun Q E => wp_rd ?_⟩
  · have := hp.mem_iff (a := (v : Int))
    rw [e'] at this
    constructor
    · intro hv
      obtain ⟨u, hu, e⟩ := List.mem_map.mp (this.mp (List.mem_map.mpr ⟨v, hv, rfl⟩))
      have e : (u : Int) = v := e
      rw [← Int.ofNat.inj e]; exact hu
    · intro hv
      obtain ⟨u, hu, e⟩ := List.mem_map.mp (this.mpr (List.mem_map.mpr ⟨v, hv, rfl⟩))
      have e : (u : Int) = v := e
      rw [← Int.ofNat.inj e]; exact hu
  · have hlen := hp.length_eq
    rw [e', List.length_map, List.length_map] at hlen
    exact hlen
  · unfold biH
    dsimp only
    rw [lstAt_of e]
    dsimp only
    unfold sortW
    rw [intsN]
    show (match some ((sortI (ks.map fun (v : Nat) => (v : Int))).map W.int) with
      | some ys => some (Sum.inr (O.lst ys))
      | none => none) = _
    rw [e', ← natsW_ints]
theorem w_cellsR (hd : d ≤ 19) (hs : s ≤ 60) (r : Tk top s d t) (q : ∀ y (ks : List Nat), (∀ v, v ∈ ks ↔ v ∈ t.cs) → Q (.tup (natsW ks)) (h ++ y)) : wp (callF G (k + 23) "cells_in" [t.w]) Q E h := by
  rw [show k + 23 = (k + 21 - d) + d + 2 from by omega]
  exact w_cells_in (by omega) r fun y ks m _ => q y ks m
theorem nin_ks {Q : Bool → AH → Prop} {v : Nat} {ks cs : List Nat} (m : ∀ v, v ∈ ks ↔ v ∈ cs) : wp (rdO fun h => cmpH h .nin (.int (v : Nat)) (.tup (natsW ks))) Q E h = Q (!decide (v ∈ cs)) h := by
  rw [c_ninT (x := .int (v : Nat)) grs_nats rfl (.inr (Nat.zero_le 60)), inL_nats]
  rw [decide_eq_decide.mpr (m v)]
theorem in_ks {Q : Bool → AH → Prop} {v : Nat} {ks cs : List Nat} (m : ∀ v, v ∈ ks ↔ v ∈ cs) : wp (rdO fun h => cmpH h .in_ (.int (v : Nat)) (.tup (natsW ks))) Q E h = Q (decide (v ∈ cs)) h := by
  rw [c_inT (x := .int (v : Nat)) grs_nats rfl (.inr (Nat.zero_le 60)), inL_nats]
  rw [decide_eq_decide.mpr (m v)]
theorem rng_nats0 {c : Nat} : rngL 0 c = natsW (List.range c) := by rw [natsW_ints, rng_map]; rfl
def asks : Row → List Nat
  | .set _ t => t.cs
  | .tell t => t.cs
  | .if_ t _ => t.cs
  | _ => []
def wrt : Row → Option Nat
  | .set c _ => some c
  | .ask c => some c
  | _ => none
def wrtW (r : Row) : W := match wrt r with
  | some c => .int (c : Nat)
  | none => .non
/-- is a slot's number wanted ahead of a row -/
inductive Wa (rs : List Row) (v : Nat) : Nat → Prop where
  | here {k : Nat} {r : Row} : rs[k]? = some r → v ∈ asks r → Wa rs v k
  | on {k g : Nat} {r : Row} : rs[k]? = some r → wrt r ≠ some v → g ∈ waysR rs k → Wa rs v g → Wa rs v k
theorem sl_eq {l l' : List Nat} (h : l.Pairwise (· < ·)) (h' : l'.Pairwise (· < ·)) (m : ∀ k, k ∈ l ↔ k ∈ l') : l = l' := by
  have up : ∀ {l : List Nat}, l.Pairwise (· < ·) → (l.map fun (v : Nat) => (v : Int)).Pairwise (· < ·) := fun {l} h => List.pairwise_map.mpr (h.imp fun {a b} z => by omega)
  have e := strict_eq (up h) (up h') fun k => by
    constructor
    · intro z
      obtain ⟨v, hv, e⟩ := List.mem_map.mp z
      exact List.mem_map.mpr ⟨v, (m v).mp hv, e⟩
    · intro z
      obtain ⟨v, hv, e⟩ := List.mem_map.mp z
      exact List.mem_map.mpr ⟨v, (m v).mpr hv, e⟩
  exact (List.map_inj_right (fun a b z => Int.ofNat.inj z)).mp e
theorem nats_of : ∀ l : List Int, (∀ i ∈ l, ∃ v : Nat, i = v) → ∃ ks' : List Nat, l = ks'.map fun (v : Nat) => (v : Int)
  | [], _ => ⟨[], rfl⟩
  | a :: r, hl => by
    obtain ⟨v, e⟩ := hl a List.mem_cons_self
    obtain ⟨ks', e'⟩ := nats_of r fun i hi => hl i (List.mem_cons_of_mem _ hi)
    exact ⟨v :: ks', by rw [List.map_cons, ← e, ← e']⟩
theorem ints_nats : ∀ {l : List Nat}, intsOf (natsW l) = some (l.map fun (v : Nat) => (v : Int))
  | [] => rfl
  | a :: r => by
    show (intsOf (natsW r)).map ((a : Int) :: ·) = _
    rw [ints_nats]; rfl
theorem sl_len {l : List Nat} {n : Nat} (h : l.Pairwise (· < ·)) (hb : ∀ v ∈ l, v < n) : l.length ≤ n := pigeon n l (h.imp fun {a b} z => by omega) hb
theorem bi_ssetN {p : Nat} {zs : List Nat} (e : lstAt h p = some (natsW zs)) (hl : zs.length ≤ 4000) (hb : ∀ v ∈ zs, v < 62) : ∃ ks : List Nat, ks.Pairwise (· < ·) ∧ (∀ v, v ∈ ks ↔ v ∈ zs) ∧ ∀ (Q : Sum W O → AH → Prop) (E : Nm → AH → Prop), wp (rdO fun h => biH h .sset [.loc p]) Q E h = Q (.inr (.lst (natsW ks))) h := by
  have hp := sortI_perm (dedupI (zs.map fun (v : Nat) => (v : Int)))
  have hmem : ∀ i, i ∈ sortI (dedupI (zs.map fun (v : Nat) => (v : Int))) ↔ i ∈ zs.map fun (v : Nat) => (v : Int) := fun i => by rw [hp.mem_iff, dedupI_mem]
  obtain ⟨ks, ek⟩ := nats_of (sortI (dedupI (zs.map fun (v : Nat) => (v : Int)))) fun i hi => by
    obtain ⟨v, _, e⟩ := List.mem_map.mp ((hmem i).mp hi)
    exact ⟨v, e.symm⟩
  have hst : (sortI (dedupI (zs.map fun (v : Nat) => (v : Int)))).Pairwise (· < ·) := strict_of (sortI_sorted _) ((sortI_perm _).nodup_iff.mpr (dedupI_nodup _))
  have hks : ks.Pairwise (· < ·) := by
    rw [ek] at hst
    exact (List.pairwise_map.mp hst).imp fun {a b} z => by omega
  have hm : ∀ v, v ∈ ks ↔ v ∈ zs := by
    intro v
    have := hmem (v : Int)
    rw [ek] at this
    constructor
    · intro hv
      obtain ⟨u, hu, e⟩ := List.mem_map.mp (this.mp (List.mem_map.mpr ⟨v, hv, rfl⟩))
      have e : (u : Int) = v := e
      rw [← Int.ofNat.inj e]; exact hu
    · intro hv
      obtain ⟨u, hu, e⟩ := List.mem_map.mp (this.mpr (List.mem_map.mpr ⟨v, hv, rfl⟩))
      have e : (u : Int) = v := e
      rw [← Int.ofNat.inj e]; exact hu
  refine ⟨ks, hks, hm, fun Q E => wp_rd ?_⟩
  have hlen : (dedupI (zs.map fun (v : Nat) => (v : Int))).length ≤ 62 := by
    have h1 := hp.length_eq
    rw [ek, List.length_map] at h1
    have := sl_len (n := 62) hks fun v hv => hb v ((hm v).mp hv)
    omega
  unfold biH
  dsimp only
  rw [e]
  dsimp only
  unfold ssetW
  rw [ints_nats]
  show (match (if (zs.map fun (v : Nat) => (v : Int)).length ≤ 4000 ∧ (dedupI (zs.map fun (v : Nat) => (v : Int))).length ≤ 62 then some ((sortI (dedupI (zs.map fun (v : Nat) => (v : Int)))).map W.int) else none) with
    | some ys => some (Sum.inr (O.lst ys))
    | none => none) = _
  rw [if_pos ⟨by rw [List.length_map]; exact hl, hlen⟩, ek, ← natsW_ints]
theorem w_written_by {r : Row} : wp (callF G (k + 1) "written_by" [r.w]) Q E h = Q (wrtW r) h := by
  rw [w_def df_written_by rfl]
  show wp (evSs _ ir_written_by [some r.w]) _ _ h = _
  unfold ir_written_by
  rw [ss_cons, s_ret, w_ite, w_cmp, w_idx, v0, w_int]
  cases r with
  | set c t =>
    show wp (rdO fun h => idxH h (.tup [.str sSet, .int (c : Nat), t.w]) (.int 0)) _ _ _ = _
    rw [at0, w_tup, ws_cons, w_str, ws_cons, w_str, ws_nil, if_pos (by unfold LN; simp), wp_ret, c_inT (x := .str sSet) (ws := [.str sSet, .str sAsk]) rfl rfl (.inr (Nat.zero_le 60)), t_bl, if_pos (show inL (.str sSet) [.str sSet, .str sAsk] = true from rfl), w_idx, v0, w_int]
    show wp (rdO fun h => idxH h (.tup [.str sSet, .int (c : Nat), t.w]) (.int 1)) _ _ _ = _
    rw [at1, onN_rt]
    rfl
  | ask c =>
    show wp (rdO fun h => idxH h (.tup [.str sAsk, .int (c : Nat)]) (.int 0)) _ _ _ = _
    rw [at0, w_tup, ws_cons, w_str, ws_cons, w_str, ws_nil, if_pos (by unfold LN; simp), wp_ret, c_inT (x := .str sAsk) (ws := [.str sSet, .str sAsk]) rfl rfl (.inr (Nat.zero_le 60)), t_bl, if_pos (show inL (.str sAsk) [.str sSet, .str sAsk] = true from rfl), w_idx, v0, w_int]
    show wp (rdO fun h => idxH h (.tup [.str sAsk, .int (c : Nat)]) (.int 1)) _ _ _ = _
    rw [at1, onN_rt]
    rfl
  | tell t =>
    show wp (rdO fun h => idxH h (.tup [.str sTell, t.w]) (.int 0)) _ _ _ = _
    rw [at0, w_tup, ws_cons, w_str, ws_cons, w_str, ws_nil, if_pos (by unfold LN; simp), wp_ret, c_inT (x := .str sTell) (ws := [.str sSet, .str sAsk]) rfl rfl (.inr (Nat.zero_le 60)), t_bl, if_neg (show ¬ inL (.str sTell) [.str sSet, .str sAsk] = true from by decide), w_non, onN_rt]
    rfl
  | go g =>
    show wp (rdO fun h => idxH h (.tup [.str sGo, .int (g : Nat)]) (.int 0)) _ _ _ = _
    rw [at0, w_tup, ws_cons, w_str, ws_cons, w_str, ws_nil, if_pos (by unfold LN; simp), wp_ret, c_inT (x := .str sGo) (ws := [.str sSet, .str sAsk]) rfl rfl (.inr (Nat.zero_le 60)), t_bl, if_neg (show ¬ inL (.str sGo) [.str sSet, .str sAsk] = true from by decide), w_non, onN_rt]
    rfl
  | stop =>
    show wp (rdO fun h => idxH h (.tup [.str sEnd]) (.int 0)) _ _ _ = _
    rw [at0, w_tup, ws_cons, w_str, ws_cons, w_str, ws_nil, if_pos (by unfold LN; simp), wp_ret, c_inT (x := .str sEnd) (ws := [.str sSet, .str sAsk]) rfl rfl (.inr (Nat.zero_le 60)), t_bl, if_neg (show ¬ inL (.str sEnd) [.str sSet, .str sAsk] = true from by decide), w_non, onN_rt]
    rfl
  | if_ t g =>
    show wp (rdO fun h => idxH h (.tup [.str sIf, t.w, .int (g : Nat)]) (.int 0)) _ _ _ = _
    rw [at0, w_tup, ws_cons, w_str, ws_cons, w_str, ws_nil, if_pos (by unfold LN; simp), wp_ret, c_inT (x := .str sIf) (ws := [.str sSet, .str sAsk]) rfl rfl (.inr (Nat.zero_le 60)), t_bl, if_neg (show ¬ inL (.str sIf) [.str sSet, .str sAsk] = true from by decide), w_non, onN_rt]
    rfl
theorem w_asked_by {r : Row} {m : Nat} (hd : d ≤ 19) (hs : s ≤ 60) (R : RowF top s d m j r) (q : ∀ h' (ks : List Nat), Kp h h' → (∀ v, v ∈ ks ↔ v ∈ asks r) → (∀ v ∈ ks, v < s) → ks.length ≤ 63 → Q (.tup (natsW ks)) h') : wp (callF G (k + 24) "asked_by" [r.w]) Q E h := by
  have cells : ∀ {t : T} {Q' : W → AH → Prop} {E' : Nm → AH → Prop}, Tk top s d t → (∀ h' (ks : List Nat), Kp h h' → (∀ v, v ∈ ks ↔ v ∈ t.cs) → (∀ v ∈ ks, v < s) → ks.length ≤ 63 → Q' (.tup (natsW ks)) h') → wp (callF G (k + 23) "cells_in" [t.w]) Q' E' h := by
    intro t Q' E' r q'
    rw [show k + 23 = (k + 21 - d) + d + 2 from by omega]
    exact w_cells_in (by omega) r fun y ks m hl => q' _ ks .app m (fun v hv => r.cs_lt v ((m v).mp hv)) hl
  rw [w_def df_asked_by rfl]
  show wp (evSs _ ir_asked_by [some r.w]) _ _ h
  unfold ir_asked_by
  rw [ss_cons, s_if, w_cmp, w_idx, v0, w_int]
  cases r with
  | set c t =>
    show wp (rdO fun h => idxH h (.tup [.str sSet, .int (c : Nat), t.w]) (.int 0)) _ _ _
    rw [at0, w_str, c_eqS, t_bl, if_pos (by decide), ss_cons, s_ret, w_call, ws_cons, w_idx, v0, w_int]
    show wp (rdO fun h => idxH h (.tup [.str sSet, .int (c : Nat), t.w]) (.int 2)) _ _ _
    rw [at2, ws_nil, cfg_cf]
    refine cells (R.c c t rfl).2 fun h' ks kp m lt hl => ?_
    rw [onN_rt, onN_rt]
    exact q h' ks kp m lt hl
  | ask c =>
    show wp (rdO fun h => idxH h (.tup [.str sAsk, .int (c : Nat)]) (.int 0)) _ _ _
    rw [at0, w_str, c_eqS, t_bl, if_neg (by decide), ss_nil, onN_nx, ss_cons, s_if, w_cmp, w_idx, v0, w_int]
    show wp (rdO fun h => idxH h (.tup [.str sAsk, .int (c : Nat)]) (.int 0)) _ _ _
    rw [at0, w_tup, ws_cons, w_str, ws_cons, w_str, ws_nil, if_pos (by unfold LN; simp), wp_ret, c_inT (x := .str sAsk) (ws := [.str sTell, .str sIf]) rfl rfl (.inr (Nat.zero_le 60)), t_bl, if_neg (show ¬ inL (.str sAsk) [.str sTell, .str sIf] = true from by decide), ss_nil, onN_nx, ss_cons, s_ret, w_tup, ws_nil, if_pos (by unfold LN; simp), wp_ret, onN_rt]
    exact q h [] .refl (fun v => Iff.rfl) (fun v hv => nomatch hv) (by simp)
  | tell t =>
    show wp (rdO fun h => idxH h (.tup [.str sTell, t.w]) (.int 0)) _ _ _
    rw [at0, w_str, c_eqS, t_bl, if_neg (by decide), ss_nil, onN_nx, ss_cons, s_if, w_cmp, w_idx, v0, w_int]
    show wp (rdO fun h => idxH h (.tup [.str sTell, t.w]) (.int 0)) _ _ _
    rw [at0, w_tup, ws_cons, w_str, ws_cons, w_str, ws_nil, if_pos (by unfold LN; simp), wp_ret, c_inT (x := .str sTell) (ws := [.str sTell, .str sIf]) rfl rfl (.inr (Nat.zero_le 60)), t_bl, if_pos (show inL (.str sTell) [.str sTell, .str sIf] = true from rfl), ss_cons, s_ret, w_call, ws_cons, w_idx, v0, w_int]
    show wp (rdO fun h => idxH h (.tup [.str sTell, t.w]) (.int 1)) _ _ _
    rw [at1, ws_nil, cfg_cf]
    refine cells (R.t t rfl) fun h' ks kp m lt hl => ?_
    rw [onN_rt, onN_rt]
    exact q h' ks kp m lt hl
  | go g =>
    show wp (rdO fun h => idxH h (.tup [.str sGo, .int (g : Nat)]) (.int 0)) _ _ _
    rw [at0, w_str, c_eqS, t_bl, if_neg (by decide), ss_nil, onN_nx, ss_cons, s_if, w_cmp, w_idx, v0, w_int]
    show wp (rdO fun h => idxH h (.tup [.str sGo, .int (g : Nat)]) (.int 0)) _ _ _
    rw [at0, w_tup, ws_cons, w_str, ws_cons, w_str, ws_nil, if_pos (by unfold LN; simp), wp_ret, c_inT (x := .str sGo) (ws := [.str sTell, .str sIf]) rfl rfl (.inr (Nat.zero_le 60)), t_bl, if_neg (show ¬ inL (.str sGo) [.str sTell, .str sIf] = true from by decide), ss_nil, onN_nx, ss_cons, s_ret, w_tup, ws_nil, if_pos (by unfold LN; simp), wp_ret, onN_rt]
    exact q h [] .refl (fun v => Iff.rfl) (fun v hv => nomatch hv) (by simp)
  | stop =>
    show wp (rdO fun h => idxH h (.tup [.str sEnd]) (.int 0)) _ _ _
    rw [at0, w_str, c_eqS, t_bl, if_neg (by decide), ss_nil, onN_nx, ss_cons, s_if, w_cmp, w_idx, v0, w_int]
    show wp (rdO fun h => idxH h (.tup [.str sEnd]) (.int 0)) _ _ _
    rw [at0, w_tup, ws_cons, w_str, ws_cons, w_str, ws_nil, if_pos (by unfold LN; simp), wp_ret, c_inT (x := .str sEnd) (ws := [.str sTell, .str sIf]) rfl rfl (.inr (Nat.zero_le 60)), t_bl, if_neg (show ¬ inL (.str sEnd) [.str sTell, .str sIf] = true from by decide), ss_nil, onN_nx, ss_cons, s_ret, w_tup, ws_nil, if_pos (by unfold LN; simp), wp_ret, onN_rt]
    exact q h [] .refl (fun v => Iff.rfl) (fun v hv => nomatch hv) (by simp)
  | if_ t g =>
    show wp (rdO fun h => idxH h (.tup [.str sIf, t.w, .int (g : Nat)]) (.int 0)) _ _ _
    rw [at0, w_str, c_eqS, t_bl, if_neg (by decide), ss_nil, onN_nx, ss_cons, s_if, w_cmp, w_idx, v0, w_int]
    show wp (rdO fun h => idxH h (.tup [.str sIf, t.w, .int (g : Nat)]) (.int 0)) _ _ _
    rw [at0, w_tup, ws_cons, w_str, ws_cons, w_str, ws_nil, if_pos (by unfold LN; simp), wp_ret, c_inT (x := .str sIf) (ws := [.str sTell, .str sIf]) rfl rfl (.inr (Nat.zero_le 60)), t_bl, if_pos (show inL (.str sIf) [.str sTell, .str sIf] = true from rfl), ss_cons, s_ret, w_call, ws_cons, w_idx, v0, w_int]
    show wp (rdO fun h => idxH h (.tup [.str sIf, t.w, .int (g : Nat)]) (.int 1)) _ _ _
    rw [at1, ws_nil, cfg_cf]
    refine cells (R.f t g rfl) fun h' ks kp m lt hl => ?_
    rw [onN_rt, onN_rt]
    exact q h' ks kp m lt hl
theorem wrt_ne {Q : Bool → AH → Prop} {v : Nat} {r : Row} : wp (rdO fun h => cmpH h .ne (.int (v : Nat)) (wrtW r)) Q E h = Q (!decide (wrt r = some v)) h := wp_rd (by
  unfold wrtW
  cases e : wrt r with
  | none => rfl
  | some c =>
    show some (!decide (((v : Nat) : Int) = (c : Nat))) = _
    by_cases z : c = v
    · subst z
      rw [decide_eq_true rfl, decide_eq_true rfl]
    · rw [decide_eq_false (by omega), decide_eq_false (fun q => z (Option.some.inj q))])
end
end K
/-! N2: what is wanted ahead of a row, from what is wanted behind it. -/
namespace K
open MI HK
section
variable {k n d : Nat} {h : AH} {Q : W → AH → Prop} {E : Nm → AH → Prop} {top : Int} {t : T} {rs ms : List Row} {s p x j : Nat}
theorem w_wanted_ahead {r : Row} {m l : Nat} {ws : List Nat} (hd : d ≤ 19) (hs : s ≤ 60) (R : RowF top s d m j r) (el : h[l]? = some (.lst (natsW ws))) (hw : ∀ v ∈ ws, v < s) (hl : ws.length ≤ 300)
    (q : ∀ h' (ks : List Nat), Kp h h' → ks.Pairwise (· < ·) → (∀ v, v ∈ ks ↔ (v ∈ ws ∧ wrt r ≠ some v) ∨ v ∈ asks r) → (∀ v ∈ ks, v < s) → Q (.tup (natsW ks)) h') : wp (callF G (k + 25) "wanted_ahead" [r.w, .loc l]) Q E h := by
  rw [w_def df_wanted_ahead rfl]
  show wp (evSs _ ir_wanted_ahead [some r.w, some (.loc l), none, none]) _ _ h
  unfold ir_wanted_ahead
  rw [ss_cons, s_asg, w_comp, wi_val, v1, it_lst el]
  dsimp only [wipeE, List.set]
  have step := compN_inv (test := evT (cfg G (k + 24)) (.cons (.cmp .ne (.var 3) (.call "written_by" (.cons (.var 0) .nil))) .nil)) (elt := evE (cfg G (k + 24)) (.var 3)) (t := .one 3) (s := [some r.w, some (.loc l), none, none]) (J := .lst l) (ws := natsW ws)
    (P := fun i acc h2 => h2 = h ∧ acc = natsW ((ws.take i).filter fun v => !decide (wrt r = some v))) (E := fun _ _ => False) (fun i acc h2 hp => by rw [hp.1]; exact item_lst el) (fun i acc h2 w hp hi => ?_) ((It.lst l).fuel) 0 [] h (by show (natsW ws).length + 1 ≤ LN + 1 + 0; rw [natsW_len]; unfold LN; omega) (Nat.zero_le _) ⟨rfl, rfl⟩
  · refine wp_mono step (fun acc h4 hx => ?_) fun _ _ z => z.elim
    obtain ⟨e1, e2⟩ := hx
    subst e1 e2
    rw [natsW_len, List.take_length]
    have e1 : (h4 ++ [O.lst (natsW (ws.filter fun v => !decide (wrt r = some v)))])[h4.length]? = some (.lst (natsW (ws.filter fun v => !decide (wrt r = some v)))) := new_list
    have kp1 : Kp h4 (h4 ++ [O.lst (natsW (ws.filter fun v => !decide (wrt r = some v)))]) := .app
    have hl4 : h4.length < (h4 ++ [O.lst (natsW (ws.filter fun v => !decide (wrt r = some v)))]).length := by simp
    generalize h4 ++ [O.lst (natsW (ws.filter fun v => !decide (wrt r = some v)))] = h5 at e1 kp1 hl4 ⊢
    rw [wp_rd (a := [some r.w, some (.loc l), some (.loc h4.length), none]) rfl, onN_nx, ss_cons, s_ret, w_bi, ws_cons, w_bi, ws_cons, w_bin, v2, w_bi, ws_cons, w_call, ws_cons, v0, ws_nil, cfg_cf]
    refine w_asked_by (k := k) hd hs R fun h6 ks kp6 m lt hlk => ?_
    have bl : ∀ {Q : Sum W O → AH → Prop} {E : Nm → AH → Prop} {h : AH} {xs : List W}, wp (rdO fun h => biH h .list [.tup xs]) Q E h = Q (.inr (.lst xs)) h := fun {Q E h xs} => wp_rd rfl
    have e6 := (kp6.2 _ hl4).trans e1
    have hf : (ws.filter fun v => !decide (wrt r = some v)).length ≤ 300 := Nat.le_trans (List.length_filter_le _ _) hl
    rw [ws_nil, bl, wp_outR, b_lst (app_get e6) new_list (by rw [natsW_len, natsW_len]; omega), wp_outR, ws_nil]
    have ec : natsW (ws.filter fun v => !decide (wrt r = some v)) ++ natsW ks = natsW ((ws.filter fun v => !decide (wrt r = some v)) ++ ks) := by unfold natsW; rw [List.map_append]
    rw [ec]
    have ltA : ∀ v ∈ (ws.filter fun v => !decide (wrt r = some v)) ++ ks, v < s := fun v hv => by
      rcases List.mem_append.mp hv with z | z
      · exact hw v (List.mem_filter.mp z).1
      · exact lt v z
    obtain ⟨zs, z1, z2, z3⟩ := bi_ssetN (h := h6 ++ [O.lst (natsW ks)] ++ [O.lst (natsW ((ws.filter fun v => !decide (wrt r = some v)) ++ ks))]) lstAt_new (by rw [List.length_append]; omega) fun v hv => by have := ltA v hv; omega
    rw [z3, wp_outR, ws_nil, bi_tupL lstAt_new, wp_outL, onN_rt]
    refine q _ zs ((kp1.trans kp6).more.more.more) z1 (fun v => ?_) fun v hv => ltA v ((z2 v).mp hv)
    rw [z2, List.mem_append, List.mem_filter, m]
    constructor
    · rintro (⟨a, b⟩ | b)
      · exact .inl ⟨a, by simpa using b⟩
      · exact .inr b
    · rintro (⟨a, b⟩ | b)
      · exact .inl ⟨a, by simpa using b⟩
      · exact .inr b
  · obtain ⟨e1, e2⟩ := hp
    subst e1 e2
    obtain ⟨v, ev, ew⟩ := natsW_at hi
    subst ew
    refine ⟨by rw [natsW_len]; have := List.length_filter_le (fun v => !decide (wrt r = some v)) (ws.take i); rw [List.length_take] at this; unfold LN; omega, [some r.w, some (.loc l), none, some (.int (v : Nat))], rfl, ?_⟩
    rw [wt_cons, w_cmp, v3, w_call, ws_cons, v0, ws_nil, cfg_cf, w_written_by (k := k + 23), wrt_ne, t_bl, take_at ev, List.filter_append]
    by_cases c : wrt r = some v
    · rw [decide_eq_true c, if_neg (by decide)]
      refine ⟨rfl, ?_⟩
      have : [v].filter (fun v => !decide (wrt r = some v)) = [] := by rw [List.filter_cons_of_neg (by rw [decide_eq_true c]; decide)]; rfl
      rw [this, List.append_nil]
    · rw [decide_eq_false c, if_pos (by decide), v3]
      refine ⟨rfl, ?_⟩
      have : [v].filter (fun v => !decide (wrt r = some v)) = [v] := by rw [List.filter_cons_of_pos (by rw [decide_eq_false c]; rfl)]; rfl
      rw [this]
      unfold natsW
      rw [List.map_append]
      rfl
/-- the tuples that are found -/
def fndW (F : List (List Nat)) : List W := F.map fun ks => .tup (natsW ks)
theorem fnd_at {F : List (List Nat)} {i : Nat} {ks : List Nat} (e : F[i]? = some ks) : (fndW F)[i]? = some (.tup (natsW ks)) := by unfold fndW; rw [List.getElem?_map, e]; rfl
theorem aug_tup {Q : W → AH → Prop} {l : Nat} {xs ys : List W} (e : h[l]? = some (.lst xs)) (hl : xs.length + ys.length ≤ 1000) : wp (augM .add (.loc l) (.tup ys)) Q E h = Q (.loc l) (h.set l (.lst (xs ++ ys))) := wp_eq (by
  show (fun h => match lstM h l with
    | some xs => if xs.length + ys.length ≤ LN then R.ok (W.loc l) (h.set l (.lst (xs ++ ys))) else .bad
    | none => .bad) h = _
  unfold lstM
  dsimp only
  rw [e]
  dsimp only
  rw [if_pos (by unfold LN; omega)])
theorem w_wanted_behind {F : List (List Nat)} {l i : Nat} {r : Row} (er : rs[i]? = some r) (el : h[l]? = some (.lst (fndW F))) (hF : ∀ (j : Nat) (ks : List Nat), F[j]? = some ks → ks.length ≤ 60) (hg : ∀ g ∈ waysR rs i, g < F.length)
    (q : ∀ h' l' (ws : List Nat), Kp h h' → h'[l']? = some (.lst (natsW ws)) → h.length ≤ l' → ws.length ≤ 120 → (∀ v, v ∈ ws ↔ ∃ g ∈ waysR rs i, ∃ ks : List Nat, F[g]? = some ks ∧ v ∈ ks) → Q (.loc l') h') : wp (callF G (k + 2) "wanted_behind" [fltW top s rs, .int (i : Nat), .loc l]) Q E h := by
  have hll := lt_of el
  rw [w_def df_wanted_behind rfl]
  show wp (evSs _ ir_wanted_behind [some (fltW top s rs), some (.int (i : Nat)), some (.loc l), none, none]) _ _ h
  unfold ir_wanted_behind
  rw [ss_cons, s_asg, w_lst, ws_nil, if_pos (by unfold LN; simp), wp_alloc]
  have en : (h ++ [O.lst []])[h.length]? = some (O.lst (natsW [])) := new_list
  have kp0 : Kp h (h ++ [O.lst []]) := .app
  generalize h ++ [O.lst []] = h1 at en kp0 ⊢
  rw [wp_rd (a := [some (fltW top s rs), some (.int (i : Nat)), some (.loc l), some (.loc h.length), none]) rfl, onN_nx, ss_cons, s_for, wi_val, w_call, ws_cons, v0, ws_cons, v1, ws_nil, cfg_cf, w_ways_of (k := k) er, it_tup]
  have wl2 : (waysR rs i).length ≤ 2 := by rw [waysR_at er, ways_len]; cases r <;> simp [Row.wl]
  refine forN_inv (ws := natsW (waysR rs i)) (P := fun a s' h2 => (∃ c4, s' = [some (fltW top s rs), some (.int (i : Nat)), some (.loc l), some (.loc h.length), c4]) ∧ Kp h h2 ∧ ∃ ws : List Nat, h2[h.length]? = some (.lst (natsW ws)) ∧ ws.length ≤ 60 * a ∧ ∀ v, v ∈ ws ↔ ∃ g ∈ (waysR rs i).take a, ∃ ks : List Nat, F[g]? = some ks ∧ v ∈ ks)
    (fun a s' h2 hq => rfl) (fun a s' h2 w hq ha => ?_) (fun s' h2 hq => ?_) _ 0 _ _ (by dsimp only [It.fuel]; omega) (Nat.zero_le _) ⟨⟨none, rfl⟩, kp0, [], en, by simp, fun v => ⟨fun z => (nomatch z), fun ⟨g, z, _⟩ => (nomatch z)⟩⟩
  · obtain ⟨⟨c4, es⟩, kp, ws, ew, hlw, hm⟩ := hq
    subst es
    have hal := (List.getElem?_eq_some_iff.mp ha).1
    rw [natsW_len] at hal
    obtain ⟨g, eg, ew2⟩ := natsW_at ha
    subst ew2
    have hgl := hg g (List.mem_of_getElem? eg)
    obtain ⟨ks, ek⟩ : ∃ ks, F[g]? = some ks := ⟨_, List.getElem?_eq_getElem hgl⟩
    have hk60 := hF g ks ek
    have el2 := (kp.2 l hll).trans el
    refine ⟨[some (fltW top s rs), some (.int (i : Nat)), some (.loc l), some (.loc h.length), some (.int (g : Nat))], rfl, ?_⟩
    rw [ss_cons, s_aug, wp_rd (a := W.loc h.length) rfl, w_idx, v2, v4, at_lst (lstAt_of el2) (atI_nat (fnd_at ek)), aug_tup ew (by rw [natsW_len, natsW_len]; omega), onN_nx, ss_nil]
    have ec : natsW ws ++ natsW ks = natsW (ws ++ ks) := by unfold natsW; rw [List.map_append]
    refine ⟨⟨_, rfl⟩, kp.put (Nat.le_refl _), ws ++ ks, by rw [← ec]; exact List.getElem?_set_self (lt_of ew), by rw [List.length_append]; omega, fun v => ?_⟩
    rw [List.mem_append, hm, take_at eg]
    constructor
    · rintro (⟨g', a1, a2⟩ | b)
      · exact ⟨g', List.mem_append_left _ a1, a2⟩
      · exact ⟨g, List.mem_append_right _ (List.mem_singleton.mpr rfl), ks, ek, b⟩
    · rintro ⟨g', a1, ks', a2, a3⟩
      rcases List.mem_append.mp a1 with z | z
      · exact .inl ⟨g', z, ks', a2, a3⟩
      · rw [List.mem_singleton.mp z, ek] at a2
        cases a2
        exact .inr a3
  · obtain ⟨⟨c4, es⟩, kp, ws, ew, hlw, hm⟩ := hq
    subst es
    rw [natsW_len] at hlw hm
    rw [List.take_length] at hm
    rw [onN_nx, ss_cons, s_ret, v3, onN_rt]
    exact q _ _ ws kp ew (Nat.le_refl _) (by omega) hm
end
end K
/-! N3: what is wanted at all rows. -/
namespace K
open MI HK
section
variable {k n d : Nat} {h : AH} {Q : W → AH → Prop} {E : Nm → AH → Prop} {top : Int} {t : T} {rs ms : List Row} {s p x j : Nat} {F : List (List Nat)}
def Stp (rs : List Row) (F : List (List Nat)) (j v : Nat) : Prop := ∃ r, rs[j]? = some r ∧ (v ∈ asks r ∨ (wrt r ≠ some v ∧ ∃ g ∈ waysR rs j, ∃ ks : List Nat, F[g]? = some ks ∧ v ∈ ks))
structure WI (rs : List Row) (s : Nat) (F : List (List Nat)) : Prop where
  n : F.length = rs.length
  o : ∀ (j : Nat) (ks : List Nat), F[j]? = some ks → ks.Pairwise (· < ·) ∧ ∀ v ∈ ks, v < s ∧ Wa rs v j ∧ Stp rs F j v
def tot (F : List (List Nat)) : Nat := (F.map List.length).sum
def Fix (rs : List Row) (F : List (List Nat)) (j : Nat) : Prop := ∀ ks : List Nat, F[j]? = some ks → ∀ v, Stp rs F j v → v ∈ ks
theorem sum_set : ∀ {l : List Nat} {j a b : Nat}, l[j]? = some a → (l.set j b).sum + a = l.sum + b
  | [], j, a, b, e => by simp at e
  | c :: r, 0, a, b, e => by
    have : c = a := by simpa using e
    subst this
    show b + r.sum + c = c + r.sum + b
    omega
  | c :: r, j + 1, a, b, e => by
    have := sum_set (l := r) (j := j) (a := a) (b := b) (by simpa using e)
    show c + (r.set j b).sum + a = c + r.sum + b
    omega
theorem sum_le : ∀ {l : List Nat} {s : Nat}, (∀ x ∈ l, x ≤ s) → l.sum ≤ l.length * s
  | [], s, _ => by simp
  | a :: r, s, h => by
    have := sum_le (l := r) (s := s) fun x hx => h x (List.mem_cons_of_mem _ hx)
    have h1 := h a List.mem_cons_self
    show a + r.sum ≤ (r.length + 1) * s
    rw [Nat.succ_mul]
    omega
theorem tot_set {ks ks' : List Nat} (e : F[j]? = some ks) : tot (F.set j ks') + ks.length = tot F + ks'.length := by
  unfold tot
  rw [List.map_set]
  exact sum_set (by rw [List.getElem?_map, e]; rfl)
theorem WI.tot_le (W : WI rs s F) : tot F ≤ rs.length * s := by
  unfold tot
  have := sum_le (l := F.map List.length) (s := s) fun x hx => by
    obtain ⟨ks, hk, e⟩ := List.mem_map.mp hx
    obtain ⟨j, hj, ej⟩ := List.getElem_of_mem hk
    obtain ⟨o1, o2⟩ := W.o j ks (by rw [List.getElem?_eq_getElem hj, ej])
    rw [← e]
    exact sl_len o1 fun v hv => (o2 v hv).1
  rw [List.length_map, W.n] at this
  exact this
theorem WI.sub {ks ks' : List Nat} (W : WI rs s F) (e : F[j]? = some ks) (m : ∀ v, v ∈ ks' ↔ Stp rs F j v) : ∀ v ∈ ks, v ∈ ks' := fun v hv => (m v).mpr ((W.o j ks e).2 v hv).2.2
theorem WI.grow {ks ks' : List Nat} (W : WI rs s F) (e : F[j]? = some ks) (st : ks'.Pairwise (· < ·)) (m : ∀ v, v ∈ ks' ↔ Stp rs F j v) (hne : ks' ≠ ks) : tot F < tot (F.set j ks') := by
  have sub := W.sub e m
  have o1 := (W.o j ks e).1
  have nd : ks.Nodup := o1.imp fun {a b} z => by omega
  have hx : ∃ v, v ∈ ks' ∧ v ∉ ks := by
    apply Classical.byContradiction
    intro z
    exact hne (sl_eq st o1 fun v => ⟨fun hv => Classical.byContradiction fun q => z ⟨v, hv, q⟩, sub v⟩)
  obtain ⟨v, h1, h2⟩ := hx
  have := nodup_len (v :: ks) ks' (List.nodup_cons.mpr ⟨h2, nd⟩) fun y hy => by
    rcases List.mem_cons.mp hy with z | z
    · rw [z]; exact h1
    · exact sub y z
  rw [List.length_cons] at this
  have := tot_set (ks' := ks') e
  omega
theorem Stp.mono {F' : List (List Nat)} {v : Nat} (S : Stp rs F j v) (hs : ∀ (g : Nat) (ks : List Nat), F[g]? = some ks → ∃ ks' : List Nat, F'[g]? = some ks' ∧ ∀ v ∈ ks, v ∈ ks') : Stp rs F' j v := by
  obtain ⟨r, er, z⟩ := S
  refine ⟨r, er, ?_⟩
  rcases z with z | ⟨z1, g, z2, ks, z3, z4⟩
  · exact .inl z
  · obtain ⟨ks', a, b⟩ := hs g ks z3
    exact .inr ⟨z1, g, z2, ks', a, b v z4⟩
theorem WI.wa {v : Nat} (W : WI rs s F) (S : Stp rs F j v) : Wa rs v j := by
  obtain ⟨r, er, z⟩ := S
  rcases z with z | ⟨z1, g, z2, ks, z3, z4⟩
  · exact .here er z
  · exact .on er z1 z2 ((W.o g ks z3).2 v z4).2.1
theorem WI.set {ks ks' : List Nat} (W : WI rs s F) (e : F[j]? = some ks) (st : ks'.Pairwise (· < ·)) (m : ∀ v, v ∈ ks' ↔ Stp rs F j v) (lt : ∀ v ∈ ks', v < s) : WI rs s (F.set j ks') := by
  have hj := (List.getElem?_eq_some_iff.mp e).1
  have mono : ∀ (g : Nat) (ks0 : List Nat), F[g]? = some ks0 → ∃ ks1 : List Nat, (F.set j ks')[g]? = some ks1 ∧ ∀ v ∈ ks0, v ∈ ks1 := by
    intro g ks0 e0
    by_cases c : j = g
    · subst c
      rw [e] at e0
      cases e0
      exact ⟨ks', List.getElem?_set_self hj, W.sub e m⟩
    · exact ⟨ks0, by rw [List.getElem?_set_ne c]; exact e0, fun v hv => hv⟩
  refine ⟨by rw [List.length_set]; exact W.n, fun i zs ei => ?_⟩
  by_cases c : j = i
  · subst c
    rw [List.getElem?_set_self hj] at ei
    cases ei
    exact ⟨st, fun v hv => ⟨lt v hv, W.wa ((m v).mp hv), ((m v).mp hv).mono mono⟩⟩
  · rw [List.getElem?_set_ne c] at ei
    obtain ⟨o1, o2⟩ := W.o i zs ei
    exact ⟨o1, fun v hv => ⟨(o2 v hv).1, (o2 v hv).2.1, (o2 v hv).2.2.mono mono⟩⟩
theorem fix_wa (W : WI rs s F) (FF : ∀ (j : Nat) r, rs[j]? = some r → ∀ g ∈ waysR rs j, g < rs.length) (X : ∀ j, j < rs.length → Fix rs F j) {v : Nat} : ∀ {j : Nat}, Wa rs v j → ∀ ks : List Nat, F[j]? = some ks → v ∈ ks := by
  intro j w
  induction w with
  | @here j r er ha =>
    intro ks e
    exact X j (List.getElem?_eq_some_iff.mp er).1 ks e v ⟨r, er, .inl ha⟩
  | @on j g r er hw hg w ih =>
    intro ks e
    have hgl := FF j r er g hg
    obtain ⟨kg, ek⟩ : ∃ ks, F[g]? = some ks := ⟨_, List.getElem?_eq_getElem (by rw [W.n]; exact hgl)⟩
    exact X j (List.getElem?_eq_some_iff.mp er).1 ks e v ⟨r, er, .inr ⟨hw, g, hg, kg, ek, ih kg ek⟩⟩
theorem eqvs_nats : ∀ {a b : List Nat}, eqvs (natsW a) (natsW b) = decide (a = b)
  | [], [] => rfl
  | [], _ :: _ => rfl
  | _ :: _, [] => rfl
  | x :: a, y :: b => by
    show (W.eqv (.int (x : Nat)) (.int (y : Nat)) && eqvs (natsW a) (natsW b)) = _
    have e : W.eqv (.int (x : Nat)) (.int (y : Nat)) = decide (((x : Nat) : Int) = (y : Nat)) := rfl
    rw [e, eqvs_nats, ← Bool.decide_and]
    exact decide_eq_decide.mpr ⟨fun z => by rw [Int.ofNat.inj z.1, z.2], fun z => by cases z; exact ⟨rfl, rfl⟩⟩
theorem dps_nats : ∀ {a : List Nat}, dps (natsW a) = 0
  | [] => rfl
  | x :: a => by show max 0 (dps (natsW a)) = 0; rw [dps_nats]; rfl
theorem ne_nats {Q : Bool → AH → Prop} {a b : List Nat} : wp (rdO fun h => cmpH h .ne (.tup (natsW a)) (.tup (natsW b))) Q E h = Q (!decide (a = b)) h := wp_rd (by
  show (eqW (.tup (natsW a)) (.tup (natsW b))).map (!·) = _
  unfold eqW
  have g1 : (W.tup (natsW a)).gr = true := grs_nats
  have g2 : (W.tup (natsW b)).gr = true := grs_nats
  have g3 : (W.tup (natsW a)).dp = 1 := by show dps (natsW a) + 1 = 1; rw [dps_nats]
  rw [g1, g2, g3]
  show some (!eqvs (natsW a) (natsW b)) = _
  rw [eqvs_nats])
abbrev WaE (top : Int) (s : Nat) (rs : List Row) (l : Nat) (c : Bool) (c3 c4 c5 : Option W) : Env := [some (fltW top s rs), some (.loc l), some (.bl c), c3, c4, c5]
theorem rev_at {m i : Nat} {w : W} (e : ((rngL 0 m).reverse)[i]? = some w) : i < m ∧ w = .int ((m - 1 - i : Nat) : Nat) := by
  have hl : (rngL 0 m).length = m := rng_len m
  have hi := (List.getElem?_eq_some_iff.mp e).1
  rw [List.length_reverse, hl] at hi
  rw [List.getElem?_reverse (by rw [hl]; exact hi), hl] at e
  exact ⟨hi, (rng_atI e).1⟩
theorem w_wanted_at (FL : FlF top s d rs) (q : ∀ h' F, Kp h h' → WI rs s F → (∀ j, j < rs.length → Fix rs F j) → Q (.tup (fndW F)) h') : wp (callF G (k + 27) "wanted_at" [fltW top s rs]) Q E h := by
  have hn := FL.n
  have hs := FL.s
  have hlen : (rs.map Row.w).length = rs.length := List.length_map _
  rw [w_def df_wanted_at rfl]
  show wp (evSs _ ir_wanted_at [some (fltW top s rs), none, none, none, none, none]) _ _ h
  unfold ir_wanted_at
  rw [ss_cons, s_expr, w_call, ws_cons, v0, ws_nil, cfg_cf]
  refine w_need_flat (k := k) FL fun y => ?_
  have kp0 : Kp h (h ++ y) := .app
  generalize h ++ y = h1 at kp0 ⊢
  rw [onN_nx, ss_cons, s_asg, w_comp, wi_val, w_idx, v0, w_int]
  show wp (rdO fun h => idxH h (.tup [.int top, .int (s : Nat), .tup (rs.map Row.w)]) (.int 2)) _ _ _
  rw [at2, it_tup]
  dsimp only [wipeE, List.set]
  have step := compN_inv (test := evT (cfg G (k + 26)) .nil) (elt := evE (cfg G (k + 26)) (.tup .nil)) (t := .one 4) (s := [some (fltW top s rs), none, none, none, none, none]) (J := .seq (rs.map Row.w)) (ws := rs.map Row.w)
    (P := fun i acc h2 => h2 = h1 ∧ acc = fndW (List.replicate i [])) (E := fun _ _ => False) (fun i acc h2 hp => rfl) (fun i acc h2 w hp hi => ?_) ((It.seq (rs.map Row.w)).fuel) 0 [] h1 (by dsimp only [It.fuel]; omega) (Nat.zero_le _) ⟨rfl, rfl⟩
  · refine wp_mono step (fun acc h4 hx => ?_) fun _ _ z => z.elim
    obtain ⟨e1, e2⟩ := hx
    subst e1 e2
    rw [hlen]
    have e0 : (h4 ++ [O.lst (fndW (List.replicate rs.length []))])[h4.length]? = some (.lst (fndW (List.replicate rs.length []))) := new_list
    have kp1 : Kp h (h4 ++ [O.lst (fndW (List.replicate rs.length []))]) := kp0.more
    have hh4 : h.length ≤ h4.length := kp0.1
    generalize h4 ++ [O.lst (fndW (List.replicate rs.length []))] = h5 at e0 kp1 ⊢
    generalize h4.length = l at e0 hh4 ⊢
    have W0 : WI rs s (List.replicate rs.length []) := ⟨List.length_replicate, fun j ks e => by
      have hj := (List.getElem?_eq_some_iff.mp e).1
      rw [List.length_replicate] at hj
      rw [List.getElem?_replicate, if_pos hj] at e
      cases e
      exact ⟨.nil, fun v hv => nomatch hv⟩⟩
    rw [wp_rd (a := [some (fltW top s rs), some (.loc l), none, none, none, none]) rfl, onN_nx, ss_cons, s_asg, w_bl, wp_rd (a := WaE top s rs l true none none none) rfl, onN_nx, ss_cons, s_while]
    refine whileN_inv (P := fun c s' h6 => ∃ F b c3 c5, s' = WaE top s rs l b c3 none c5 ∧ h6[l]? = some (.lst (fndW F)) ∧ Kp h h6 ∧ WI rs s F ∧ (b = false → ∀ j, j < rs.length → Fix rs F j) ∧ c = if b = true then rs.length * s - tot F + 1 else 0) (fun c s' h6 hq => ?_) WF _ _ h5 ?_ ⟨List.replicate rs.length [], true, none, none, rfl, e0, kp1, W0, fun z => (by cases z), rfl⟩
    · obtain ⟨F, b, c3, c5, es, ef, kp, W, fx, ec⟩ := hq
      subst es
      rw [wp_bnd, v2, t_bl]
      cases b with
      | false =>
        rw [if_neg (by decide), onN_nx, ss_cons, s_ret, w_bi, ws_cons, v1, ws_nil, bi_tupL (lstAt_of ef), wp_outL, onN_rt]
        exact q _ F kp W (fx rfl)
      | true =>
        rw [if_pos rfl] at ec
        rw [if_pos rfl, ss_cons, s_asg, w_bl, wp_rd (a := WaE top s rs l false c3 none c5) rfl, onN_nx, ss_cons, s_for, wi_rev, w_bi, ws_cons, v1, ws_nil, bi_lenL (lstAt_of ef), wp_outL]
        have hFl : (fndW F).length = rs.length := by unfold fndW; rw [List.length_map]; exact W.n
        have er : revH (.int ((fndW F).length : Nat)) = some (.seq (rngL 0 rs.length).reverse) := by
          rw [hFl]
          unfold revH
          dsimp only
          have : smallR ((rs.length : Nat) : Int) = true := by unfold smallR; rw [Bool.and_eq_true, decide_eq_true_eq, decide_eq_true_eq]; omega
          rw [if_pos this, Int.toNat_natCast]
        rw [er, wp_ofO]
        have hrl : ((rngL 0 rs.length).reverse).length = rs.length := by rw [List.length_reverse, rng_len]
        refine forN_inv (ws := (rngL 0 rs.length).reverse) (P := fun i s' h7 => ∃ F' b' c3 c5, s' = WaE top s rs l b' c3 none c5 ∧ h7[l]? = some (.lst (fndW F')) ∧ Kp h h7 ∧ WI rs s F' ∧ tot F ≤ tot F' ∧ (b' = true → tot F < tot F') ∧ (b' = false → F' = F ∧ ∀ j, rs.length - i ≤ j → j < rs.length → Fix rs F j))
          (fun i s' h7 hq => rfl) (fun i s' h7 w hq hi => ?_) (fun s' h7 hq => ?_) _ 0 _ _ (by dsimp only [It.fuel]; omega) (Nat.zero_le _) ⟨F, false, c3, c5, rfl, ef, kp, W, Nat.le_refl _, fun z => (by cases z), fun _ => ⟨rfl, fun j h1 h2 => by omega⟩⟩
        · obtain ⟨F', b', c3, c5, es, ef7, kp7, W', t1, t2, t3⟩ := hq
          subst es
          obtain ⟨hi', ew⟩ := rev_at hi
          subst ew
          have hj : rs.length - 1 - i < rs.length := by omega
          generalize ej : rs.length - 1 - i = j at hj
          obtain ⟨r, er'⟩ : ∃ r, rs[j]? = some r := ⟨_, List.getElem?_eq_getElem hj⟩
          obtain ⟨ks, ek⟩ : ∃ ks, F'[j]? = some ks := ⟨_, List.getElem?_eq_getElem (by rw [W'.n]; exact hj)⟩
          refine ⟨WaE top s rs l b' (some (.int (j : Nat))) none c5, rfl, ?_⟩
          rw [ss_cons, s_asg, w_call, ws_cons, w_idx, w_idx, v0, w_int]
          show wp (rdO fun h => idxH h (.tup [.int top, .int (s : Nat), .tup (rs.map Row.w)]) (.int 2)) _ _ _
          rw [at2, v3, at_tup (atI_nat (by rw [List.getElem?_map, er']; rfl)), ws_cons, w_call, ws_cons, v0, ws_cons, v3, ws_cons, v1, ws_nil, cfg_cf]
          refine w_wanted_behind (k := k + 24) (F := F') er' ef7 (fun j' ks' e' => ?_) (fun g hg => by rw [W'.n]; exact FL.lt er' g hg) fun h8 l8 ws kp8 e8 hl8 hw8 mw => ?_
          · obtain ⟨o1, o2⟩ := W'.o j' ks' e'
            have := sl_len o1 fun v hv => (o2 v hv).1
            omega
          have ltw : ∀ v ∈ ws, v < s := fun v hv => by
            obtain ⟨g, _, kg, eg, hg⟩ := (mw v).mp hv
            exact ((W'.o g kg eg).2 v hg).1
          rw [ws_nil, cfg_cf]
          refine w_wanted_ahead (k := k + 1) FL.d hs.2 (FL.r j r er') e8 ltw (by omega) fun h9 zs kp9 z1 z2 z3 => ?_
          have mz : ∀ v, v ∈ zs ↔ Stp rs F' j v := fun v => by
            rw [z2]
            constructor
            · rintro (⟨a, b⟩ | a)
              · exact ⟨r, er', .inr ⟨b, (mw v).mp a⟩⟩
              · exact ⟨r, er', .inl a⟩
            · rintro ⟨r', e', z⟩
              rw [er'] at e'
              cases e'
              rcases z with z | ⟨z1, z2⟩
              · exact .inr z
              · exact .inl ⟨(mw v).mpr z2, z1⟩
          have kp10 := kp7.trans (kp8.trans kp9)
          have ef9 : h9[l]? = some (.lst (fndW F')) := by
            have l7 := lt_of ef7
            rw [kp9.2 l (Nat.lt_of_lt_of_le l7 kp8.1), kp8.2 l l7]
            exact ef7
          have WS := W'.set ek z1 mz z3
          have hset : (fndW F').set j (.tup (natsW zs)) = fndW (F'.set j zs) := by unfold fndW; rw [List.map_set]
          have hjl : j < (fndW F').length := by unfold fndW; rw [List.length_map, W'.n]; exact hj
          have tge : tot F' ≤ tot (F'.set j zs) := by
            by_cases c : zs = ks
            · have := tot_set (ks' := zs) ek
              rw [c] at this ⊢
              omega
            · exact Nat.le_of_lt (W'.grow ek z1 mz c)
          have ef10 : (h9.set l (.lst (fndW (F'.set j zs))))[l]? = some (.lst (fndW (F'.set j zs))) := List.getElem?_set_self (lt_of ef9)
          rw [wp_rd (a := WaE top s rs l b' (some (.int (j : Nat))) none (some (.tup (natsW zs)))) rfl, onN_nx, ss_cons, s_asg, w_or, v2, t_bl]
          cases b' with
          | true =>
            rw [if_pos rfl, wp_rd (a := WaE top s rs l true (some (.int (j : Nat))) none (some (.tup (natsW zs)))) rfl, onN_nx, ss_cons, s_asgI, v5, v1, v3]
            dsimp only
            rw [set_lst ef9 hjl, hset, onN_nx, ss_nil]
            exact ⟨F'.set j zs, true, _, _, rfl, ef10, kp10.put hh4, WS, by omega, fun _ => by have := t2 rfl; omega, fun z => (by cases z)⟩
          | false =>
            obtain ⟨eF, fx'⟩ := t3 rfl
            subst eF
            rw [if_neg (by decide), w_cmp, v5, w_idx, v1, v3, at_lst (lstAt_of ef9) (atI_nat (fnd_at ek)), ne_nats]
            by_cases c : zs = ks
            · subst c
              have eself : F'.set j zs = F' := by
                apply List.ext_getElem?
                intro i'
                by_cases c2 : j = i'
                · subst c2
                  rw [List.getElem?_set_self (by rw [W'.n]; exact hj), ek]
                · rw [List.getElem?_set_ne c2]
              rw [eself] at ef10 WS
              rw [decide_eq_true rfl, wp_rd (a := WaE top s rs l false (some (.int (j : Nat))) none (some (.tup (natsW zs)))) rfl, onN_nx, ss_cons, s_asgI, v5, v1, v3]
              dsimp only
              rw [set_lst ef9 hjl, hset, onN_nx, ss_nil, eself]
              refine ⟨F', false, _, _, rfl, ef10, kp10.put hh4, WS, Nat.le_refl _, fun z => (by cases z), fun _ => ⟨rfl, fun j' h1 h2 => ?_⟩⟩
              by_cases c3 : j' = j
              · subst c3
                intro ks' e' v hv
                rw [ek] at e'
                cases e'
                exact (mz v).mpr hv
              · exact fx' j' (by omega) h2
            · rw [decide_eq_false c, wp_rd (a := WaE top s rs l true (some (.int (j : Nat))) none (some (.tup (natsW zs)))) rfl, onN_nx, ss_cons, s_asgI, v5, v1, v3]
              dsimp only
              rw [set_lst ef9 hjl, hset, onN_nx, ss_nil]
              exact ⟨F'.set j zs, true, _, _, rfl, ef10, kp10.put hh4, WS, tge, fun _ => W'.grow ek z1 mz c, fun z => (by cases z)⟩
        · obtain ⟨F', b', c3, c5, es, ef7, kp7, W', t1, t2, t3⟩ := hq
          subst es
          rw [hrl] at t3
          rw [onN_nx, ss_nil]
          have hle := W'.tot_le
          cases b' with
          | true =>
            refine ⟨rs.length * s - tot F' + 1, ?_, F', true, _, _, rfl, ef7, kp7, W', fun z => (by cases z), rfl⟩
            have := t2 rfl
            omega
          | false =>
            obtain ⟨eF, fx'⟩ := t3 rfl
            subst eF
            exact ⟨0, by omega, F', false, _, _, rfl, ef7, kp7, W', fun _ j hj => fx' j (by omega) hj, rfl⟩
    · have h1 : rs.length * s ≤ 200 * 60 := Nat.mul_le_mul hn.2 hs.2
      rw [if_pos rfl]
      unfold WF
      omega
  · obtain ⟨e1, e2⟩ := hp
    subst e1 e2
    obtain ⟨r, er, ew⟩ := map_at hi
    subst ew
    have hil := (List.getElem?_eq_some_iff.mp er).1
    refine ⟨by unfold fndW; rw [List.length_map, List.length_replicate]; unfold LN; omega, [some (fltW top s rs), none, none, none, some r.w, none], rfl, ?_⟩
    rw [wt_nil, if_pos rfl, w_tup, ws_nil, if_pos (by unfold LN; simp), wp_ret]
    refine ⟨rfl, ?_⟩
    rw [List.replicate_succ']
    unfold fndW
    rw [List.map_append]
    rfl
end
end K
/-! N4: what rows ask, write and lead to, by the law. -/
namespace K
open MI HK
section
variable {k n d : Nat} {h : AH} {Q : W → AH → Prop} {E : Nm → AH → Prop} {top : Int} {t : T} {rs ms : List Row} {s p x j : Nat}
theorem nin_l {Q : Bool → AH → Prop} {v l : Nat} {cs : List Nat} (e : h[l]? = some (.lst (natsW cs))) : wp (rdO fun h => cmpH h .nin (.int (v : Nat)) (.loc l)) Q E h = Q (!decide (v ∈ cs)) h := by
  rw [c_ninL (x := .int (v : Nat)) (lstAt_of e) grs_nats rfl (.inr (Nat.zero_le 60)), inL_nats]
theorem in_l {Q : Bool → AH → Prop} {v l : Nat} {cs : List Nat} (e : h[l]? = some (.lst (natsW cs))) : wp (rdO fun h => cmpH h .in_ (.int (v : Nat)) (.loc l)) Q E h = Q (decide (v ∈ cs)) h := by
  have : wp (rdO fun h => cmpH h .in_ (.int (v : Nat)) (.loc l)) Q E h = Q (inL (.int (v : Nat)) (natsW cs)) h := wp_rd (by
    show inH h (.int (v : Nat)) (.loc l) = _
    exact inH_lst (lstAt_of e) grs_nats rfl (.inr (Nat.zero_le 60)))
  rw [this, inL_nats]
theorem c_ninDct {Q : Bool → AH → Prop} {l : Nat} {kvs : List (W × W)} {x : W} (e : h[l]? = some (.dct kvs)) (hk : isKey x = true) : wp (rdO fun h => cmpH h .nin x (.loc l)) Q E h = Q (!(dget kvs x).isSome) h := wp_rd (by
  show (inH h x (.loc l)).map (!·) = _
  unfold inH dctAt
  cases x <;> first | (cases hk; done) | (dsimp only; rw [e]; dsimp only; rw [if_pos hk]; rfl))
theorem w_lcellsU (r : Tk top n d t) : d ≤ 5 → ∀ {k : Nat} {h : AH} {Q : W → AH → Prop} {E : Nm → AH → Prop}, (∀ h' p (ks : List Nat), Kp h h' → h'[p]? = some (.lst (natsW ks)) → h.length ≤ p → (∀ v, v ∈ ks ↔ v ∈ t.cs) → ks.length ≤ 2 ^ d → Q (.loc p) h') → wp (callF G (k + d + 1) "_law_cells" [t.w]) Q E h := by
  induction r with
  | @num d i h1 h2 =>
    intro _ k h Q E q
    rw [w_def df_law_cells rfl]
    show wp (evSs _ ir_law_cells [some (.tup [.str sNum, .int i]), none, none]) _ _ h
    unfold ir_law_cells
    rw [ss_cons, s_if, w_cmp, w_idx, v0, w_int, at0, w_str, c_eqS, t_bl, if_pos (by decide), ss_cons, s_ret, w_lst, ws_nil, if_pos (by unfold LN; simp), wp_alloc, onN_rt, onN_rt]
    exact q _ _ [] .app new_list (Nat.le_refl _) (fun v => Iff.rfl) (Nat.zero_le _)
  | @at_ d s h1 =>
    intro _ k h Q E q
    rw [w_def df_law_cells rfl]
    show wp (evSs _ ir_law_cells [some (.tup [.str sAt, .int (s : Nat)]), none, none]) _ _ h
    unfold ir_law_cells
    rw [ss_cons, s_if, w_cmp, w_idx, v0, w_int, at0, w_str, c_eqS, t_bl, if_neg (by decide), ss_nil, onN_nx, ss_cons, s_if, w_cmp, w_idx, v0, w_int, at0, w_str, c_eqS, t_bl, if_pos (by decide), ss_cons, s_ret, w_lst, ws_cons, w_idx, v0, w_int, at1, ws_nil, if_pos (by unfold LN; simp), wp_alloc, onN_rt, onN_rt]
    exact q _ _ [s] .app new_list (Nat.le_refl _) (fun v => Iff.rfl) (Nat.one_le_two_pow)
  | @op d s a b hs r1 r2 ih1 ih2 =>
    intro hd k h Q E q
    obtain ⟨n1, n2⟩ := ne_word hs
    have l3 : 2 ^ d ≤ 2 ^ 5 := Nat.pow_le_pow_right (by omega) (by omega)
    rw [show k + (d + 1) + 1 = (k + d + 1) + 1 from by omega, w_def df_law_cells rfl]
    show wp (evSs _ ir_law_cells [some (.tup [.str s, a.w, b.w]), none, none]) _ _ h
    unfold ir_law_cells
    rw [ss_cons, s_if, w_cmp, w_idx, v0, w_int, at0, w_str, c_eqS, t_bl, n1, if_neg (by decide), ss_nil, onN_nx, ss_cons, s_if, w_cmp, w_idx, v0, w_int, at0, w_str, c_eqS, t_bl, n2, if_neg (by decide), ss_nil, onN_nx, ss_cons, s_asg, w_call, ws_cons, w_idx, v0, w_int, at1, ws_nil, cfg_cf]
    refine ih1 (by omega) fun h1 p1 ks1 kp1 e1 hp1 m1 l1 => ?_
    rw [wp_rd (a := [some (.tup [.str s, a.w, b.w]), some (.loc p1), none]) rfl, onN_nx, ss_cons, s_ret, w_bin, v1, w_comp, wi_val, w_call, ws_cons, w_idx, v0, w_int, at2, ws_nil, cfg_cf]
    refine ih2 (by omega) fun h2 p2 ks2 kp2 e2 hp2 m2 l2 => ?_
    have e12 := (kp2.2 p1 (lt_of e1)).trans e1
    rw [it_lst e2]
    dsimp only [wipeE, List.set]
    have step := compN_inv (test := evT (cfg G (k + d + 1)) (.cons (.cmp .nin (.var 2) (.var 1)) .nil)) (elt := evE (cfg G (k + d + 1)) (.var 2)) (t := .one 2) (s := [some (.tup [.str s, a.w, b.w]), some (.loc p1), none]) (J := .lst p2) (ws := natsW ks2)
      (P := fun i acc h3 => h3 = h2 ∧ acc = natsW ((ks2.take i).filter fun v => !decide (v ∈ ks1))) (E := fun _ _ => False) (fun i acc h3 hp => by rw [hp.1]; exact item_lst e2) (fun i acc h3 w hp hi => ?_) ((It.lst p2).fuel) 0 [] h2 (by show (natsW ks2).length + 1 ≤ LN + 1 + 0; rw [natsW_len]; unfold LN; omega) (Nat.zero_le _) ⟨rfl, rfl⟩
    · refine wp_mono step (fun acc h4 hx => ?_) fun _ _ z => z.elim
      obtain ⟨e3, e4⟩ := hx
      subst e3 e4
      rw [natsW_len, List.take_length]
      have lf := List.length_filter_le (fun v => !decide (v ∈ ks1)) ks2
      rw [b_lst (app_get e12) new_list (by rw [natsW_len, natsW_len]; omega), wp_outR, onN_rt]
      have ec : natsW ks1 ++ natsW (ks2.filter fun v => !decide (v ∈ ks1)) = natsW (ks1 ++ ks2.filter fun v => !decide (v ∈ ks1)) := by unfold natsW; rw [List.map_append]
      rw [ec]
      have kp3 := kp1.trans kp2
      refine q _ _ _ kp3.more.more new_list (by rw [List.length_append]; have := kp3.1; omega) (fun v => ?_) ?_
      · show _ ↔ v ∈ a.cs ++ b.cs
        rw [List.mem_append, List.mem_append, List.mem_filter]
        constructor
        · rintro (z | ⟨z, _⟩)
          · exact .inl ((m1 v).mp z)
          · exact .inr ((m2 v).mp z)
        · rintro (z | z)
          · exact .inl ((m1 v).mpr z)
          · by_cases c : v ∈ ks1
            · exact .inl c
            · exact .inr ⟨(m2 v).mpr z, by rw [decide_eq_false c]; rfl⟩
      · rw [List.length_append, Nat.pow_succ]
        omega
    · obtain ⟨e3, e4⟩ := hp
      subst e3 e4
      obtain ⟨v, ev, ew⟩ := natsW_at hi
      subst ew
      refine ⟨by rw [natsW_len]; have := List.length_filter_le (fun v => !decide (v ∈ ks1)) (ks2.take i); rw [List.length_take] at this; unfold LN; omega, [some (.tup [.str s, a.w, b.w]), some (.loc p1), some (.int (v : Nat))], rfl, ?_⟩
      rw [wt_cons, w_cmp, v2, v1, nin_l e12, t_bl, take_at ev, List.filter_append]
      by_cases c : v ∈ ks1
      · rw [decide_eq_true c, if_neg (by decide)]
        refine ⟨rfl, ?_⟩
        have : [v].filter (fun v => !decide (v ∈ ks1)) = [] := by rw [List.filter_cons_of_neg (by rw [decide_eq_true c]; decide)]; rfl
        rw [this, List.append_nil]
      · rw [decide_eq_false c, if_pos (by decide), v2]
        refine ⟨rfl, ?_⟩
        have : [v].filter (fun v => !decide (v ∈ ks1)) = [v] := by rw [List.filter_cons_of_pos (by rw [decide_eq_false c]; rfl)]; rfl
        rw [this]
        unfold natsW
        rw [List.map_append]
        rfl
theorem w_law_asked {r : Row} {m : Nat} (R : RowF top s 2 m j r) (q : ∀ h' p (ks : List Nat), Kp h h' → h'[p]? = some (.lst (natsW ks)) → (∀ v, v ∈ ks ↔ v ∈ asks r) → Q (.loc p) h') : wp (callF G (k + 4) "_law_asked" [r.w]) Q E h := by
  have cells : ∀ {t : T} {Q' : W → AH → Prop} {E' : Nm → AH → Prop}, Tk top s 2 t → (∀ h' p (ks : List Nat), Kp h h' → h'[p]? = some (.lst (natsW ks)) → (∀ v, v ∈ ks ↔ v ∈ t.cs) → Q' (.loc p) h') → wp (callF G (k + 3) "_law_cells" [t.w]) Q' E' h := by
    intro t Q' E' r q'
    rw [show k + 3 = k + 2 + 1 from rfl]
    exact w_lcellsU r (by omega) fun h' p ks kp e _ m _ => q' h' p ks kp e m
  rw [w_def df_law_asked rfl]
  show wp (evSs _ ir_law_asked [some r.w]) _ _ h
  unfold ir_law_asked
  rw [ss_cons, s_if, w_cmp, w_idx, v0, w_int]
  cases r with
  | set c t =>
    show wp (rdO fun h => idxH h (.tup [.str sSet, .int (c : Nat), t.w]) (.int 0)) _ _ _
    rw [at0, w_str, c_eqS, t_bl, if_pos (by decide), ss_cons, s_ret, w_call, ws_cons, w_idx, v0, w_int]
    show wp (rdO fun h => idxH h (.tup [.str sSet, .int (c : Nat), t.w]) (.int 2)) _ _ _
    rw [at2, ws_nil, cfg_cf]
    refine cells (R.c c t rfl).2 fun h' p ks kp e m => ?_
    rw [onN_rt, onN_rt]
    exact q h' p ks kp e m
  | ask c =>
    show wp (rdO fun h => idxH h (.tup [.str sAsk, .int (c : Nat)]) (.int 0)) _ _ _
    rw [at0, w_str, c_eqS, t_bl, if_neg (by decide), ss_nil, onN_nx, ss_cons, s_ret, w_ite, w_cmp, w_idx, v0, w_int]
    show wp (rdO fun h => idxH h (.tup [.str sAsk, .int (c : Nat)]) (.int 0)) _ _ _
    rw [at0, w_tup, ws_cons, w_str, ws_cons, w_str, ws_nil, if_pos (by unfold LN; simp), wp_ret, c_inT (x := .str sAsk) (ws := [.str sTell, .str sIf]) rfl rfl (.inr (Nat.zero_le 60)), t_bl, if_neg (show ¬ inL (.str sAsk) [.str sTell, .str sIf] = true from by decide), w_lst, ws_nil, if_pos (by unfold LN; simp), wp_alloc, onN_rt]
    exact q _ _ [] .app new_list (fun v => Iff.rfl)
  | tell t =>
    show wp (rdO fun h => idxH h (.tup [.str sTell, t.w]) (.int 0)) _ _ _
    rw [at0, w_str, c_eqS, t_bl, if_neg (by decide), ss_nil, onN_nx, ss_cons, s_ret, w_ite, w_cmp, w_idx, v0, w_int]
    show wp (rdO fun h => idxH h (.tup [.str sTell, t.w]) (.int 0)) _ _ _
    rw [at0, w_tup, ws_cons, w_str, ws_cons, w_str, ws_nil, if_pos (by unfold LN; simp), wp_ret, c_inT (x := .str sTell) (ws := [.str sTell, .str sIf]) rfl rfl (.inr (Nat.zero_le 60)), t_bl, if_pos (show inL (.str sTell) [.str sTell, .str sIf] = true from rfl), w_call, ws_cons, w_idx, v0, w_int]
    show wp (rdO fun h => idxH h (.tup [.str sTell, t.w]) (.int 1)) _ _ _
    rw [at1, ws_nil, cfg_cf]
    refine cells (R.t t rfl) fun h' p ks kp e m => ?_
    rw [onN_rt]
    exact q h' p ks kp e m
  | go g =>
    show wp (rdO fun h => idxH h (.tup [.str sGo, .int (g : Nat)]) (.int 0)) _ _ _
    rw [at0, w_str, c_eqS, t_bl, if_neg (by decide), ss_nil, onN_nx, ss_cons, s_ret, w_ite, w_cmp, w_idx, v0, w_int]
    show wp (rdO fun h => idxH h (.tup [.str sGo, .int (g : Nat)]) (.int 0)) _ _ _
    rw [at0, w_tup, ws_cons, w_str, ws_cons, w_str, ws_nil, if_pos (by unfold LN; simp), wp_ret, c_inT (x := .str sGo) (ws := [.str sTell, .str sIf]) rfl rfl (.inr (Nat.zero_le 60)), t_bl, if_neg (show ¬ inL (.str sGo) [.str sTell, .str sIf] = true from by decide), w_lst, ws_nil, if_pos (by unfold LN; simp), wp_alloc, onN_rt]
    exact q _ _ [] .app new_list (fun v => Iff.rfl)
  | stop =>
    show wp (rdO fun h => idxH h (.tup [.str sEnd]) (.int 0)) _ _ _
    rw [at0, w_str, c_eqS, t_bl, if_neg (by decide), ss_nil, onN_nx, ss_cons, s_ret, w_ite, w_cmp, w_idx, v0, w_int]
    show wp (rdO fun h => idxH h (.tup [.str sEnd]) (.int 0)) _ _ _
    rw [at0, w_tup, ws_cons, w_str, ws_cons, w_str, ws_nil, if_pos (by unfold LN; simp), wp_ret, c_inT (x := .str sEnd) (ws := [.str sTell, .str sIf]) rfl rfl (.inr (Nat.zero_le 60)), t_bl, if_neg (show ¬ inL (.str sEnd) [.str sTell, .str sIf] = true from by decide), w_lst, ws_nil, if_pos (by unfold LN; simp), wp_alloc, onN_rt]
    exact q _ _ [] .app new_list (fun v => Iff.rfl)
  | if_ t g =>
    show wp (rdO fun h => idxH h (.tup [.str sIf, t.w, .int (g : Nat)]) (.int 0)) _ _ _
    rw [at0, w_str, c_eqS, t_bl, if_neg (by decide), ss_nil, onN_nx, ss_cons, s_ret, w_ite, w_cmp, w_idx, v0, w_int]
    show wp (rdO fun h => idxH h (.tup [.str sIf, t.w, .int (g : Nat)]) (.int 0)) _ _ _
    rw [at0, w_tup, ws_cons, w_str, ws_cons, w_str, ws_nil, if_pos (by unfold LN; simp), wp_ret, c_inT (x := .str sIf) (ws := [.str sTell, .str sIf]) rfl rfl (.inr (Nat.zero_le 60)), t_bl, if_pos (show inL (.str sIf) [.str sTell, .str sIf] = true from rfl), w_call, ws_cons, w_idx, v0, w_int]
    show wp (rdO fun h => idxH h (.tup [.str sIf, t.w, .int (g : Nat)]) (.int 1)) _ _ _
    rw [at1, ws_nil, cfg_cf]
    refine cells (R.f t g rfl) fun h' p ks kp e m => ?_
    rw [onN_rt]
    exact q h' p ks kp e m
theorem w_law_goals {r : Row} {i : Nat} : wp (callF G (k + 1) "_law_goals" [r.w, .int (i : Nat)]) Q E h = Q (.loc h.length) (h ++ [.lst (natsW (r.ways i))]) := by
  rw [w_def df_law_goals rfl]
  show wp (evSs _ ir_law_goals [some r.w, some (.int (i : Nat))]) _ _ h = _
  unfold ir_law_goals
  rw [ss_cons, s_if, w_cmp, w_idx, v0, w_int]
  cases r with
  | set c t =>
    show wp (rdO fun h => idxH h (.tup [.str sSet, .int (c : Nat), t.w]) (.int 0)) _ _ _ = _
    rw [at0, w_str, c_eqS, t_bl, if_neg (by decide), ss_nil, onN_nx, ss_cons, s_if, w_cmp, w_idx, v0, w_int]
    show wp (rdO fun h => idxH h (.tup [.str sSet, .int (c : Nat), t.w]) (.int 0)) _ _ _ = _
    rw [at0, w_str, c_eqS, t_bl, if_neg (by decide), ss_nil, onN_nx, ss_cons, s_ret, w_ite, w_cmp, w_idx, v0, w_int]
    show wp (rdO fun h => idxH h (.tup [.str sSet, .int (c : Nat), t.w]) (.int 0)) _ _ _ = _
    rw [at0, w_str, c_eqS, t_bl, if_neg (by decide), w_lst, ws_cons, w_bin, v1, w_int, b_add, wp_outL, ws_nil, if_pos (by unfold LN; simp), wp_alloc, onN_rt]
    rfl
  | ask c =>
    show wp (rdO fun h => idxH h (.tup [.str sAsk, .int (c : Nat)]) (.int 0)) _ _ _ = _
    rw [at0, w_str, c_eqS, t_bl, if_neg (by decide), ss_nil, onN_nx, ss_cons, s_if, w_cmp, w_idx, v0, w_int]
    show wp (rdO fun h => idxH h (.tup [.str sAsk, .int (c : Nat)]) (.int 0)) _ _ _ = _
    rw [at0, w_str, c_eqS, t_bl, if_neg (by decide), ss_nil, onN_nx, ss_cons, s_ret, w_ite, w_cmp, w_idx, v0, w_int]
    show wp (rdO fun h => idxH h (.tup [.str sAsk, .int (c : Nat)]) (.int 0)) _ _ _ = _
    rw [at0, w_str, c_eqS, t_bl, if_neg (by decide), w_lst, ws_cons, w_bin, v1, w_int, b_add, wp_outL, ws_nil, if_pos (by unfold LN; simp), wp_alloc, onN_rt]
    rfl
  | tell t =>
    show wp (rdO fun h => idxH h (.tup [.str sTell, t.w]) (.int 0)) _ _ _ = _
    rw [at0, w_str, c_eqS, t_bl, if_neg (by decide), ss_nil, onN_nx, ss_cons, s_if, w_cmp, w_idx, v0, w_int]
    show wp (rdO fun h => idxH h (.tup [.str sTell, t.w]) (.int 0)) _ _ _ = _
    rw [at0, w_str, c_eqS, t_bl, if_neg (by decide), ss_nil, onN_nx, ss_cons, s_ret, w_ite, w_cmp, w_idx, v0, w_int]
    show wp (rdO fun h => idxH h (.tup [.str sTell, t.w]) (.int 0)) _ _ _ = _
    rw [at0, w_str, c_eqS, t_bl, if_neg (by decide), w_lst, ws_cons, w_bin, v1, w_int, b_add, wp_outL, ws_nil, if_pos (by unfold LN; simp), wp_alloc, onN_rt]
    rfl
  | go g =>
    show wp (rdO fun h => idxH h (.tup [.str sGo, .int (g : Nat)]) (.int 0)) _ _ _ = _
    rw [at0, w_str, c_eqS, t_bl, if_neg (by decide), ss_nil, onN_nx, ss_cons, s_if, w_cmp, w_idx, v0, w_int]
    show wp (rdO fun h => idxH h (.tup [.str sGo, .int (g : Nat)]) (.int 0)) _ _ _ = _
    rw [at0, w_str, c_eqS, t_bl, if_pos (by decide), ss_cons, s_ret, w_lst, ws_cons, w_idx, v0, w_int]
    show wp (rdO fun h => idxH h (.tup [.str sGo, .int (g : Nat)]) (.int 1)) _ _ _ = _
    rw [at1, ws_nil, if_pos (by unfold LN; simp), wp_alloc, onN_rt, onN_rt]
    rfl
  | stop =>
    show wp (rdO fun h => idxH h (.tup [.str sEnd]) (.int 0)) _ _ _ = _
    rw [at0, w_str, c_eqS, t_bl, if_pos (by decide), ss_cons, s_ret, w_lst, ws_nil, if_pos (by unfold LN; simp), wp_alloc, onN_rt, onN_rt]
    rfl
  | if_ t g =>
    show wp (rdO fun h => idxH h (.tup [.str sIf, t.w, .int (g : Nat)]) (.int 0)) _ _ _ = _
    rw [at0, w_str, c_eqS, t_bl, if_neg (by decide), ss_nil, onN_nx, ss_cons, s_if, w_cmp, w_idx, v0, w_int]
    show wp (rdO fun h => idxH h (.tup [.str sIf, t.w, .int (g : Nat)]) (.int 0)) _ _ _ = _
    rw [at0, w_str, c_eqS, t_bl, if_neg (by decide), ss_nil, onN_nx, ss_cons, s_ret, w_ite, w_cmp, w_idx, v0, w_int]
    show wp (rdO fun h => idxH h (.tup [.str sIf, t.w, .int (g : Nat)]) (.int 0)) _ _ _ = _
    rw [at0, w_str, c_eqS, t_bl, if_pos (by decide), w_lst, ws_cons, w_idx, v0, w_int]
    show wp (rdO fun h => idxH h (.tup [.str sIf, t.w, .int (g : Nat)]) (.int 2)) _ _ _ = _
    rw [at2, ws_cons, w_bin, v1, w_int, b_add, wp_outL, ws_nil, if_pos (by unfold LN; simp), wp_alloc, onN_rt]
    rfl
theorem w_law_writes {r : Row} {v : Nat} : wp (callF G (k + 1) "_law_writes" [r.w, .int (v : Nat)]) Q E h = Q (.bl (decide (wrt r = some v))) h := by
  have eq1 : ∀ c : Nat, (((c : Nat) : Int) == ((v : Nat) : Int)) = decide (some c = some v) := fun c => by
    rw [nat_eq]
    exact decide_eq_decide.mpr ⟨fun z => by rw [z], fun z => Option.some.inj z⟩
  rw [w_def df_law_writes rfl]
  show wp (evSs _ ir_law_writes [some r.w, some (.int (v : Nat))]) _ _ h = _
  unfold ir_law_writes
  rw [ss_cons, s_ret, w_and, w_cmp, w_idx, v0, w_int]
  cases r with
  | set c t =>
    show wp (rdO fun h => idxH h (.tup [.str sSet, .int (c : Nat), t.w]) (.int 0)) _ _ _ = _
    rw [at0, w_tup, ws_cons, w_str, ws_cons, w_str, ws_nil, if_pos (by unfold LN; simp), wp_ret, c_inT (x := .str sSet) (ws := [.str sSet, .str sAsk]) rfl rfl (.inr (Nat.zero_le 60)), t_bl, if_pos (show inL (.str sSet) [.str sSet, .str sAsk] = true from rfl), w_cmp, w_idx, v0, w_int]
    show wp (rdO fun h => idxH h (.tup [.str sSet, .int (c : Nat), t.w]) (.int 1)) _ _ _ = _
    rw [at1, v1, c_eqI, onN_rt, eq1]
    rfl
  | ask c =>
    show wp (rdO fun h => idxH h (.tup [.str sAsk, .int (c : Nat)]) (.int 0)) _ _ _ = _
    rw [at0, w_tup, ws_cons, w_str, ws_cons, w_str, ws_nil, if_pos (by unfold LN; simp), wp_ret, c_inT (x := .str sAsk) (ws := [.str sSet, .str sAsk]) rfl rfl (.inr (Nat.zero_le 60)), t_bl, if_pos (show inL (.str sAsk) [.str sSet, .str sAsk] = true from rfl), w_cmp, w_idx, v0, w_int]
    show wp (rdO fun h => idxH h (.tup [.str sAsk, .int (c : Nat)]) (.int 1)) _ _ _ = _
    rw [at1, v1, c_eqI, onN_rt, eq1]
    rfl
  | tell t =>
    show wp (rdO fun h => idxH h (.tup [.str sTell, t.w]) (.int 0)) _ _ _ = _
    rw [at0, w_tup, ws_cons, w_str, ws_cons, w_str, ws_nil, if_pos (by unfold LN; simp), wp_ret, c_inT (x := .str sTell) (ws := [.str sSet, .str sAsk]) rfl rfl (.inr (Nat.zero_le 60)), t_bl, if_neg (show ¬ inL (.str sTell) [.str sSet, .str sAsk] = true from by decide), onN_rt]
    rfl
  | go g =>
    show wp (rdO fun h => idxH h (.tup [.str sGo, .int (g : Nat)]) (.int 0)) _ _ _ = _
    rw [at0, w_tup, ws_cons, w_str, ws_cons, w_str, ws_nil, if_pos (by unfold LN; simp), wp_ret, c_inT (x := .str sGo) (ws := [.str sSet, .str sAsk]) rfl rfl (.inr (Nat.zero_le 60)), t_bl, if_neg (show ¬ inL (.str sGo) [.str sSet, .str sAsk] = true from by decide), onN_rt]
    rfl
  | stop =>
    show wp (rdO fun h => idxH h (.tup [.str sEnd]) (.int 0)) _ _ _ = _
    rw [at0, w_tup, ws_cons, w_str, ws_cons, w_str, ws_nil, if_pos (by unfold LN; simp), wp_ret, c_inT (x := .str sEnd) (ws := [.str sSet, .str sAsk]) rfl rfl (.inr (Nat.zero_le 60)), t_bl, if_neg (show ¬ inL (.str sEnd) [.str sSet, .str sAsk] = true from by decide), onN_rt]
    rfl
  | if_ t g =>
    show wp (rdO fun h => idxH h (.tup [.str sIf, t.w, .int (g : Nat)]) (.int 0)) _ _ _ = _
    rw [at0, w_tup, ws_cons, w_str, ws_cons, w_str, ws_nil, if_pos (by unfold LN; simp), wp_ret, c_inT (x := .str sIf) (ws := [.str sSet, .str sAsk]) rfl rfl (.inr (Nat.zero_le 60)), t_bl, if_neg (show ¬ inL (.str sIf) [.str sSet, .str sAsk] = true from by decide), onN_rt]
    rfl
end
end K
/-! N5: what is wanted, by the law: lists of lists; who leads to a row. -/
namespace K
open MI HK
section
variable {k n d : Nat} {h : AH} {Q : W → AH → Prop} {E : Nm → AH → Prop} {top : Int} {t : T} {rs ms : List Row} {s p x j : Nat}
def locs (b n : Nat) : List W := (List.range n).map fun j => .loc (b + j)
theorem locs_at {b n g : Nat} (hg : g < n) : (locs b n)[g]? = some (.loc (b + g)) := by unfold locs; rw [List.getElem?_map, List.getElem?_range hg]; rfl
/-- a list of lists of numbers, laid side by side -/
structure LL (h : AH) (la b n : Nat) (G : Nat → List Nat) : Prop where
  a : h[la]? = some (.lst (locs b n))
  l : ∀ j, j < n → h[b + j]? = some (.lst (natsW (G j)))
  o : b + n ≤ la
theorem LL.kp {h' : AH} {la b n : Nat} {G : Nat → List Nat} (L : LL h la b n G) (kp : Kp h h') : LL h' la b n G := ⟨(kp.2 la (lt_of L.a)).trans L.a, fun j hj => (kp.2 _ (lt_of (L.l j hj))).trans (L.l j hj), L.o⟩
theorem LL.hi {la b n q : Nat} {G : Nat → List Nat} {o : O} (L : LL h la b n G) (hq : la < q) : LL (h.set q o) la b n G := ⟨by rw [List.getElem?_set_ne (by omega)]; exact L.a, fun j hj => by have := L.o; rw [List.getElem?_set_ne (by omega)]; exact L.l j hj, L.o⟩
theorem LL.put {la b n g : Nat} {G : Nat → List Nat} {ks : List Nat} (L : LL h la b n G) (hg : g < n) : LL (h.set (b + g) (.lst (natsW ks))) la b n fun j => if j = g then ks else G j := ⟨by have := L.o; rw [List.getElem?_set_ne (by omega)]; exact L.a, fun j hj => by
  by_cases c : j = g
  · subst c
    rw [if_pos rfl]
    exact List.getElem?_set_self (lt_of (L.l j hj))
  · rw [if_neg c, List.getElem?_set_ne (by omega)]
    exact L.l j hj, L.o⟩
/-- a list of lists that another one's change does not meet -/
theorem LL.off {la b n la2 b2 g : Nat} {G : Nat → List Nat} {o : O} (L : LL h la b n G) (hs : la < b2) : LL (h.set (b2 + g) o) la b n G := L.hi (by omega)
theorem LL.low {la b n la2 b2 g : Nat} {G : Nat → List Nat} {o : O} (L : LL h la b n G) (hs : la2 < b) (hg : b2 + g < la2) : LL (h.set (b2 + g) o) la b n G := ⟨by have := L.o; rw [List.getElem?_set_ne (by omega)]; exact L.a, fun j hj => by rw [List.getElem?_set_ne (by omega)]; exact L.l j hj, L.o⟩
abbrev LwE (top : Int) (s : Nat) (rs : List Row) (c2 c3 c4 c5 c6 c7 c8 c9 : Option W) : Env := [some (fltW top s rs), some (.tup (rs.map Row.w)), c2, c3, c4, c5, c6, c7, c8, c9]
theorem w_nils {c : Cfg} {c2 c3 c4 c5 c6 c7 c8 : Option W} (hn : rs.length ≤ 1000) (q : ∀ h' la b, Kp h h' → h.length ≤ b → LL h' la b rs.length (fun _ => []) → Q (.loc la) h') : wp (evE c (.comp (.lst .nil) (.one 9) (.val (.var 1)) .nil [9]) (LwE top s rs c2 c3 c4 c5 c6 c7 c8 none)) Q E h := by
  rw [w_comp, wi_val, v1, it_tup]
  dsimp only [wipeE, List.set]
  have hlen : (rs.map Row.w).length = rs.length := List.length_map _
  have step := compN_inv (test := evT c .nil) (elt := evE c (.lst .nil)) (t := .one 9) (s := LwE top s rs c2 c3 c4 c5 c6 c7 c8 none) (J := .seq (rs.map Row.w)) (ws := rs.map Row.w)
    (P := fun i acc h2 => Kp h h2 ∧ h2.length = h.length + i ∧ acc = locs h.length i ∧ ∀ j, j < i → h2[h.length + j]? = some (.lst (natsW []))) (E := fun _ _ => False) (fun i acc h2 hp => rfl) (fun i acc h2 w hp hi => ?_) ((It.seq (rs.map Row.w)).fuel) 0 [] h (by dsimp only [It.fuel]; omega) (Nat.zero_le _) ⟨.refl, rfl, rfl, fun j hj => by omega⟩
  · refine wp_mono step (fun acc h4 hx => ?_) fun _ _ z => z.elim
    obtain ⟨kp, hl, ea, hj⟩ := hx
    rw [hlen] at hl ea hj
    subst ea
    exact q _ _ h.length kp.more (Nat.le_refl _) ⟨new_list, fun j hj' => app_get (hj j hj'), by omega⟩
  · obtain ⟨kp, hl, ea, hj⟩ := hp
    subst ea
    have hil := (List.getElem?_eq_some_iff.mp hi).1
    rw [hlen] at hil
    refine ⟨by unfold locs; rw [List.length_map, List.length_range]; unfold LN; omega, LwE top s rs c2 c3 c4 c5 c6 c7 c8 (some w), rfl, ?_⟩
    rw [wt_nil, if_pos rfl, w_lst, ws_nil, if_pos (by unfold LN; simp), wp_alloc]
    refine ⟨kp.more, by rw [List.length_append, List.length_singleton, hl]; omega, ?_, fun j hj' => ?_⟩
    · unfold locs
      rw [List.range_succ, List.map_append, hl]
      rfl
    · by_cases c2 : j < i
      · exact app_get (hj j c2)
      · have : h.length + j = h2.length := by omega
        rw [this]
        exact new_list
def aheadFor : S := (.for_ (.one 3) (.rng (.cons (.bi .len (.cons (.var 1) .nil)) .nil)) (.cons (.for_ (.one 6) (.val (.call "_law_goals" (.cons (.idx (.var 1) (.var 3)) (.cons (.var 3) .nil)))) (.cons (.expr (.me .append (.idx (.var 2) (.var 6)) (.cons (.var 3) .nil)))
    .nil))
    .nil))
theorem w_aheadFor {Q : Fl → AH → Prop} {h0 : AH} {la b : Nat} {c3 c4 c5 c6 c7 c8 c9 : Option W} (F : FlF top s d rs) (L : LL h la b rs.length (fun _ => [])) (kp : Kp h0 h) (hb : h0.length ≤ b)
    (q : ∀ h' G c3 c6, Kp h0 h' → LL h' la b rs.length G → (∀ g, g < rs.length → (G g).length ≤ 400 ∧ ∀ k, k ∈ G g ↔ k < rs.length ∧ g ∈ waysR rs k) → Q (.nx (LwE top s rs (some (.loc la)) c3 c4 c5 c6 c7 c8 c9)) h') :
    wp (evS (cfg G (k + 2)) aheadFor (LwE top s rs (some (.loc la)) c3 c4 c5 c6 c7 c8 c9)) Q E h := by
  have hn := F.n
  have hlen : (rs.map Row.w).length = rs.length := List.length_map _
  unfold aheadFor
  rw [s_for, wi_rng, ws_cons, w_bi, ws_cons, v1, ws_nil, bi_lenT, wp_outL, ws_nil, hlen, rngH_n (by omega), wp_ofO]
  refine forN_inv (ws := rngL 0 rs.length) (P := fun i s' h6 => (∃ c3 c6, s' = LwE top s rs (some (.loc la)) c3 c4 c5 c6 c7 c8 c9) ∧ Kp h0 h6 ∧ ∃ G, LL h6 la b rs.length G ∧ ∀ g, g < rs.length → (G g).length ≤ 2 * i ∧ ∀ k, k ∈ G g ↔ k < i ∧ g ∈ waysR rs k)
    (fun i s' h6 hq => rfl) (fun i s' h6 w hq hi => ?_) (fun s' h6 hq => ?_) _ 0 _ _ (by dsimp only [It.fuel]; omega) (Nat.zero_le _) ⟨⟨_, _, rfl⟩, kp, _, L, fun g hg => ⟨Nat.zero_le _, fun k => ⟨fun z => (nomatch z), fun z => by omega⟩⟩⟩
  · obtain ⟨⟨c3, c6, es⟩, kp6, G, L6, hG⟩ := hq
    subst es
    obtain ⟨ew, hil⟩ := rng_atI hi
    subst ew
    obtain ⟨r, er⟩ : ∃ r, rs[i]? = some r := ⟨_, List.getElem?_eq_getElem hil⟩
    refine ⟨LwE top s rs (some (.loc la)) (some (.int (i : Nat))) c4 c5 c6 c7 c8 c9, rfl, ?_⟩
    rw [ss_cons, s_for, wi_val, w_call, ws_cons, w_idx, v1, v3, at_tup (atI_nat (by rw [List.getElem?_map, er]; rfl)), ws_cons, v3, ws_nil, cfg_cf, w_law_goals (k := k + 1)]
    have eg : (h6 ++ [O.lst (natsW (r.ways i))])[h6.length]? = some (.lst (natsW (r.ways i))) := new_list
    have hla := lt_of L6.a
    rw [← waysR_at er] at eg ⊢
    rw [it_lst eg]
    have wl2 : (waysR rs i).length ≤ 2 := by rw [waysR_at er, ways_len]; cases r <;> simp [Row.wl]
    refine forN_inv (ws := natsW (waysR rs i)) (P := fun a s' h7 => (∃ c6, s' = LwE top s rs (some (.loc la)) (some (.int (i : Nat))) c4 c5 c6 c7 c8 c9) ∧ Kp h0 h7 ∧ h7[h6.length]? = some (.lst (natsW (waysR rs i))) ∧ ∃ G', LL h7 la b rs.length G' ∧ ∀ g, g < rs.length → (G' g).length ≤ 2 * i + a ∧ ∀ k, k ∈ G' g ↔ (k < i ∧ g ∈ waysR rs k) ∨ (k = i ∧ g ∈ (waysR rs i).take a))
      (fun a s' h7 hq => item_lst hq.2.2.1) (fun a s' h7 w hq ha => ?_) (fun s' h7 hq => ?_) _ 0 _ _ (by show (natsW (waysR rs i)).length + 1 ≤ LN + 1 + 0; rw [natsW_len]; unfold LN; omega) (Nat.zero_le _) ⟨⟨_, rfl⟩, kp6.more, eg, G, L6.kp .app, fun g hg => ⟨(hG g hg).1, fun k => by rw [(hG g hg).2]; exact ⟨.inl, fun z => z.elim id fun z => (nomatch z.2)⟩⟩⟩
    · obtain ⟨⟨c6, es⟩, kp7, eg7, G', L7, hG'⟩ := hq
      subst es
      obtain ⟨g, ev, ew⟩ := natsW_at ha
      subst ew
      have hgl := F.lt er g (List.mem_of_getElem? ev)
      have hal := (List.getElem?_eq_some_iff.mp ev).1
      have hle := (hG' g hgl).1
      refine ⟨LwE top s rs (some (.loc la)) (some (.int (i : Nat))) c4 c5 (some (.int (g : Nat))) c7 c8 c9, rfl, ?_⟩
      rw [ss_cons, s_expr, w_me, w_idx, v2, v6, at_lst (lstAt_of L7.a) (atI_nat (locs_at hgl)), knd_app (L7.l g hgl), ws_cons, v3, ws_nil, me_app (L7.l g hgl) (by rw [natsW_len]; omega), onN_nx, ss_nil]
      have ec : natsW (G' g) ++ [W.int (i : Nat)] = natsW (G' g ++ [i]) := by unfold natsW; rw [List.map_append]; rfl
      rw [ec]
      refine ⟨⟨_, rfl⟩, kp7.put (by omega), ?_, _, L7.put hgl, fun g' hg' => ?_⟩
      · have := L7.o
        rw [List.getElem?_set_ne (by omega)]
        exact eg7
      · rw [take_at ev]
        by_cases c : g' = g
        · subst c
          rw [if_pos rfl]
          refine ⟨by rw [List.length_append, List.length_singleton]; omega, fun k => ?_⟩
          rw [List.mem_append, (hG' g' hg').2, List.mem_singleton, List.mem_append]
          constructor
          · rintro ((z | ⟨z1, z2⟩) | z)
            · exact .inl z
            · exact .inr ⟨z1, .inl z2⟩
            · exact .inr ⟨z, .inr (List.mem_singleton.mpr rfl)⟩
          · rintro (z | ⟨z1, z2⟩)
            · exact .inl (.inl z)
            · exact .inr z1
        · rw [if_neg c]
          refine ⟨by have := (hG' g' hg').1; omega, fun k => ?_⟩
          rw [(hG' g' hg').2, List.mem_append]
          constructor
          · rintro (z | ⟨z1, z2⟩)
            · exact .inl z
            · exact .inr ⟨z1, .inl z2⟩
          · rintro (z | ⟨z1, z2 | z2⟩)
            · exact .inl z
            · exact .inr ⟨z1, z2⟩
            · exact absurd (List.mem_singleton.mp z2) c
    · obtain ⟨⟨c6, es⟩, kp7, eg7, G', L7, hG'⟩ := hq
      subst es
      rw [natsW_len, List.take_length] at hG'
      rw [onN_nx, ss_nil]
      refine ⟨⟨_, _, rfl⟩, kp7, G', L7, fun g hg => ⟨by have := (hG' g hg).1; omega, fun k => ?_⟩⟩
      rw [(hG' g hg).2]
      constructor
      · rintro (⟨z1, z2⟩ | ⟨z1, z2⟩)
        · exact ⟨by omega, z2⟩
        · rw [z1]; exact ⟨by omega, z2⟩
      · rintro ⟨z1, z2⟩
        by_cases c : k = i
        · subst c; exact .inr ⟨rfl, z2⟩
        · exact .inl ⟨by omega, z2⟩
  · obtain ⟨⟨c3, c6, es⟩, kp6, G, L6, hG⟩ := hq
    subst es
    rw [rng_len] at hG
    exact q _ G c3 c6 kp6 L6 fun g hg => ⟨by have := (hG g hg).1; omega, (hG g hg).2⟩
end
end K
/-! N6: what is wanted, by the law: who asks a slot, and from where it is come to. -/
namespace K
open MI HK
section
variable {k n d : Nat} {h : AH} {Q : W → AH → Prop} {E : Nm → AH → Prop} {top : Int} {t : T} {rs ms : List Row} {s p x j : Nat}
def wtComp : MI.E := .comp (.var 3) (.one 3) (.rng (.cons (.bi .len (.cons (.var 1) .nil)) .nil)) (.cons (.cmp .in_ (.var 5) (.call "_law_asked" (.cons (.idx (.var 1) (.var 3)) .nil))) .nil) [3]
def Asks (rs : List Row) (v k : Nat) : Prop := ∃ r, rs[k]? = some r ∧ v ∈ asks r
theorem w_wtComp {v : Nat} {c2 c3 c4 c6 c7 c8 c9 : Option W} (F : FlF top s 2 rs) (q : ∀ h' (ws : List Nat), Kp h h' → ws.Nodup → (∀ k, k ∈ ws ↔ k < rs.length ∧ Asks rs v k) → Q (.loc h'.length) (h' ++ [.lst (natsW ws)])) :
    wp (evE (cfg G (k + 5)) wtComp (LwE top s rs c2 c3 c4 (some (.int (v : Nat))) c6 c7 c8 c9)) Q E h := by
  have hn := F.n
  have hlen : (rs.map Row.w).length = rs.length := List.length_map _
  unfold wtComp
  rw [w_comp, wi_rng, ws_cons, w_bi, ws_cons, v1, ws_nil, bi_lenT, wp_outL, ws_nil, hlen, rngH_n (by omega), wp_ofO]
  dsimp only [wipeE, List.set]
  have step := compN_inv (test := evT (cfg G (k + 5)) (.cons (.cmp .in_ (.var 5) (.call "_law_asked" (.cons (.idx (.var 1) (.var 3)) .nil))) .nil)) (elt := evE (cfg G (k + 5)) (.var 3)) (t := .one 3) (s := LwE top s rs c2 none c4 (some (.int (v : Nat))) c6 c7 c8 c9) (J := .seq (rngL 0 rs.length)) (ws := rngL 0 rs.length)
    (P := fun i acc h2 => Kp h h2 ∧ ∃ ws : List Nat, acc = natsW ws ∧ ws.Nodup ∧ ws.length ≤ i ∧ ∀ k, k ∈ ws ↔ k < i ∧ Asks rs v k) (E := fun _ _ => False) (fun i acc h2 hp => rfl) (fun i acc h2 w hp hi => ?_) ((It.seq (rngL 0 rs.length)).fuel) 0 [] h (by dsimp only [It.fuel]; omega) (Nat.zero_le _) ⟨.refl, [], rfl, .nil, Nat.le_refl _, fun k => ⟨fun z => (nomatch z), fun z => by omega⟩⟩
  · refine wp_mono step (fun acc h4 hx => ?_) fun _ _ z => z.elim
    obtain ⟨kp, ws, ea, nd, hl, m⟩ := hx
    rw [rng_len] at m
    subst ea
    exact q h4 ws kp nd m
  · obtain ⟨kp, ws, ea, nd, hl, m⟩ := hp
    subst ea
    obtain ⟨ew, hil⟩ := rng_atI hi
    subst ew
    obtain ⟨r, er⟩ : ∃ r, rs[i]? = some r := ⟨_, List.getElem?_eq_getElem hil⟩
    refine ⟨by rw [natsW_len]; unfold LN; omega, LwE top s rs c2 (some (.int (i : Nat))) c4 (some (.int (v : Nat))) c6 c7 c8 c9, rfl, ?_⟩
    rw [wt_cons, w_cmp, v5, w_call, ws_cons, w_idx, v1, v3, at_tup (atI_nat (by rw [List.getElem?_map, er]; rfl)), ws_nil, cfg_cf]
    refine w_law_asked (k := k + 1) (F.r i r er) fun h3 p ks kp3 ep mk => ?_
    rw [in_l ep, t_bl]
    by_cases c : v ∈ ks
    · rw [decide_eq_true c, if_pos rfl, v3]
      have ha : Asks rs v i := ⟨r, er, (mk v).mp c⟩
      refine ⟨kp.trans kp3, ws ++ [i], by unfold natsW; rw [List.map_append]; rfl, List.nodup_append.mpr ⟨nd, by simp, fun a ha b hb => by rw [List.mem_singleton.mp hb]; have := ((m a).mp ha).1; omega⟩, by rw [List.length_append, List.length_singleton]; omega, fun k => ?_⟩
      rw [List.mem_append, m, List.mem_singleton]
      constructor
      · rintro (⟨z1, z2⟩ | z)
        · exact ⟨by omega, z2⟩
        · rw [z]; exact ⟨by omega, ha⟩
      · rintro ⟨z1, z2⟩
        by_cases c2 : k = i
        · exact .inr c2
        · exact .inl ⟨by omega, z2⟩
    · rw [decide_eq_false c, if_neg (by decide)]
      refine ⟨kp.trans kp3, ws, rfl, nd, by omega, fun k => ?_⟩
      rw [m]
      constructor
      · rintro ⟨z1, z2⟩
        exact ⟨by omega, z2⟩
      · rintro ⟨z1, z2⟩
        by_cases c2 : k = i
        · subst c2
          obtain ⟨r', e', z⟩ := z2
          rw [er] at e'
          cases e'
          exact absurd ((mk v).mpr z) c
        · exact ⟨by omega, z2⟩
def prK (ks : List Nat) : List W := ks.map fun (v : Nat) => .tup [.int (v : Nat), .bl true]
theorem pairs_prK : ∀ {ks : List Nat}, pairsOf (prK ks) = some (kT ks)
  | [] => rfl
  | a :: r => by
    show (if isKey (.int (a : Nat)) then (pairsOf (prK r)).map ((W.int (a : Nat), W.bl true) :: ·) else none) = _
    rw [pairs_prK]
    rfl
theorem merge_kT : ∀ {ws acc : List Nat}, (acc ++ ws).Nodup → mergeD (kT acc) (kT ws) = kT (acc ++ ws)
  | [], acc, _ => by rw [List.append_nil]; rfl
  | a :: r, acc, nd => by
    have hn : a ∉ acc := fun z => by
      have := (List.nodup_append.mp nd).2.2 a z a List.mem_cons_self
      exact this rfl
    show mergeD (dput (kT acc) (.int (a : Nat)) (.bl true)) (kT r) = _
    rw [kT_put hn, merge_kT (by rw [List.append_assoc]; exact nd), List.append_assoc]
    rfl
theorem w_mkComp {l : Nat} {ws : List Nat} {c : Cfg} {c2 c3 c4 c5 c6 c8 c9 : Option W} (el : h[l]? = some (.lst (natsW ws))) (nd : ws.Nodup) (hl : ws.length ≤ 1000) (q : ∀ x, Q (.loc (h ++ x).length) (h ++ x ++ [.dct (kT ws)])) :
    wp (evE c (.bi .dict (.cons (.comp (.tup (.cons (.var 3) (.cons (.bl true) .nil))) (.one 3) (.val (.var 7)) .nil [3]) .nil)) (LwE top s rs c2 c3 c4 c5 c6 (some (.loc l)) c8 c9)) Q E h := by
  rw [w_bi, ws_cons, w_comp, wi_val, v7, it_lst el]
  dsimp only [wipeE, List.set]
  have step := compN_inv (test := evT c .nil) (elt := evE c (.tup (.cons (.var 3) (.cons (.bl true) .nil)))) (t := .one 3) (s := LwE top s rs c2 none c4 c5 c6 (some (.loc l)) c8 c9) (J := .lst l) (ws := natsW ws)
    (P := fun i acc h2 => h2 = h ∧ acc = prK (ws.take i)) (E := fun _ _ => False) (fun i acc h2 hp => by rw [hp.1]; exact item_lst el) (fun i acc h2 w hp hi => ?_) ((It.lst l).fuel) 0 [] h (by show (natsW ws).length + 1 ≤ LN + 1 + 0; rw [natsW_len]; unfold LN; omega) (Nat.zero_le _) ⟨rfl, rfl⟩
  · refine wp_mono step (fun acc h4 hx => ?_) fun _ _ z => z.elim
    obtain ⟨e1, e2⟩ := hx
    subst e1 e2
    rw [natsW_len, List.take_length, ws_nil]
    have e3 : (h4 ++ [O.lst (prK ws)])[h4.length]? = some (.lst (prK ws)) := new_list
    rw [wp_rd (a := Sum.inr (O.dct (kT ws))) (by
      unfold biH
      dsimp only
      rw [e3]
      dsimp only
      rw [pairs_prK]
      dsimp only
      have := merge_kT (ws := ws) (acc := []) (by simpa using nd)
      rw [show mergeD [] (kT ws) = kT ws from this]), wp_outR]
    exact q _
  · obtain ⟨e1, e2⟩ := hp
    subst e1 e2
    obtain ⟨v, ev, ew⟩ := natsW_at hi
    subst ew
    refine ⟨by unfold prK; rw [List.length_map, List.length_take]; unfold LN; omega, LwE top s rs c2 (some (.int (v : Nat))) c4 c5 c6 (some (.loc l)) c8 c9, rfl, ?_⟩
    rw [wt_nil, if_pos rfl, w_tup, ws_cons, v3, ws_cons, w_bl, ws_nil, if_pos (by unfold LN; simp), wp_ret]
    refine ⟨rfl, ?_⟩
    rw [take_at ev]
    unfold prK
    rw [List.map_append]
    rfl
theorem ne_nil_at {n : Nat} {l : List Nat} (e : h[n]? = some (.lst (natsW l))) : cmpH (h ++ [.lst []]) .ne (.loc n) (.loc h.length) = some (!l.isEmpty) := by
  have e' : h[n]? = some (.lst ((l.map fun (v : Nat) => (v : Int)).map W.int)) := by rw [← natsW_ints]; exact e
  show (cmpH (h ++ [.lst []]) .eq (.loc n) (.loc h.length)).map (!·) = _
  rw [eq_nil e']
  cases l <;> rfl
/-- what is marked and what waits -/
structure WS (rs : List Row) (v : Nat) (M wt : List Nat) (sp : Nat → Prop) : Prop where
  nd : M.Nodup
  m : ∀ k ∈ M, k < rs.length ∧ Wa rs v k
  w : ∀ k ∈ wt, k ∈ M
  c : ∀ k ∈ M, k ∈ wt ∨ sp k ∨ ∀ k' r, rs[k']? = some r → k ∈ waysR rs k' → wrt r ≠ some v → k' ∈ M
  a : ∀ k, k < rs.length → Asks rs v k → k ∈ M
theorem WS.len {v : Nat} {M wt : List Nat} {sp : Nat → Prop} (S : WS rs v M wt sp) : M.length ≤ rs.length := pigeon _ _ S.nd fun k hk => (S.m k hk).1
theorem WS.all {v : Nat} {M : List Nat} (S : WS rs v M [] (fun _ => False)) (FF : ∀ (j : Nat) r, rs[j]? = some r → ∀ g ∈ waysR rs j, g < rs.length) : ∀ k, k < rs.length → (k ∈ M ↔ Wa rs v k) := by
  intro k hk
  refine ⟨fun z => (S.m k z).2, fun w => ?_⟩
  clear hk
  induction w with
  | @here j r er ha => exact S.a j (List.getElem?_eq_some_iff.mp er).1 ⟨r, er, ha⟩
  | @on j g r er hw hg w ih =>
    rcases S.c g ih with z | z | z
    · cases z
    · exact z.elim
    · exact z j r er hg hw
def markFor : Ss := (.cons (.for_ (.one 3) (.val (.idx (.var 2) (.me .pop (.var 7) .nil))) (.cons (.if_ (.and_ (.cmp .nin (.var 3) (.var 8)) (.nt (.call "_law_writes" (.cons (.idx (.var 1) (.var 3)) (.cons (.var 5) .nil))))) (.cons (.asgI (.var 8) (.var 3) (.bl true))
    (.cons (.expr (.me .append (.var 7) (.cons (.var 3) .nil)))
    .nil)) .nil)
    .nil))
    .nil)
theorem w_markWhile {Q : Fl → AH → Prop} {h0 : AH} {v la b lw lm L0 : Nat} {Ga : Nat → List Nat} {M wt : List Nat} {c3 c4 c6 c9 : Option W} (F : FlF top s d rs) (La : LL h la b rs.length Ga) (hGa : ∀ g, g < rs.length → (Ga g).length ≤ 400 ∧ ∀ k, k ∈ Ga g ↔ k < rs.length ∧ g ∈ waysR rs k) (h1 : la < L0) (h2 : L0 ≤ lw) (h3 : lw < lm)
    (ew : h[lw]? = some (.lst (natsW wt))) (em : h[lm]? = some (.dct (kT M))) (hwt : wt.length ≤ 200) (S : WS rs v M wt fun _ => False) (kp : Kp h0 h) (hh : h0.length ≤ L0)
    (q : ∀ h' M c3, Kp h0 h' → (∀ m, m < L0 → h'[m]? = h[m]?) → h'[lm]? = some (.dct (kT M)) → M.Nodup → M.length ≤ rs.length → (∀ k, k < rs.length → (k ∈ M ↔ Wa rs v k)) → (∀ k ∈ M, k < rs.length) → Q (.nx (LwE top s rs (some (.loc la)) c3 c4 (some (.int (v : Nat))) c6 (some (.loc lw)) (some (.loc lm)) c9)) h') :
    wp (evS (cfg G (k + 2)) (.while_ (.cmp .ne (.var 7) (.lst .nil)) markFor) (LwE top s rs (some (.loc la)) c3 c4 (some (.int (v : Nat))) c6 (some (.loc lw)) (some (.loc lm)) c9)) Q E h := by
  have hn := F.n
  rw [s_while]
  refine whileN_inv (P := fun c s' h6 => ∃ M wt c3, c = 2 * (rs.length - M.length) + wt.length ∧ s' = LwE top s rs (some (.loc la)) c3 c4 (some (.int (v : Nat))) c6 (some (.loc lw)) (some (.loc lm)) c9 ∧ h6[lw]? = some (.lst (natsW wt)) ∧ h6[lm]? = some (.dct (kT M)) ∧ WS rs v M wt (fun _ => False) ∧ Kp h0 h6 ∧ (∀ m, m < L0 → h6[m]? = h[m]?) ∧ 2 * (rs.length - M.length) + wt.length ≤ 600) (fun c s' h6 hq => ?_) WF _ _ h ?_ ⟨M, wt, c3, rfl, rfl, ew, em, S, kp, fun _ _ => rfl, by omega⟩
  · obtain ⟨M, wt, c3, ec, es, ew, em, S, kp, fr, hwt⟩ := hq
    subst es
    have hML := S.len
    have La6 : LL h6 la b rs.length Ga := ⟨(fr la h1).trans La.a, fun j hj => by have := La.o; rw [fr _ (by omega)]; exact La.l j hj, La.o⟩
    rw [wp_bnd, w_cmp, v7, w_lst, ws_nil, if_pos (by unfold LN; simp), wp_alloc, wp_rd (ne_nil_at ew), t_bl]
    rcases List.eq_nil_or_concat wt with ewt | ⟨wt1, w, ewt⟩
    · subst ewt
      rw [if_neg (by decide)]
      exact q _ M c3 kp.more (fun m hm => by rw [← fr m hm]; exact List.getElem?_append_left (by have := lt_of La6.a; have := lt_of ew; omega)) (app_get em) S.nd hML (S.all fun j r e => F.lt e) fun k hk => (S.m k hk).1
    · rw [List.concat_eq_append] at ewt
      subst ewt
      generalize wt1 = wt at *
      have hne : (!(wt ++ [w]).isEmpty) = true := by simp
      have hwM := S.w w (List.mem_append_right _ (List.mem_singleton.mpr rfl))
      have hwn := (S.m w hwM).1
      rw [hne, if_pos rfl]
      have kp7 : Kp h0 (h6 ++ [O.lst []]) := kp.more
      have ew7 : (h6 ++ [O.lst []])[lw]? = some (.lst (natsW wt ++ [.int (w : Nat)])) := by
        rw [app_get ew]
        unfold natsW
        rw [List.map_append]
        rfl
      have em7 : (h6 ++ [O.lst []])[lm]? = some (.dct (kT M)) := app_get em
      have La7 : LL (h6 ++ [O.lst []]) la b rs.length Ga := La6.kp .app
      have fr7 : ∀ m, m < L0 → (h6 ++ [O.lst []])[m]? = h[m]? := fun m hm => by rw [← fr m hm]; exact List.getElem?_append_left (by have := lt_of ew; omega)
      generalize h6 ++ [O.lst []] = h7 at kp7 ew7 em7 La7 fr7 ⊢
      unfold markFor
      rw [ss_cons, s_for, wi_val, w_idx, v2, w_me, v7, knd_pop ew7, ws_nil, me_pop ew7]
      have La8 : LL (h7.set lw (.lst (natsW wt))) la b rs.length Ga := La7.hi (by omega)
      have ew8 : (h7.set lw (.lst (natsW wt)))[lw]? = some (.lst (natsW wt)) := List.getElem?_set_self (lt_of ew7)
      have em8 : (h7.set lw (.lst (natsW wt)))[lm]? = some (.dct (kT M)) := by rw [List.getElem?_set_ne (by omega)]; exact em7
      have kp8 : Kp h0 (h7.set lw (.lst (natsW wt))) := kp7.put (by omega)
      have fr8 : ∀ m, m < L0 → (h7.set lw (.lst (natsW wt)))[m]? = h[m]? := fun m hm => by rw [List.getElem?_set_ne (by omega)]; exact fr7 m hm
      generalize h7.set lw (.lst (natsW wt)) = h8 at La8 ew8 em8 kp8 fr8 ⊢
      rw [at_lst (lstAt_of La8.a) (atI_nat (locs_at hwn)), it_lst (La8.l w hwn)]
      obtain ⟨hg1, hg2⟩ := hGa w hwn
      have S0 : WS rs v M wt (fun k => k = w) := ⟨S.nd, S.m, fun k hk => S.w k (List.mem_append_left _ hk), fun k hk => by
        rcases S.c k hk with z | z | z
        · rcases List.mem_append.mp z with z | z
          · exact .inl z
          · exact .inr (.inl (List.mem_singleton.mp z))
        · exact z.elim
        · exact .inr (.inr z), S.a⟩
      rw [List.length_append, List.length_singleton] at hwt ec
      refine forN_inv (ws := natsW (Ga w)) (P := fun a s' h9 => ∃ M' wt' c3, s' = LwE top s rs (some (.loc la)) c3 c4 (some (.int (v : Nat))) c6 (some (.loc lw)) (some (.loc lm)) c9 ∧ h9[lw]? = some (.lst (natsW wt')) ∧ h9[lm]? = some (.dct (kT M')) ∧ WS rs v M' wt' (fun k => k = w) ∧ Kp h0 h9 ∧ (∀ m, m < L0 → h9[m]? = h[m]?) ∧ LL h9 la b rs.length Ga ∧ 2 * (rs.length - M'.length) + wt'.length ≤ 2 * (rs.length - M.length) + wt.length ∧ wt'.length + M.length ≤ wt.length + M'.length ∧ ∀ k' ∈ (Ga w).take a, ∀ r, rs[k']? = some r → wrt r ≠ some v → k' ∈ M')
        (fun a s' h9 hq => by obtain ⟨_, _, _, _, _, _, _, _, _, L9, _⟩ := hq; exact item_lst (L9.l w hwn)) (fun a s' h9 x hq ha => ?_) (fun s' h9 hq => ?_) _ 0 _ _ (by show (natsW (Ga w)).length + 1 ≤ LN + 1 + 0; rw [natsW_len]; unfold LN; omega) (Nat.zero_le _) ⟨M, wt, c3, rfl, ew8, em8, S0, kp8, fr8, La8, Nat.le_refl _, Nat.le_refl _, fun k' hk' => nomatch hk'⟩
      · obtain ⟨M', wt', c3, es, ew9, em9, S9, kp9, fr9, L9, ms9, ms9b, cl9⟩ := hq
        subst es
        obtain ⟨y, ey, ex⟩ := natsW_at ha
        subst ex
        obtain ⟨hyn, hyw⟩ := (hg2 y).mp (List.mem_of_getElem? ey)
        obtain ⟨r, er⟩ : ∃ r, rs[y]? = some r := ⟨_, List.getElem?_eq_getElem hyn⟩
        have hM' := S9.len
        refine ⟨LwE top s rs (some (.loc la)) (some (.int (y : Nat))) c4 (some (.int (v : Nat))) c6 (some (.loc lw)) (some (.loc lm)) c9, rfl, ?_⟩
        rw [ss_cons, s_if, w_and, w_cmp, v3, v8, c_ninDct em9 rfl, kT_get, t_bl]
        by_cases c : y ∈ M'
        · rw [decide_eq_true c, if_neg (by decide), t_bl, if_neg (by decide), ss_nil, onN_nx, ss_nil]
          refine ⟨M', wt', _, rfl, ew9, em9, S9, kp9, fr9, L9, ms9, ms9b, fun k' hk' r' er' hw' => ?_⟩
          rw [take_at ey] at hk'
          rcases List.mem_append.mp hk' with z | z
          · exact cl9 k' z r' er' hw'
          · rw [List.mem_singleton.mp z]; exact c
        · rw [decide_eq_false c, if_pos (by decide), w_nt, w_call, ws_cons, w_idx, v1, v3, at_tup (atI_nat (by rw [List.getElem?_map, er]; rfl)), ws_cons, v5, ws_nil, cfg_cf, w_law_writes (k := k + 1), t_bl, t_bl]
          by_cases c2 : wrt r = some v
          · rw [decide_eq_true c2, if_neg (by decide), ss_nil, onN_nx, ss_nil]
            refine ⟨M', wt', _, rfl, ew9, em9, S9, kp9, fr9, L9, ms9, ms9b, fun k' hk' r' er' hw' => ?_⟩
            rw [take_at ey] at hk'
            rcases List.mem_append.mp hk' with z | z
            · exact cl9 k' z r' er' hw'
            · rw [List.mem_singleton.mp z, er] at er'
              cases er'
              exact absurd c2 hw'
          · have nd2 : (M' ++ [y]).Nodup := List.nodup_append.mpr ⟨S9.nd, by simp, fun a ha b hb => by rw [List.mem_singleton.mp hb]; exact fun z => c (by rw [← z]; exact ha)⟩
            have hyW : Wa rs v y := .on er c2 hyw (S.m w hwM).2
            have S10 : WS rs v (M' ++ [y]) (wt' ++ [y]) (fun k => k = w) := ⟨nd2, fun k hk => by
                rcases List.mem_append.mp hk with z | z
                · exact S9.m k z
                · rw [List.mem_singleton.mp z]; exact ⟨hyn, hyW⟩, fun k hk => by
                rcases List.mem_append.mp hk with z | z
                · exact List.mem_append_left _ (S9.w k z)
                · exact List.mem_append_right _ z, fun k hk => by
                rcases List.mem_append.mp hk with z | z
                · rcases S9.c k z with z | z | z
                  · exact .inl (List.mem_append_left _ z)
                  · exact .inr (.inl z)
                  · exact .inr (.inr fun k' r' e1 e2 e3 => List.mem_append_left _ (z k' r' e1 e2 e3))
                · exact .inl (List.mem_append_right _ z), fun k hk ha => List.mem_append_left _ (S9.a k hk ha)⟩
            have hl10 := S10.len
            rw [List.length_append, List.length_singleton] at hl10
            have ew10 : (h9.set lm (.dct (kT (M' ++ [y]))))[lw]? = some (.lst (natsW wt')) := by rw [List.getElem?_set_ne (by omega)]; exact ew9
            rw [decide_eq_false c2, if_pos (by decide), ss_cons, s_asgI, w_bl, v8, v3]
            dsimp only
            rw [set_dct em9 c (by omega), onN_nx, ss_cons, s_expr, w_me, v7, knd_app ew10, ws_cons, v3, ws_nil, me_app ew10 (by rw [natsW_len]; omega), onN_nx, ss_nil, onN_nx, ss_nil]
            have ec2 : natsW wt' ++ [W.int (y : Nat)] = natsW (wt' ++ [y]) := by unfold natsW; rw [List.map_append]; rfl
            rw [ec2]
            refine ⟨M' ++ [y], wt' ++ [y], _, rfl, List.getElem?_set_self (lt_of ew10), ?_, S10, (kp9.put (by omega)).put (by omega), fun m hm => ?_, (L9.hi (by omega)).hi (by omega), ?_, ?_, fun k' hk' r' er' hw' => ?_⟩
            · rw [List.getElem?_set_ne (by omega)]
              exact List.getElem?_set_self (lt_of em9)
            · rw [List.getElem?_set_ne (by omega), List.getElem?_set_ne (by omega)]
              exact fr9 m hm
            · rw [List.length_append, List.length_append, List.length_singleton]
              omega
            · rw [List.length_append, List.length_append, List.length_singleton]
              omega
            · rw [take_at ey] at hk'
              rcases List.mem_append.mp hk' with z | z
              · exact List.mem_append_left _ (cl9 k' z r' er' hw')
              · exact List.mem_append_right _ z
      · obtain ⟨M', wt', c3, es, ew9, em9, S9, kp9, fr9, L9, ms9, ms9b, cl9⟩ := hq
        subst es
        rw [natsW_len, List.take_length] at cl9
        rw [onN_nx, ss_nil]
        have hM' := S9.len
        refine ⟨2 * (rs.length - M'.length) + wt'.length, by omega, M', wt', _, rfl, rfl, ew9, em9, ⟨S9.nd, S9.m, S9.w, fun k hk => ?_, S9.a⟩, kp9, fr9, by omega⟩
        rcases S9.c k hk with z | z | z
        · exact .inl z
        · refine .inr (.inr fun k' r' e1 e2 e3 => ?_)
          rw [z] at e2
          exact cl9 k' ((hg2 k').mpr ⟨(List.getElem?_eq_some_iff.mp e1).1, e2⟩) r' e1 e3
        · exact .inr (.inr z)
  · have hML := S.len
    unfold WF
    omega
end
end K
/-! N7: what is wanted, by the law: whole. -/
namespace K
open MI HK
section
variable {k n d : Nat} {h : AH} {Q : W → AH → Prop} {E : Nm → AH → Prop} {top : Int} {t : T} {rs ms : List Row} {s p x j : Nat}
theorem bi_sortedM {d : Nat} {M : List Nat} (e : h[d]? = some (.dct (kT M))) (hl : M.length < 4096) : ∃ ms : List Nat, ms.Perm M ∧ ∀ (Q : Sum W O → AH → Prop) (E : Nm → AH → Prop), wp (rdO fun h => biH h .sorted [.loc d]) Q E h = Q (.inr (.lst (natsW ms))) h := by
  have hp := sortI_perm (M.map fun (v : Nat) => (v : Int))
  obtain ⟨ms, em⟩ := nats_of (sortI (M.map fun (v : Nat) => (v : Int))) fun i hi => by
    obtain ⟨v, _, e⟩ := List.mem_map.mp (hp.mem_iff.mp hi)
    exact ⟨v, e.symm⟩
  refine ⟨ms, ?_, fun Q E => by rw [bi_sortedK e hl, em, ← natsW_ints]⟩
  rw [em] at hp
  have := hp.map Int.toNat
  rw [List.map_map, List.map_map] at this
  have ei : ∀ l : List Nat, l.map (Int.toNat ∘ fun (v : Nat) => (v : Int)) = l := fun l => by
    have : (Int.toNat ∘ fun (v : Nat) => (v : Int)) = id := by funext v; rfl
    rw [this, List.map_id]
  rw [ei, ei] at this
  exact this
noncomputable def dueL (rs : List Row) (m j : Nat) : List Nat := (List.range m).filter fun u => @decide (Wa rs u j) (Classical.propDecidable _)
theorem due_succ {m j : Nat} : (Wa rs m j → dueL rs (m + 1) j = dueL rs m j ++ [m]) ∧ (¬ Wa rs m j → dueL rs (m + 1) j = dueL rs m j) := by
  unfold dueL
  constructor
  · intro w
    rw [List.range_succ, List.filter_append]
    congr 1
    rw [List.filter_cons_of_pos (by exact @decide_eq_true _ (Classical.propDecidable _) w)]
    rfl
  · intro w
    rw [List.range_succ, List.filter_append]
    have : [m].filter (fun u => @decide (Wa rs u j) (Classical.propDecidable _)) = [] := by
      rw [List.filter_cons_of_neg (by
        intro z
        exact w (@of_decide_eq_true _ (Classical.propDecidable _) z))]
      rfl
    rw [this, List.append_nil]
theorem due_mem {m j v : Nat} : v ∈ dueL rs m j ↔ v < m ∧ Wa rs v j := by
  unfold dueL
  rw [List.mem_filter, List.mem_range]
  constructor
  · rintro ⟨a, b⟩
    exact ⟨a, @of_decide_eq_true _ (Classical.propDecidable _) b⟩
  · rintro ⟨a, b⟩
    exact ⟨a, @decide_eq_true _ (Classical.propDecidable _) b⟩
theorem due_strict {m j : Nat} : (dueL rs m j).Pairwise (· < ·) := by
  unfold dueL
  exact List.pairwise_lt_range.filter _
theorem due_len {m j : Nat} : (dueL rs m j).length ≤ m := sl_len due_strict fun v hv => (due_mem.mp hv).1
def slotBody : Ss := (.cons (.asg (.one 7) wtComp)
    (.cons (.asg (.one 8) (.bi .dict (.cons (.comp (.tup (.cons (.var 3) (.cons (.bl true) .nil))) (.one 3) (.val (.var 7)) .nil [3]) .nil)))
    (.cons (.while_ (.cmp .ne (.var 7) (.lst .nil)) markFor)
    (.cons (.for_ (.one 3) (.val (.bi .sorted (.cons (.var 8) .nil))) (.cons (.expr (.me .append (.idx (.var 4) (.var 3)) (.cons (.var 5) .nil)))
    .nil))
    .nil))))
theorem LL.congr {la b n : Nat} {G G' : Nat → List Nat} (L : LL h la b n G) (e : ∀ j, j < n → G j = G' j) : LL h la b n G' := ⟨L.a, fun j hj => by rw [← e j hj]; exact L.l j hj, L.o⟩
theorem LL.fr {h' : AH} {la b n L0 : Nat} {G : Nat → List Nat} (L : LL h la b n G) (hl : la < L0) (fr : ∀ m, m < L0 → h'[m]? = h[m]?) : LL h' la b n G := ⟨(fr la hl).trans L.a, fun j hj => by have := L.o; rw [fr _ (by omega)]; exact L.l j hj, L.o⟩
theorem w_slotBody {Q : Fl → AH → Prop} {h0 : AH} {v la b lf b2 : Nat} {Ga Gf : Nat → List Nat} {c3 c6 c7 c8 c9 : Option W} (F : FlF top s 2 rs) (La : LL h la b rs.length Ga) (hGa : ∀ g, g < rs.length → (Ga g).length ≤ 400 ∧ ∀ k, k ∈ Ga g ↔ k < rs.length ∧ g ∈ waysR rs k) (Lf : LL h lf b2 rs.length Gf) (hGf : ∀ j, (Gf j).length ≤ 100) (h12 : la < b2) (kp : Kp h0 h) (hb2 : h0.length ≤ b2)
    (q : ∀ h' G' c3 c7 c8, Kp h0 h' → LL h' la b rs.length Ga → LL h' lf b2 rs.length G' → (∀ j, j < rs.length → (Wa rs v j → G' j = Gf j ++ [v]) ∧ (¬ Wa rs v j → G' j = Gf j)) → Q (.nx (LwE top s rs (some (.loc la)) c3 (some (.loc lf)) (some (.int (v : Nat))) c6 c7 c8 c9)) h') :
    wp (evSs (cfg G (k + 5)) slotBody (LwE top s rs (some (.loc la)) c3 (some (.loc lf)) (some (.int (v : Nat))) c6 c7 c8 c9)) Q E h := by
  have hn := F.n
  unfold slotBody
  rw [ss_cons, s_asg]
  refine w_wtComp (k := k) F fun h1 ws kp1 nd m => ?_
  have hlf := lt_of Lf.a
  have hL := kp1.1
  have hwl : ws.length ≤ rs.length := pigeon _ _ nd fun k hk => ((m k).mp hk).1
  have ew : (h1 ++ [O.lst (natsW ws)])[h1.length]? = some (.lst (natsW ws)) := new_list
  have kp2 : Kp h (h1 ++ [O.lst (natsW ws)]) := kp1.more
  have hl2 : (h1 ++ [O.lst (natsW ws)]).length = h1.length + 1 := by simp
  generalize h1 ++ [O.lst (natsW ws)] = h2 at ew kp2 hl2 ⊢
  generalize h1.length = lw at ew hL hl2 ⊢
  rw [wp_rd (a := LwE top s rs (some (.loc la)) c3 (some (.loc lf)) (some (.int (v : Nat))) c6 (some (.loc lw)) c8 c9) rfl, onN_nx, ss_cons, s_asg]
  refine w_mkComp ew nd (by omega) fun y => ?_
  have ew3 : (h2 ++ y ++ [O.dct (kT ws)])[lw]? = some (.lst (natsW ws)) := app_get (app_get ew)
  have em3 : (h2 ++ y ++ [O.dct (kT ws)])[(h2 ++ y).length]? = some (.dct (kT ws)) := by rw [List.getElem?_append_right (Nat.le_refl _), Nat.sub_self]; rfl
  have kp3 : Kp h (h2 ++ y ++ [O.dct (kT ws)]) := kp2.more.more
  have hlm : lw < (h2 ++ y).length := by rw [List.length_append]; omega
  generalize h2 ++ y ++ [O.dct (kT ws)] = h3 at ew3 em3 kp3 ⊢
  generalize (h2 ++ y).length = lm at em3 hlm ⊢
  rw [wp_rd (a := LwE top s rs (some (.loc la)) c3 (some (.loc lf)) (some (.int (v : Nat))) c6 (some (.loc lw)) (some (.loc lm)) c9) rfl, onN_nx, ss_cons]
  have hlaf := Lf.o
  have S0 : WS rs v ws ws (fun _ => False) := ⟨nd, fun k hk => by
      obtain ⟨a, r, er, ha⟩ := (m k).mp hk
      exact ⟨a, .here er ha⟩, fun k hk => hk, fun k hk => .inl hk, fun k hk ha => (m k).mpr ⟨hk, ha⟩⟩
  refine w_markWhile (k := k + 3) (L0 := h.length) (h0 := h) F (La.kp kp3) hGa (by omega) hL hlm ew3 em3 (by omega) S0 kp3 (Nat.le_refl _) fun h4 M c3 kp4 fr4 em4 ndM hM hall hMn => ?_
  have La4 : LL h4 la b rs.length Ga := La.kp kp4
  have Lf4 : LL h4 lf b2 rs.length Gf := Lf.kp kp4
  obtain ⟨zs, zp, zq⟩ := bi_sortedM em4 (by omega)
  rw [onN_nx, ss_cons, s_for, wi_val, w_bi, ws_cons, v8, ws_nil, zq, wp_outR]
  have ez : (h4 ++ [O.lst (natsW zs)])[h4.length]? = some (.lst (natsW zs)) := new_list
  have hlf4 := lt_of Lf4.a
  have La5 : LL (h4 ++ [O.lst (natsW zs)]) la b rs.length Ga := La4.kp .app
  have Lf5 : LL (h4 ++ [O.lst (natsW zs)]) lf b2 rs.length Gf := Lf4.kp .app
  have kp5 : Kp h0 (h4 ++ [O.lst (natsW zs)]) := (kp.trans kp4).more
  rw [it_lst ez]
  have zlen := zp.length_eq
  have znd : zs.Nodup := zp.nodup_iff.mpr ndM
  refine forN_inv (ws := natsW zs) (P := fun a s' h6 => (∃ c3, s' = LwE top s rs (some (.loc la)) c3 (some (.loc lf)) (some (.int (v : Nat))) c6 (some (.loc lw)) (some (.loc lm)) c9) ∧ Kp h0 h6 ∧ LL h6 la b rs.length Ga ∧ h6[h4.length]? = some (.lst (natsW zs)) ∧ ∃ G', LL h6 lf b2 rs.length G' ∧ ∀ j, j < rs.length → (j ∈ zs.take a → G' j = Gf j ++ [v]) ∧ (j ∉ zs.take a → G' j = Gf j))
    (fun a s' h6 hq => item_lst hq.2.2.2.1) (fun a s' h6 w hq ha => ?_) (fun s' h6 hq => ?_) _ 0 _ _ (by show (natsW zs).length + 1 ≤ LN + 1 + 0; rw [natsW_len]; unfold LN; omega) (Nat.zero_le _) ⟨⟨c3, rfl⟩, kp5, La5, ez, Gf, Lf5, fun j hj => ⟨fun z => (nomatch z), fun _ => rfl⟩⟩
  · obtain ⟨⟨c3, es⟩, kp6, La6, ez6, G', Lf6, hG'⟩ := hq
    subst es
    obtain ⟨y, ey, ex⟩ := natsW_at ha
    subst ex
    have hyM : y ∈ M := zp.mem_iff.mp (List.mem_of_getElem? ey)
    have hyn := hMn y hyM
    have hnot : y ∉ zs.take a := by
      intro z
      obtain ⟨i', hi', e'⟩ := List.getElem_of_mem z
      rw [List.length_take] at hi'
      have ha' := (List.getElem?_eq_some_iff.mp ey).1
      have e1 : zs[i']? = some y := by
        rw [List.getElem_take] at e'
        rw [List.getElem?_eq_getElem (by omega), e']
      have := (List.getElem?_inj (i := i') (j := a) (by omega) znd).mp (e1.trans ey.symm)
      omega
    refine ⟨LwE top s rs (some (.loc la)) (some (.int (y : Nat))) (some (.loc lf)) (some (.int (v : Nat))) c6 (some (.loc lw)) (some (.loc lm)) c9, rfl, ?_⟩
    have hg := (hG' y hyn).2 hnot
    have hgl := hGf y
    rw [ss_cons, s_expr, w_me, w_idx, v4, v3, at_lst (lstAt_of Lf6.a) (atI_nat (locs_at hyn)), knd_app (Lf6.l y hyn), ws_cons, v5, ws_nil, me_app (Lf6.l y hyn) (by rw [natsW_len, hg]; omega), onN_nx, ss_nil]
    have ec : natsW (G' y) ++ [W.int (v : Nat)] = natsW (G' y ++ [v]) := by unfold natsW; rw [List.map_append]; rfl
    rw [ec]
    have hof := Lf6.o
    refine ⟨⟨_, rfl⟩, kp6.put (by omega), La6.hi (by omega), ?_, _, Lf6.put hyn, fun j hj => ?_⟩
    · rw [List.getElem?_set_ne (by omega)]
      exact ez6
    · rw [take_at ey]
      by_cases c : j = y
      · subst c
        rw [if_pos rfl, hg]
        exact ⟨fun _ => rfl, fun z => absurd (List.mem_append_right _ (List.mem_singleton.mpr rfl)) z⟩
      · rw [if_neg c]
        refine ⟨fun z => (hG' j hj).1 ?_, fun z => (hG' j hj).2 fun y' => z (List.mem_append_left _ y')⟩
        rcases List.mem_append.mp z with y' | y'
        · exact y'
        · exact absurd (List.mem_singleton.mp y') c
  · obtain ⟨⟨c3, es⟩, kp6, La6, ez6, G', Lf6, hG'⟩ := hq
    subst es
    rw [natsW_len, List.take_length] at hG'
    rw [onN_nx, ss_nil]
    refine q _ G' _ _ _ kp6 La6 Lf6 fun j hj => ⟨fun w => (hG' j hj).1 (zp.mem_iff.mpr ((hall j hj).mpr w)), fun w => (hG' j hj).2 fun z => w ((hall j hj).mp (zp.mem_iff.mp z))⟩
theorem w_law_wanted (F : FlF top s 2 rs) (q : ∀ h' lf b, Kp h h' → LL h' lf b rs.length (dueL rs s) → Q (.loc lf) h') : wp (callF G (k + 6) "_law_wanted" [fltW top s rs]) Q E h := by
  have hn := F.n
  have hs := F.s
  rw [w_def df_law_wanted rfl]
  show wp (evSs (cfg G (k + 5)) (.cons (.asg (.one 1) (.idx (.var 0) (.int 2)))
    (.cons (.asg (.one 2) (.comp (.lst .nil) (.one 9) (.val (.var 1)) .nil [9]))
    (.cons aheadFor
    (.cons (.asg (.one 4) (.comp (.lst .nil) (.one 9) (.val (.var 1)) .nil [9]))
    (.cons (.for_ (.one 5) (.rng (.cons (.idx (.var 0) (.int 1)) .nil)) slotBody)
    (.cons (.ret (.var 4))
    .nil)))))) [some (fltW top s rs), none, none, none, none, none, none, none, none, none]) _ _ h
  rw [ss_cons, s_asg, w_idx, v0, w_int]
  show wp (rdO fun h => idxH h (.tup [.int top, .int (s : Nat), .tup (rs.map Row.w)]) (.int 2)) _ _ _
  rw [at2, wp_rd (a := LwE top s rs none none none none none none none none) rfl, onN_nx, ss_cons, s_asg]
  refine w_nils (by omega) fun h1 la b kp1 hb L1 => ?_
  rw [wp_rd (a := LwE top s rs (some (.loc la)) none none none none none none none) rfl, onN_nx, ss_cons]
  refine w_aheadFor (k := k + 3) F L1 kp1 hb fun h2 Ga c3 c6 kp2 La hGa => ?_
  rw [onN_nx, ss_cons, s_asg]
  refine w_nils (by omega) fun h3 lf b2 kp3 hb2 L3 => ?_
  have hla := lt_of La.a
  have kp03 := kp2.trans kp3
  rw [wp_rd (a := LwE top s rs (some (.loc la)) c3 (some (.loc lf)) none c6 none none none) rfl, onN_nx, ss_cons, s_for, wi_rng, ws_cons, w_idx, v0, w_int]
  show wp (rdO fun h => idxH h (.tup [.int top, .int (s : Nat), .tup (rs.map Row.w)]) (.int 1)) _ _ _
  rw [at1, ws_nil, rngH_n (by omega), wp_ofO]
  refine forN_inv (ws := rngL 0 s) (P := fun i s' h6 => (∃ c3 c5 c7 c8, s' = LwE top s rs (some (.loc la)) c3 (some (.loc lf)) c5 c6 c7 c8 none) ∧ Kp h h6 ∧ LL h6 la b rs.length Ga ∧ LL h6 lf b2 rs.length (dueL rs i))
    (fun i s' h6 hq => rfl) (fun i s' h6 w hq hi => ?_) (fun s' h6 hq => ?_) _ 0 _ _ (by dsimp only [It.fuel]; omega) (Nat.zero_le _) ⟨⟨_, _, _, _, rfl⟩, kp03, La.kp kp3, L3.congr fun j hj => rfl⟩
  · obtain ⟨⟨c3, c5, c7, c8, es⟩, kp6, La6, Lf6⟩ := hq
    subst es
    obtain ⟨ew, hil⟩ := rng_atI hi
    subst ew
    refine ⟨LwE top s rs (some (.loc la)) c3 (some (.loc lf)) (some (.int (i : Nat))) c6 c7 c8 none, rfl, ?_⟩
    refine w_slotBody (k := k) F La6 hGa Lf6 (fun j => by have := due_len (rs := rs) (m := i) (j := j); omega) (by omega) kp6 (by have := kp2.1; omega) fun h7 G' c3 c7 c8 kp7 La7 Lf7 hG' => ?_
    refine ⟨⟨_, _, _, _, rfl⟩, kp7, La7, Lf7.congr fun j hj => ?_⟩
    by_cases w : Wa rs i j
    · rw [(hG' j hj).1 w, due_succ.1 w]
    · rw [(hG' j hj).2 w, due_succ.2 w]
  · obtain ⟨⟨c3, c5, c7, c8, es⟩, kp6, La6, Lf6⟩ := hq
    subst es
    rw [rng_len] at Lf6
    rw [onN_nx, ss_cons, s_ret, v4, onN_rt]
    exact q _ lf b2 kp6 Lf6
end
end K
/-! N8: the flats that are drawn. -/
namespace K
open MI HK
theorem Sz.up {d B d' B' : Nat} {w : W} (z : Sz d B w) (h1 : d ≤ d') (h2 : B ≤ B') : Sz d' B' w := ⟨z.1, Nat.le_trans z.2.1 h1, Nat.le_trans z.2.2 h2⟩
theorem Sz.shw {d B : Nat} {w : W} (z : Sz d B w) (h1 : d ≤ 60) (h2 : B ≤ 1048576) : Shw w := ⟨z.1, Nat.le_trans z.2.1 h1, Nat.le_trans z.2.2 h2⟩
theorem sz_str {s : List Nat} (h : okS s = true) : Sz 0 s.length (.str s) := ⟨h, Nat.zero_le _, Nat.le_refl _⟩
section
variable {k n d : Nat} {h : AH} {Q : W → AH → Prop} {E : Nm → AH → Prop} {top slots : Int} {t : T} {rs ms : List Row} {s p x j i l : Nat} {lr : Row}
theorem rk_sz {n : Int} {d : Nat} {A : W} (ht : top ≤ 1000000000) (hn : n ≤ 1000) (r : Rk top n d A) : A.sml = true ∧ A.dp ≤ d + 1 ∧ A.wt + 9 ≤ 58 * 2 ^ d := by
  have p2 : ∀ d : Nat, 1 ≤ 2 ^ d := fun d => Nat.one_le_two_pow
  induction r with
  | @num d i r1 r2 =>
    refine ⟨?_, ?_, ?_⟩
    · unfold W.sml smls smls smls
      have : (W.int i).sml = true := by unfold W.sml; exact decide_eq_true (by omega)
      rw [this]
      rfl
    · show max 0 (max 0 0) + 1 ≤ d + 1; omega
    · show 6 + 1 + (41 + 1 + 0) + 9 ≤ _
      have := p2 d; omega
  | @at_ d i r1 r2 =>
    refine ⟨?_, ?_, ?_⟩
    · unfold W.sml smls smls smls
      have : (W.int i).sml = true := by unfold W.sml; exact decide_eq_true (by omega)
      rw [this]
      rfl
    · show max 0 (max 0 0) + 1 ≤ d + 1; omega
    · show 2 + 1 + (41 + 1 + 0) + 9 ≤ _
      have := p2 d; omega
  | @op d s a b hs r1 r2 ih1 ih2 =>
    obtain ⟨a1, a2, a3⟩ := ih1
    obtain ⟨b1, b2, b3⟩ := ih2
    have hw : ∀ s ∈ words, s.length ≤ 5 ∧ okS s = true := by decide
    obtain ⟨w1, w2⟩ := hw s hs
    refine ⟨?_, ?_, ?_⟩
    · unfold W.sml smls smls smls smls
      have : (W.str s).sml = true := by unfold W.sml; exact w2
      rw [this, a1, b1]; rfl
    · show max 0 (max a.dp (max b.dp 0)) + 1 ≤ d + 1 + 1; omega
    · show s.length + 1 + (a.wt + 1 + (b.wt + 1 + 0)) + 9 ≤ 58 * 2 ^ (d + 1)
      rw [Nat.pow_succ]; omega
/-- a row of no great size -/
def SR (w : W) : Prop := w.sml = true ∧ w.dp ≤ 4 ∧ w.wt ≤ 300
theorem sr2 {s : List Nat} {w : W} (hs : okS s = true) (hl : s.length ≤ 5) (h1 : w.sml = true) (h2 : w.dp ≤ 3) (h3 : w.wt ≤ 250) : SR (.tup [.str s, w]) := by
  refine ⟨?_, ?_, ?_⟩
  · unfold W.sml smls smls smls
    have : (W.str s).sml = true := by unfold W.sml; exact hs
    rw [this, h1]; rfl
  · show max 0 (max w.dp 0) + 1 ≤ 4; omega
  · show s.length + 1 + (w.wt + 1 + 0) ≤ 300; omega
theorem sr3 {s : List Nat} {w v : W} (hs : okS s = true) (hl : s.length ≤ 5) (h1 : w.sml = true) (h2 : w.dp ≤ 3) (g1 : v.sml = true) (g2 : v.dp ≤ 3) (h3 : w.wt + v.wt ≤ 280) : SR (.tup [.str s, w, v]) := by
  refine ⟨?_, ?_, ?_⟩
  · unfold W.sml smls smls smls smls
    have : (W.str s).sml = true := by unfold W.sml; exact hs
    rw [this, h1, g1]; rfl
  · show max 0 (max w.dp (max v.dp 0)) + 1 ≤ 4; omega
  · show s.length + 1 + (w.wt + 1 + (v.wt + 1 + 0)) ≤ 300; omega
theorem rw_sr {n p : Int} {w : W} (ht : top ≤ 1000000000) (hs : slots ≤ 1000) (hn : n ≤ 1000) (r : Rw top slots 2 n p w) : SR w := by
  cases r with
  | @set c A c1 c2 rk =>
    obtain ⟨a1, a2, a3⟩ := rk_sz ht hs rk
    exact sr3 (by decide) (by decide) (int_sml (by omega)) (Nat.zero_le _) a1 (by omega) (by show 41 + A.wt ≤ 280; omega)
  | @ask c c1 c2 => exact sr2 (by decide) (by decide) (int_sml (by omega)) (Nat.zero_le _) (by show 41 ≤ 250; omega)
  | @tell A rk =>
    obtain ⟨a1, a2, a3⟩ := rk_sz ht hs rk
    exact sr2 (by decide) (by decide) a1 (by omega) (by omega)
  | @go t t1 t2 => exact sr2 (by decide) (by decide) (int_sml (by omega)) (Nat.zero_le _) (by show 41 ≤ 250; omega)
  | stop => exact ⟨rfl, by decide, by decide⟩
  | @if_ A t rk t1 t2 t3 =>
    obtain ⟨a1, a2, a3⟩ := rk_sz ht hs rk
    exact sr3 (by decide) (by decide) a1 (by omega) (int_sml (by omega)) (Nat.zero_le _) (by show A.wt + 41 ≤ 280; omega)
theorem sr_sz {w : W} (z : SR w) : Sz 24 2500 w := ⟨z.1, Nat.le_trans z.2.1 (by decide), Nat.le_trans z.2.2 (by decide)⟩
theorem prg_flf {top slots : Int} {rows : List W} (P : PrgOk top slots rows) : ∃ (s : Nat) (rs : List Row), slots = (s : Nat) ∧ rows = rs.map Row.w ∧ FlF top s 2 rs := by
  have hs := P.s
  have hn := P.n
  have es : slots = ((slots.toNat : Nat) : Int) := by omega
  have last : ∀ {i : Nat} {s : List Nat} {r : List W}, rows[i]? = some (.tup (.str s :: r)) → lastOk s = false → i + 1 < rows.length := by
    intro i s r er hs
    have hi := (List.getElem?_eq_some_iff.mp er).1
    obtain ⟨lw, lr, el, ho⟩ := P.l
    by_cases c : i = rows.length - 1
    · rw [← c, er] at el
      cases el
      rw [hs] at ho; cases ho
    · omega
  obtain ⟨rs, e1, e2⟩ := lift_rows (P := fun i r => RowF top slots.toNat 2 rows.length i r ∧ Sz 24 2500 r.w) rows 0 fun i w ew => by
    rw [Nat.zero_add]
    have r := P.r i w ew
    have sz := sr_sz (rw_sr P.t.2 (by omega) (by omega) r)
    have hi := (List.getElem?_eq_some_iff.mp ew).1
    cases r with
    | @set c A c1 c2 rk =>
      obtain ⟨t, et, tk⟩ := rk_T rk
      subst et
      have e : W.tup [.str sSet, .int c, t.w] = (Row.set c.toNat t).w := by
        show _ = W.tup [.str sSet, .int (c.toNat : Nat), t.w]
        rw [Int.toNat_of_nonneg c1]
      refine ⟨.set c.toNat t, e, ⟨fun _ => last ew rfl, fun g hg => (nomatch hg), fun t g hg => (nomatch hg), fun c' t' e' => ?_, fun c e => (nomatch e), fun t e => (nomatch e), fun t g e => (nomatch e)⟩, by rw [← e]; exact sz⟩
      cases e'
      exact ⟨by omega, tk⟩
    | @ask c c1 c2 =>
      have e : W.tup [.str sAsk, .int c] = (Row.ask c.toNat).w := by
        show _ = W.tup [.str sAsk, .int (c.toNat : Nat)]
        rw [Int.toNat_of_nonneg c1]
      refine ⟨.ask c.toNat, e, ⟨fun _ => last ew rfl, fun g hg => (nomatch hg), fun t g hg => (nomatch hg), fun c t e => (nomatch e), fun c' e' => ?_, fun t e => (nomatch e), fun t g e => (nomatch e)⟩, by rw [← e]; exact sz⟩
      cases e'
      omega
    | @tell A rk =>
      obtain ⟨t, et, tk⟩ := rk_T rk
      subst et
      refine ⟨.tell t, rfl, ⟨fun _ => last ew rfl, fun g hg => (nomatch hg), fun t g hg => (nomatch hg), fun c t e => (nomatch e), fun c e => (nomatch e), fun t' e' => ?_, fun t g e => (nomatch e)⟩, sz⟩
      cases e'
      exact tk
    | @go g g1 g2 =>
      have e : W.tup [.str sGo, .int g] = (Row.go g.toNat).w := by
        show _ = W.tup [.str sGo, .int (g.toNat : Nat)]
        rw [Int.toNat_of_nonneg g1]
      refine ⟨.go g.toNat, e, ⟨fun hf => (nomatch hf), fun g' hg => ?_, fun t g hg => (nomatch hg), fun c t e => (nomatch e), fun c e => (nomatch e), fun t e => (nomatch e), fun t g e => (nomatch e)⟩, by rw [← e]; exact sz⟩
      cases hg
      omega
    | stop => exact ⟨.stop, rfl, ⟨fun hf => (nomatch hf), fun g hg => (nomatch hg), fun t g hg => (nomatch hg), fun c t e => (nomatch e), fun c e => (nomatch e), fun t e => (nomatch e), fun t g e => (nomatch e)⟩, sz⟩
    | @if_ A g rk g1 g2 g3 =>
      obtain ⟨t, et, tk⟩ := rk_T rk
      subst et
      have e : W.tup [.str sIf, t.w, .int g] = (Row.if_ t g.toNat).w := by
        show _ = W.tup [.str sIf, t.w, .int (g.toNat : Nat)]
        rw [Int.toNat_of_nonneg g1]
      refine ⟨.if_ t g.toNat, e, ⟨fun _ => last ew rfl, fun g' hg => ?_, fun t' g' hg => ?_, fun c t e => (nomatch e), fun c e => (nomatch e), fun t e => (nomatch e), fun t' g' e' => ?_⟩, by rw [← e]; exact sz⟩
      · cases hg; omega
      · cases hg; omega
      · cases e'; exact tk
  have hl : rows.length = rs.length := by rw [e1, List.length_map]
  refine ⟨slots.toNat, rs, es, e1, ⟨P.t, by omega, by omega, by omega, fun i r er => ?_, fun r hr => ?_⟩⟩
  · have := (e2 i r er).1
    rw [Nat.zero_add, hl] at this
    exact this
  · obtain ⟨i, hi, ei⟩ := List.getElem_of_mem hr
    exact (e2 i r (by rw [List.getElem?_eq_getElem hi, ei])).2
def leafSs : Ss := (.cons (.if_ (.or_ (.cmp .eq (.var 2) (.lst .nil)) (.cmp .eq (.bin .mod (.var 4) (.int 3)) (.int 0))) (.cons (.ret (.tup (.cons (.str [110, 117, 109, 98, 101, 114]) (.cons (.call "_law_number" (.cons (.var 0) (.cons (.var 1) .nil))) .nil))))
    .nil) .nil)
    (.cons (.ret (.tup (.cons (.str [97, 116]) (.cons (.call "_law_pick" (.cons (.var 0) (.cons (.var 2) .nil))) .nil))))
    .nil))
theorem w_leafL {Q : Fl → AH → Prop} {n v : Int} {p d : Nat} {ks : List Nat} {c3 c5 c6 : Option W} (ht : 1 ≤ top ∧ top ≤ 1000000000) (hk : ∀ v ∈ ks, (v : Int) < n) (hl63 : ks.length ≤ 63) (hp : p ≠ 2 ∧ p ≠ 3) (S1 : St h) (e : h[p]? = some (.lst (natsW ks)))
    (q : ∀ h' A, Rk top n d A → St h' → Fr h h' → Q (.rt A) h') : wp (evSs (cfg G (k + 2)) leafSs [some (.loc 3), some (.int top), some (.loc p), c3, some (.int v), c5, c6]) Q E h := by
  have e' : h[p]? = some (.lst ((ks.map fun (v : Nat) => (v : Int)).map W.int)) := by rw [← natsW_ints]; exact e
  have e2 : (h ++ [O.lst []])[p]? = some (.lst (natsW ks)) := app_get e
  unfold leafSs
  rw [ss_cons, s_if, w_or, w_cmp, v2, w_lst, ws_nil, if_pos (by unfold LN; simp), wp_alloc, wp_rd (eq_nil e'), t_bl]
  cases hb : (ks.map fun (v : Nat) => (v : Int)).isEmpty with
  | true =>
    rw [if_pos rfl, t_bl, if_pos rfl]
    refine wp_mono (Q := fun o h' => Q o h' ∧ ∃ A, o = .rt A) ?_ (fun o h' z => ?_) fun _ _ z => z
    · rw [ss_cons, s_ret, w_tup, ws_cons, w_str, ws_cons, w_call, ws_cons, v0, ws_cons, v1, ws_nil, cfg_cf]
      refine w_number (k := k) S1.app ht fun h2 u u0 u1 S2 F2 => ?_
      rw [ws_nil, if_pos (by unfold LN; simp), wp_ret, onN_rt]
      exact ⟨q _ _ (.num u0 u1) S2 (Fr.app.trans F2), _, rfl⟩
    · obtain ⟨z1, A, e⟩ := z
      subst e
      rw [onN_rt]
      exact z1
  | false =>
    rw [if_neg (by decide), w_cmp, w_bin, v4, w_int, b_mod (by decide), wp_outL, w_int, c_eqI, t_bl]
    by_cases c : (v % 3 == 0) = true
    · rw [if_pos c]
      refine wp_mono (Q := fun o h' => Q o h' ∧ ∃ A, o = .rt A) ?_ (fun o h' z => ?_) fun _ _ z => z
      · rw [ss_cons, s_ret, w_tup, ws_cons, w_str, ws_cons, w_call, ws_cons, v0, ws_cons, v1, ws_nil, cfg_cf]
        refine w_number (k := k) S1.app ht fun h2 u u0 u1 S2 F2 => ?_
        rw [ws_nil, if_pos (by unfold LN; simp), wp_ret, onN_rt]
        exact ⟨q _ _ (.num u0 u1) S2 (Fr.app.trans F2), _, rfl⟩
      · obtain ⟨z1, A, e⟩ := z
        subst e
        rw [onN_rt]
        exact z1
    · rw [if_neg c, ss_nil, onN_nx, ss_cons, s_ret, w_tup, ws_cons, w_str, ws_cons, w_call, ws_cons, v0, ws_cons, v2, ws_nil, cfg_cf]
      have hne : 0 < ks.length := by
        cases ks with
        | nil => cases hb
        | cons a r => simp
      refine w_pick (k := k) S1.app hp e2 (by rw [natsW_len]; omega) fun h2 w hw S2 F2 => ?_
      obtain ⟨u, hu, ew⟩ := List.mem_map.mp hw
      subst ew
      rw [ws_nil, if_pos (by unfold LN; simp), wp_ret, onN_rt]
      exact q _ _ (.at_ (Int.natCast_nonneg u) (hk u hu)) S2 (Fr.app.trans F2)
theorem w_reckL {n : Int} {p : Nat} {ks : List Nat} (ht : 1 ≤ top ∧ top ≤ 1000000000) (hk : ∀ v ∈ ks, (v : Int) < n) (hl63 : ks.length ≤ 63) (hp : p ≠ 2 ∧ p ≠ 3) : ∀ (d : Nat) {h : AH} {k : Nat} {Q : W → AH → Prop} {E : Nm → AH → Prop}, St h → h[p]? = some (.lst (natsW ks)) → (∀ h' A, Rk top n d A → St h' → Fr h h' → Q A h') →
    wp (callF G (k + d + 3) "_law_reckoning" [.loc 3, .int top, .loc p, .int d]) Q E h := by
  have begin : ∀ (d : Nat) {h : AH} {k : Nat} {Q : W → AH → Prop} {E : Nm → AH → Prop}, St h → h[p]? = some (.lst (natsW ks)) → (∀ h' A, Rk top n d A → St h' → Fr h h' → Q A h') →
      (∀ h1 v (Q' : Fl → AH → Prop) (E' : Nm → AH → Prop), St h1 → Fr h h1 → ¬ (d = 0 ∨ v < 6) → (∀ h' A, Rk top n d A → St h' → Fr h h' → Q' (.rt A) h') → wp (evSs (cfg G (k + d + 2)) (.cons (.asg (.one 5) (.call "_law_pick" (.cons (.var 0) (.cons (.lst (.cons (.str [115, 117, 109]) (.cons (.str [115, 117, 109]) (.cons (.str [108, 101, 115, 115]) (.cons (.str [116, 105, 109, 101, 115]) (.cons (.str [98, 101, 108, 111, 119]) (.cons (.str [115, 97, 109, 101]) .nil))))))) .nil))))
        (.cons (.asg (.one 6) (.call "_law_reckoning" (.cons (.var 0) (.cons (.var 1) (.cons (.var 2) (.cons (.bin .sub (.var 3) (.int 1)) .nil))))))
        (.cons (.ret (.tup (.cons (.var 5) (.cons (.var 6) (.cons (.call "_law_reckoning" (.cons (.var 0) (.cons (.var 1) (.cons (.var 2) (.cons (.bin .sub (.var 3) (.int 1)) .nil))))) .nil)))))
        .nil))) [some (.loc 3), some (.int top), some (.loc p), some (.int d), some (.int v), none, none]) Q' E' h1) →
      wp (callF G (k + d + 3) "_law_reckoning" [.loc 3, .int top, .loc p, .int d]) Q E h := by
    intro d h k Q E S e q rest
    rw [w_def df_law_reckoning rfl]
    show wp (evSs _ ir_law_reckoning [some (.loc 3), some (.int top), some (.loc p), some (.int d), none, none, none]) _ _ h
    unfold ir_law_reckoning
    rw [ss_cons, s_asg, w_call, ws_cons, v0, ws_cons, w_int, ws_nil, cfg_cf]
    refine w_take (k := k + d + 1) S (by decide) fun h1 v v0' v1' S1 F1 => ?_
    have e1 : h1[p]? = some (.lst (natsW ks)) := (F1.2 p (lt_of e) hp.1 hp.2).trans e
    rw [wp_rd (a := [some (.loc 3), some (.int top), some (.loc p), some (.int d), some (.int v), none, none]) rfl, onN_nx, ss_cons, s_if, w_or, w_cmp, v3, w_int, c_eqI, t_bl]
    have lf : ∀ (Q' : Fl → AH → Prop) (E' : Nm → AH → Prop), (∀ h' A, Rk top n d A → St h' → Fr h1 h' → Q' (.rt A) h') → wp (evSs (cfg G (k + d + 2)) leafSs [some (.loc 3), some (.int top), some (.loc p), some (.int d), some (.int v), none, none]) Q' E' h1 := fun Q' E' q' => w_leafL (k := k + d) ht hk hl63 hp S1 e1 q'
    by_cases c : d = 0
    · rw [if_pos (by rw [beq_iff_eq]; omega), t_bl, if_pos (by rw [beq_iff_eq]; omega)]
      refine lf _ _ fun h' A r S' F' => ?_
      exact q h' A r S' (F1.trans F')
    · rw [if_neg (by rw [beq_iff_eq]; omega), w_cmp, v4, w_int, c_lt, t_bl]
      by_cases c2 : v < 6
      · rw [decide_eq_true c2, if_pos rfl]
        refine lf _ _ fun h' A r S' F' => ?_
        exact q h' A r S' (F1.trans F')
      · rw [decide_eq_false c2, if_neg (by decide), ss_nil, onN_nx]
        exact rest h1 v _ _ S1 F1 (fun z => z.elim c c2) fun h' A r S' F' => q h' A r S' F'
  intro d
  induction d with
  | zero =>
    intro h k Q E S e q
    exact begin 0 S e q fun h1 v Q' E' S1 F1 hv q' => absurd (.inl rfl) hv
  | succ d ih =>
    intro h k Q E S e q
    refine begin (d + 1) S e q fun h1 v Q' E' S1 F1 hv q' => ?_
    have l1 := S1.len
    have ed : (((d + 1 : Nat) : Int) - 1) = (d : Nat) := by omega
    rw [ss_cons, s_asg, w_call, ws_cons, v0, ws_cons, w_lst, ws_cons, w_str, ws_cons, w_str, ws_cons, w_str, ws_cons, w_str, ws_cons, w_str, ws_cons, w_str, ws_nil, if_pos (by unfold LN; simp), wp_alloc, ws_nil, cfg_cf]
    refine w_pick (k := k + (d + 1)) S1.app (by omega) new_list (by decide) fun h2 w hw S2 F2 => ?_
    have F := F1.trans (Fr.app.trans F2)
    have e2 : h2[p]? = some (.lst (natsW ks)) := (F.2 p (lt_of e) hp.1 hp.2).trans e
    have hs : ∃ s, w = .str s ∧ s ∈ words := by
      simp only [List.mem_cons, List.not_mem_nil, or_false] at hw
      rcases hw with e | e | e | e | e | e <;> subst e <;> exact ⟨_, rfl, by decide⟩
    obtain ⟨s, rfl, hs⟩ := hs
    rw [wp_rd (a := [some (.loc 3), some (.int top), some (.loc p), some (.int ((d + 1 : Nat) : Int)), some (.int v), some (.str s), none]) rfl, onN_nx, ss_cons, s_asg, w_call, ws_cons, v0, ws_cons, v1, ws_cons, v2, ws_cons, w_bin, v3, w_int, b_sub, wp_outL, ed, ws_nil, cfg_cf]
    refine ih (k := k) S2 e2 fun h3 A r3 S3 F3 => ?_
    have e3 : h3[p]? = some (.lst (natsW ks)) := (F3.2 p (lt_of e2) hp.1 hp.2).trans e2
    rw [wp_rd (a := [some (.loc 3), some (.int top), some (.loc p), some (.int ((d + 1 : Nat) : Int)), some (.int v), some (.str s), some A]) rfl, onN_nx, ss_cons, s_ret, w_tup, ws_cons, v5, ws_cons, v6, ws_cons, w_call, ws_cons, v0, ws_cons, v1, ws_cons, v2, ws_cons, w_bin, v3, w_int, b_sub, wp_outL, ed, ws_nil, cfg_cf]
    refine ih (k := k) S3 e3 fun h4 B r4 S4 F4 => ?_
    rw [ws_nil, if_pos (by unfold LN; simp), wp_ret, onN_rt]
    exact q' _ _ (.op hs r3 r4) S4 (F.trans (F3.trans F4))
theorem rk_up {n : Int} {A : W} (r : Rk top n d A) : Rk top n (d + 1) A := by
  induction r with
  | num h1 h2 => exact .num h1 h2
  | at_ h1 h2 => exact .at_ h1 h2
  | op hs r1 r2 ih1 ih2 => exact .op hs ih1 ih2
/-- a flat, as a value -/
def FlW (w : W) : Prop := ∃ top s rs, w = fltW top s rs ∧ FlF top s 2 rs
theorem prg_flw {rows : List W} (P : PrgOk top slots rows) : FlW (.tup [.int top, .int slots, .tup rows]) := by
  obtain ⟨s, rs, e1, e2, F⟩ := prg_flf P
  subst e1 e2
  exact ⟨top, s, rs, rfl, F⟩
theorem flf_up (F : FlF top s d rs) : FlF top 60 d rs := ⟨F.t, by decide, F.d, F.n, fun i r er => by
  have R := F.r i r er
  have hs := F.s
  exact ⟨R.on, R.to, R.ne, fun c t e => by obtain ⟨a, b⟩ := R.c c t e; exact ⟨by omega, b.mono hs.2 (Nat.le_refl _)⟩, fun c e => by have := R.a c e; omega, fun t e => (R.t t e).mono hs.2 (Nat.le_refl _), fun t g e => (R.f t g e).mono hs.2 (Nat.le_refl _)⟩, F.z⟩
theorem w_flatW {most ms : Int} (hmo : 3 ≤ most ∧ most ≤ 200) (hms : 1 ≤ ms ∧ ms ≤ 60) (S : St h) (q : ∀ h' top s rs, FlF top s 2 rs → St h' → Fr h h' → Q (fltW top s rs) h') : wp (callF G (k + 7) "_law_flat" [.loc 3, .int most, .int ms]) Q E h := by
  refine w_lflatG (k := k) hmo hms S fun h1 top slots rows P _ _ S1 F1 => ?_
  obtain ⟨s, rs, e1, e2, F⟩ := prg_flf P
  subst e1 e2
  exact q h1 top s rs F S1 F1
theorem w_great (S : St h) (q : ∀ h' top s rs, FlF top s 2 rs → St h' → Fr h h' → Q (fltW top s rs) h') : wp (callF G (k + 8) "_law_great" [.loc 3]) Q E h := by
  rw [w_def df_law_great rfl]
  show wp (evSs _ ir_law_great [some (.loc 3), none]) _ _ h
  unfold ir_law_great
  rw [ss_cons, s_asg, w_call, ws_cons, v0, ws_cons, w_int, ws_cons, w_int, ws_nil, cfg_cf]
  refine w_flatW (k := k) (by decide) (by decide) S fun h1 top s rs F S1 F1 => ?_
  rw [wp_rd (a := [some (.loc 3), some (fltW top s rs)]) rfl, onN_nx, ss_cons, s_ret, w_ite, w_cmp, w_call, ws_cons, v0, ws_cons, w_int, ws_nil, cfg_cf]
  refine w_take (k := k + 6) S1 (by decide) fun h2 v v0' v1' S2 F2 => ?_
  rw [w_int, c_eqI, t_bl]
  by_cases c : (v == 0) = true
  · rw [if_pos c, v1, onN_rt]
    exact q h2 top s rs F S2 (F1.trans F2)
  · rw [if_neg c, w_tup, ws_cons, w_idx, v1, w_int]
    show wp (rdO fun h => idxH h (.tup [.int top, .int (s : Nat), .tup (rs.map Row.w)]) (.int 0)) _ _ _
    rw [at0, ws_cons, w_int, ws_cons, w_idx, v1, w_int]
    show wp (rdO fun h => idxH h (.tup [.int top, .int (s : Nat), .tup (rs.map Row.w)]) (.int 2)) _ _ _
    rw [at2, ws_nil, if_pos (by unfold LN; simp), wp_ret, onN_rt]
    exact q h2 top 60 rs (flf_up F) S2 (F1.trans F2)
theorem l4 : natsW [0, 1, 2, 3] = [W.int 0, .int 1, .int 2, .int 3] := rfl
theorem w_reck4 {c0 : Nat} {Q : W → AH → Prop} {E : Nm → AH → Prop} (hd : c0 = 1 ∨ c0 = 2) (ht : 1 ≤ top ∧ top ≤ 1000000000) (S : St h) (q : ∀ h' A, Rk top 4 2 A → St h' → Fr h h' → Q A h') : wp (callF G (k + 5) "_law_reckoning" [.loc 3, .int top, .loc h.length, .int (c0 : Nat)]) Q E (h ++ [.lst [.int 0, .int 1, .int 2, .int 3]]) := by
  have l3 := S.len
  have e : (h ++ [O.lst [W.int 0, .int 1, .int 2, .int 3]])[h.length]? = some (.lst (natsW [0, 1, 2, 3])) := new_list
  have hk : ∀ v ∈ [0, 1, 2, 3], ((v : Nat) : Int) < 4 := by decide
  rcases hd with z | z
  · subst z
    rw [show k + 5 = (k + 1) + 1 + 3 from rfl]
    exact w_reckL ht hk (by decide) (by omega) 1 S.app e fun h' A r S' F' => q h' A (rk_up r) S' (Fr.app.trans F')
  · subst z
    rw [show k + 5 = k + 2 + 3 from rfl]
    exact w_reckL ht hk (by decide) (by omega) 2 S.app e fun h' A r S' F' => q h' A r S' (Fr.app.trans F')
theorem pick_at {xs : List W} {v : Int} (h0 : 0 ≤ v) (h1 : v < (xs.length : Int)) : ∃ w, w ∈ xs ∧ MI.atI xs v = some w := atI_int h0 h1
theorem w_forked (S : St h) (q : ∀ h' top s rs, FlF top s 2 rs → St h' → Fr h h' → Q (fltW top s rs) h') : wp (callF G (k + 8) "_law_forked" [.loc 3]) Q E h := by
  rw [w_def df_law_forked rfl]
  show wp (evSs _ ir_law_forked [some (.loc 3), none, none, none, none, none, none]) _ _ h
  unfold ir_law_forked
  rw [ss_cons, s_asg, w_call, ws_cons, v0, ws_nil, cfg_cf]
  refine w_top (k := k + 5) S fun h1 top t0 t1 S1 F1 => ?_
  have ht : 1 ≤ top ∧ top ≤ 1000000000 := ⟨t0, t1⟩
  rw [wp_rd (a := [some (.loc 3), some (.int top), none, none, none, none, none]) rfl, onN_nx, ss_cons, s_asg, w_call, ws_cons, v0, ws_cons, w_int, ws_nil, cfg_cf]
  refine w_take (k := k + 6) S1 (by decide) fun h2 u u0 u1 S2 F2 => ?_
  rw [wp_rd (a := [some (.loc 3), some (.int top), some (.int u), none, none, none, none]) rfl, onN_nx, ss_cons, s_asg, w_call, ws_cons, v0, ws_cons, v1, ws_cons, w_lst, ws_cons, w_int, ws_cons, w_int, ws_cons, w_int, ws_cons, w_int, ws_nil, if_pos (by unfold LN; simp), wp_alloc, ws_cons, w_int, ws_nil, cfg_cf]
  refine w_reck4 (k := k + 2) (c0 := 2) (.inr rfl) ht S2 fun h3 A rA S3 F3 => ?_
  rw [wp_rd (a := [some (.loc 3), some (.int top), some (.int u), some A, none, none, none]) rfl, onN_nx, ss_cons, s_asg, w_idx, w_lst, ws_cons, v3, ws_cons, v3, ws_cons, v3, ws_cons, w_call, ws_cons, v0, ws_cons, v1, ws_cons, w_lst, ws_cons, w_int, ws_cons, w_int, ws_cons, w_int, ws_cons, w_int, ws_nil, if_pos (by unfold LN; simp), wp_alloc, ws_cons, w_int, ws_nil, cfg_cf]
  refine w_reck4 (k := k + 2) (c0 := 2) (.inr rfl) ht S3 fun h4 B rB S4 F4 => ?_
  rw [ws_nil, if_pos (by unfold LN; simp), wp_alloc, w_call, ws_cons, v0, ws_cons, w_int, ws_nil, cfg_cf]
  have l4' := S4.len
  refine w_take (k := k + 6) S4.app (by decide) fun h5 v z0 z1 S5 F5 => ?_
  have e5 := (F5.2 h4.length (by simp) (by omega) (by omega)).trans (new_list (h := h4) (xs := [A, A, A, B]))
  obtain ⟨C, hC, eC⟩ := pick_at (xs := [A, A, A, B]) z0 z1
  have rC : Rk top 4 2 C := by
    simp only [List.mem_cons, List.not_mem_nil, or_false] at hC
    rcases hC with e | e | e | e <;> rw [e] <;> assumption
  have F15 : Fr h h5 := F1.trans (F2.trans (F3.trans (F4.trans (Fr.app.trans F5))))
  rw [at_lst (lstAt_of e5) eC, wp_rd (a := [some (.loc 3), some (.int top), some (.int u), some A, some C, none, none]) rfl, onN_nx, ss_cons, s_asg, w_tup, ws_cons, w_str, ws_cons, v2, ws_cons, w_tup, ws_cons, w_str, ws_cons, w_tup, ws_cons, w_str, ws_cons, v2, ws_nil, if_pos (by unfold LN; simp), wp_ret, ws_cons, w_tup, ws_cons, w_str, ws_cons, w_int, ws_nil, if_pos (by unfold LN; simp), wp_ret, ws_nil, if_pos (by unfold LN; simp), wp_ret, ws_nil, if_pos (by unfold LN; simp), wp_ret]
  have rM : ∀ p : Int, p + 1 < 9 → Rw top 4 2 9 p (.tup [.str [115, 101, 116], .int u, .tup [.str [115, 117, 109], .tup [.str [97, 116], .int u], .tup [.str [110, 117, 109, 98, 101, 114], .int 1]]]) := fun p hp => .set u0 u1 (.op (d := 1) (by decide) (.at_ u0 u1) (.num (by decide) (by omega)))
  generalize W.tup [.str [115, 101, 116], .int u, .tup [.str [115, 117, 109], .tup [.str [97, 116], .int u], .tup [.str [110, 117, 109, 98, 101, 114], .int 1]]] = M at rM ⊢
  rw [wp_rd (a := [some (.loc 3), some (.int top), some (.int u), some A, some C, some M, none]) rfl, onN_nx, ss_cons, s_asg, w_lst, ws_cons, w_tup, ws_cons, w_str, ws_cons, w_int, ws_nil, if_pos (by unfold LN; simp), wp_ret, ws_cons, w_tup, ws_cons, w_str, ws_cons, w_tup, ws_cons, w_str, ws_cons, w_int, ws_nil, if_pos (by unfold LN; simp), wp_ret, ws_cons, w_int, ws_nil, if_pos (by unfold LN; simp), wp_ret, ws_cons, w_tup, ws_cons, w_str, ws_cons, v2, ws_cons, v3, ws_nil, if_pos (by unfold LN; simp), wp_ret, ws_cons, w_tup, ws_cons, w_str, ws_cons, w_int, ws_nil, if_pos (by unfold LN; simp), wp_ret, ws_cons, w_tup, ws_cons, w_str, ws_cons, v2, ws_cons, v4, ws_nil, if_pos (by unfold LN; simp), wp_ret, ws_nil, if_pos (by unfold LN; simp), wp_alloc]
  generalize hR5 : [W.tup [.str [97, 115, 107], .int 0], .tup [.str [105, 102], .tup [.str [97, 116], .int 0], .int 4], .tup [.str [115, 101, 116], .int u, A], .tup [.str [103, 111], .int 5], .tup [.str [115, 101, 116], .int u, C]] = R5
  have hl5 : R5.length = 5 := by rw [← hR5]; rfl
  have l5 := S5.len
  have e6 : (h5 ++ [O.lst R5])[h5.length]? = some (.lst R5) := new_list
  have S6 : St (h5 ++ [O.lst R5]) := S5.app
  have F6 : Fr h (h5 ++ [O.lst R5]) := F15.trans Fr.app
  have hh5 : h.length ≤ h5.length := F15.1
  generalize h5 ++ [O.lst R5] = h6 at e6 S6 F6 ⊢
  generalize h5.length = l at e6 l5 hh5 ⊢
  rw [wp_rd (a := [some (.loc 3), some (.int top), some (.int u), some A, some C, some M, some (.loc l)]) rfl, onN_nx, ss_cons, s_expr, w_me, v6, knd_app e6, ws_cons, w_idx, w_lst, ws_cons, v5, ws_cons, w_tup, ws_cons, w_str, ws_cons, w_call, ws_cons, v0, ws_cons, w_int, ws_nil, cfg_cf]
  refine w_take (k := k + 6) S6 (by decide) fun h7 a a0 a1 S7 F7 => ?_
  rw [ws_nil, if_pos (by unfold LN; simp), wp_ret, ws_cons, w_call, ws_cons, v0, ws_cons, v1, ws_cons, w_int, ws_cons, w_int, ws_cons, w_int, ws_nil, cfg_cf]
  refine w_flat_row (k := k + 1) (n := 4) (p := 5) (rows := 9) S7 ht (by decide) (by decide) (by decide) fun h8 X rX S8 F8 => ?_
  rw [ws_nil, if_pos (by unfold LN; simp), wp_alloc, w_call, ws_cons, v0, ws_cons, w_int, ws_nil, cfg_cf]
  have l8 := S8.len
  refine w_take (k := k + 6) S8.app (by decide) fun h9 b b0 b1 S9 F9 => ?_
  have e9 := (F9.2 h8.length (by simp) (by omega) (by omega)).trans (new_list (h := h8) (xs := [M, W.tup [.str [97, 115, 107], .int a], X]))
  obtain ⟨X5, hX5, eX5⟩ := pick_at (xs := [M, W.tup [.str [97, 115, 107], .int a], X]) b0 b1
  have r5 : Rw top 4 2 9 5 X5 := by
    simp only [List.mem_cons, List.not_mem_nil, or_false] at hX5
    rcases hX5 with e | e | e
    · rw [e]; exact rM 5 (by decide)
    · rw [e]; exact .ask a0 a1
    · rw [e]; exact rX
  have e69 : h9[l]? = some (.lst R5) := by
    have q1 := lt_of e6
    have q2 := F7.1
    have q3 := F8.1
    rw [F9.2 l (by rw [List.length_append]; omega) (by omega) (by omega), List.getElem?_append_left (by omega), F8.2 l (by omega) (by omega) (by omega), F7.2 l q1 (by omega) (by omega)]
    exact e6
  have F69 : Fr h h9 := F6.trans (F7.trans (F8.trans (Fr.app.trans F9)))
  rw [at_lst (lstAt_of e9) eX5, ws_nil, me_app e69 (by omega), onN_nx]
  have e10 : (h9.set l (.lst (R5 ++ [X5])))[l]? = some (.lst (R5 ++ [X5])) := List.getElem?_set_self (lt_of e69)
  have S10 : St (h9.set l (.lst (R5 ++ [X5]))) := S9.setNew (by omega)
  have F10 : Fr h (h9.set l (.lst (R5 ++ [X5]))) := F69.setNew hh5
  generalize h9.set l (.lst (R5 ++ [X5])) = h10 at e10 S10 F10 ⊢
  rw [ss_cons, s_expr, w_me, v6, knd_app e10, ws_cons, w_idx, w_lst, ws_cons, v5, ws_cons, w_call, ws_cons, v0, ws_cons, v1, ws_cons, w_int, ws_cons, w_int, ws_cons, w_int, ws_nil, cfg_cf]
  refine w_flat_row (k := k + 1) (n := 4) (p := 6) (rows := 9) S10 ht (by decide) (by decide) (by decide) fun h11 Y rY S11 F11 => ?_
  rw [ws_nil, if_pos (by unfold LN; simp), wp_alloc, w_call, ws_cons, v0, ws_cons, w_int, ws_nil, cfg_cf]
  have l11 := S11.len
  refine w_take (k := k + 6) S11.app (by decide) fun h12 c c0 c1 S12 F12 => ?_
  have e12 := (F12.2 h11.length (by simp) (by omega) (by omega)).trans (new_list (h := h11) (xs := [M, Y]))
  obtain ⟨X6, hX6, eX6⟩ := pick_at (xs := [M, Y]) c0 c1
  have r6 : Rw top 4 2 9 6 X6 := by
    simp only [List.mem_cons, List.not_mem_nil, or_false] at hX6
    rcases hX6 with e | e
    · rw [e]; exact rM 6 (by decide)
    · rw [e]; exact rY
  have e1012 : h12[l]? = some (.lst (R5 ++ [X5])) := by
    have q1 := lt_of e10
    have q3 := F11.1
    rw [F12.2 l (by rw [List.length_append]; omega) (by omega) (by omega), List.getElem?_append_left (by omega), F11.2 l q1 (by omega) (by omega)]
    exact e10
  have F1012 : Fr h h12 := F10.trans (F11.trans (Fr.app.trans F12))
  rw [at_lst (lstAt_of e12) eX6, ws_nil, me_app e1012 (by rw [List.length_append, hl5]; simp), onN_nx]
  have e13 : (h12.set l (.lst (R5 ++ [X5] ++ [X6])))[l]? = some (.lst (R5 ++ [X5] ++ [X6])) := List.getElem?_set_self (lt_of e1012)
  have S13 : St (h12.set l (.lst (R5 ++ [X5] ++ [X6]))) := S12.setNew (by omega)
  have F13 : Fr h (h12.set l (.lst (R5 ++ [X5] ++ [X6]))) := F1012.setNew hh5
  generalize h12.set l (.lst (R5 ++ [X5] ++ [X6])) = h13 at e13 S13 F13 ⊢
  rw [ss_cons, s_expr, w_me, v6, knd_app e13, ws_cons, w_tup, ws_cons, w_str, ws_cons, w_call, ws_cons, v0, ws_cons, v1, ws_cons, w_lst, ws_cons, w_int, ws_cons, w_int, ws_cons, w_int, ws_cons, w_int, ws_nil, if_pos (by unfold LN; simp), wp_alloc, ws_cons, w_int, ws_nil, cfg_cf]
  refine w_reck4 (k := k + 2) (c0 := 1) (.inl rfl) ht S13 fun h14 D rD S14 F14 => ?_
  have e1314 : h14[l]? = some (.lst (R5 ++ [X5] ++ [X6])) := (F14.2 l (lt_of e13) (by omega) (by omega)).trans e13
  have F1314 : Fr h h14 := F13.trans F14
  rw [ws_nil, if_pos (by unfold LN; simp), wp_ret, ws_nil, me_app e1314 (by rw [List.length_append, List.length_append, hl5]; simp), onN_nx]
  have e15 : (h14.set l (.lst (R5 ++ [X5] ++ [X6] ++ [.tup [.str [116, 101, 108, 108], D]])))[l]? = some (.lst (R5 ++ [X5] ++ [X6] ++ [.tup [.str [116, 101, 108, 108], D]])) := List.getElem?_set_self (lt_of e1314)
  have S15 : St (h14.set l (.lst (R5 ++ [X5] ++ [X6] ++ [.tup [.str [116, 101, 108, 108], D]]))) := S14.setNew (by omega)
  have F15' : Fr h (h14.set l (.lst (R5 ++ [X5] ++ [X6] ++ [.tup [.str [116, 101, 108, 108], D]]))) := F1314.setNew hh5
  generalize h14.set l (.lst (R5 ++ [X5] ++ [X6] ++ [.tup [.str [116, 101, 108, 108], D]])) = h15 at e15 S15 F15' ⊢
  rw [ss_cons, s_expr, w_me, v6, knd_app e15, ws_cons, w_idx, w_lst, ws_cons, w_tup, ws_cons, w_str, ws_nil, if_pos (by unfold LN; simp), wp_ret, ws_cons, w_tup, ws_cons, w_str, ws_cons, w_call, ws_cons, v0, ws_cons, w_int, ws_nil, cfg_cf]
  refine w_take (k := k + 6) S15 (by decide) fun h16 g g0 g1 S16 F16 => ?_
  rw [ws_nil, if_pos (by unfold LN; simp), wp_ret, ws_nil, if_pos (by unfold LN; simp), wp_alloc, w_call, ws_cons, v0, ws_cons, w_int, ws_nil, cfg_cf]
  have l16 := S16.len
  refine w_take (k := k + 6) S16.app (by decide) fun h17 f f0 f1 S17 F17 => ?_
  have e17 := (F17.2 h16.length (by simp) (by omega) (by omega)).trans (new_list (h := h16) (xs := [W.tup [.str [101, 110, 100]], W.tup [.str [103, 111], .int g]]))
  obtain ⟨X8, eX8, r8, lw8⟩ : ∃ X8, MI.atI [W.tup [.str [101, 110, 100]], W.tup [.str [103, 111], .int g]] f = some X8 ∧ Rw top 4 2 9 8 X8 ∧ ∃ lw lr, X8 = .tup (.str lw :: lr) ∧ lastOk lw = true := by
    have hf : f = 0 ∨ f = 1 := by omega
    rcases hf with z | z
    · subst z; exact ⟨_, ai0, .stop, _, _, rfl, rfl⟩
    · subst z; exact ⟨_, ai1, .go g0 g1, _, _, rfl, rfl⟩
  have e1517 : h17[l]? = some (.lst (R5 ++ [X5] ++ [X6] ++ [.tup [.str [116, 101, 108, 108], D]])) := by
    have q1 := lt_of e15
    have q3 := F16.1
    rw [F17.2 l (by rw [List.length_append]; omega) (by omega) (by omega), List.getElem?_append_left (by omega), F16.2 l q1 (by omega) (by omega)]
    exact e15
  have F1517 : Fr h h17 := F15'.trans (F16.trans (Fr.app.trans F17))
  rw [at_lst (lstAt_of e17) eX8, ws_nil, me_app e1517 (by rw [List.length_append, List.length_append, List.length_append, hl5]; simp), onN_nx]
  have e18 : (h17.set l (.lst (R5 ++ [X5] ++ [X6] ++ [.tup [.str [116, 101, 108, 108], D]] ++ [X8])))[l]? = some (.lst (R5 ++ [X5] ++ [X6] ++ [.tup [.str [116, 101, 108, 108], D]] ++ [X8])) := List.getElem?_set_self (lt_of e1517)
  have S18 : St (h17.set l (.lst (R5 ++ [X5] ++ [X6] ++ [.tup [.str [116, 101, 108, 108], D]] ++ [X8]))) := S17.setNew (by omega)
  have F18 : Fr h (h17.set l (.lst (R5 ++ [X5] ++ [X6] ++ [.tup [.str [116, 101, 108, 108], D]] ++ [X8]))) := F1517.setNew hh5
  generalize h17.set l (.lst (R5 ++ [X5] ++ [X6] ++ [.tup [.str [116, 101, 108, 108], D]] ++ [X8])) = h18 at e18 S18 F18 ⊢
  rw [ss_cons, s_ret, w_tup, ws_cons, v1, ws_cons, w_int, ws_cons, w_bi, ws_cons, v6, ws_nil, bi_tupL (lstAt_of e18), wp_outL, ws_nil, if_pos (by unfold LN; simp), wp_ret, onN_rt]
  have P : PrgOk top 4 (R5 ++ [X5] ++ [X6] ++ [.tup [.str [116, 101, 108, 108], D]] ++ [X8]) := by
    obtain ⟨lw, lrr, eX, hlw⟩ := lw8
    rw [← hR5]
    refine ⟨ht, by decide, by simp, fun i w ew => ?_, lw, lrr, ?_, hlw⟩
    · show Rw top 4 2 9 i w
      have hi : i < 9 := (List.getElem?_eq_some_iff.mp ew).1
      match i, hi, ew with
      | 0, _, ew => cases ew; exact .ask (by decide) (by decide)
      | 1, _, ew => cases ew; exact .if_ (.at_ (by decide) (by decide)) (by decide) (by decide) (by decide)
      | 2, _, ew => cases ew; exact .set u0 u1 rA
      | 3, _, ew => cases ew; exact .go (by decide) (by decide)
      | 4, _, ew => cases ew; exact .set u0 u1 rC
      | 5, _, ew => cases ew; exact r5
      | 6, _, ew => cases ew; exact r6
      | 7, _, ew => cases ew; exact .tell rD
      | 8, _, ew => cases ew; exact r8
    · rw [eX]; rfl
  obtain ⟨s, rs, es, er, FF⟩ := prg_flf P
  have es : s = 4 := by omega
  subst es
  rw [er]
  exact q _ top 4 rs FF S18 F18
theorem w_law_flats (S : St h) (q : ∀ h' l xs, St h' → Fr h h' → h'[l]? = some (.lst xs) → h.length ≤ l → (∀ w ∈ xs, FlW w) → xs.length = 2 → Q (.loc l) h') : wp (callF G (k + 9) "_law_flats" [.loc 3]) Q E h := by
  rw [w_def df_law_flats rfl]
  show wp (evSs _ ir_law_flats [some (.loc 3), none]) _ _ h
  unfold ir_law_flats
  rw [ss_cons, s_asg, w_call, ws_cons, v0, ws_cons, w_int, ws_nil, cfg_cf]
  refine w_take (k := k + 7) S (by decide) fun h1 v v0' v1' S1 F1 => ?_
  rw [wp_rd (a := [some (.loc 3), some (.int v)]) rfl, onN_nx, ss_cons, s_ret, w_lst, ws_cons, w_call, ws_cons, v0, ws_cons, w_int, ws_cons, w_int, ws_nil, cfg_cf]
  refine w_flatW (k := k + 1) (by decide) (by decide) S1 fun h2 top s rs F S2 F2 => ?_
  have fin : ∀ h3 top2 s2 rs2, FlF top2 s2 2 rs2 → St h3 → Fr h2 h3 → Q (.loc h3.length) (h3 ++ [.lst [fltW top s rs, fltW top2 s2 rs2]]) := fun h3 top2 s2 rs2 FF S3 F3 => q _ _ _ S3.app ((F1.trans (F2.trans F3)).trans Fr.app) new_list (F1.trans (F2.trans F3)).1 (fun w hw => by
    rcases List.mem_cons.mp hw with z | z
    · exact ⟨top, s, rs, z, F⟩
    · exact ⟨top2, s2, rs2, List.mem_singleton.mp z, FF⟩) rfl
  rw [ws_cons, w_ite, w_cmp, v1, w_int, c_eqI, t_bl]
  by_cases c : (v == 2) = true
  · rw [if_pos c, w_call, ws_cons, v0, ws_cons, w_int, ws_cons, w_int, ws_nil, cfg_cf]
    refine w_flatW (k := k + 1) (by decide) (by decide) S2 fun h3 top2 s2 rs2 FF S3 F3 => ?_
    rw [ws_nil, if_pos (by unfold LN; simp), wp_alloc, onN_rt]
    exact fin h3 top2 s2 rs2 FF S3 F3
  · rw [if_neg c, w_call, ws_cons, v0, ws_nil, cfg_cf]
    refine w_forked (k := k) S2 fun h3 top2 s2 rs2 FF S3 F3 => ?_
    rw [ws_nil, if_pos (by unfold LN; simp), wp_alloc, onN_rt]
    exact fin h3 top2 s2 rs2 FF S3 F3
end
end K
/-! N9: the law k52. -/
namespace K
open MI HK
section
variable {k n d : Nat} {h : AH} {Q : W → AH → Prop} {E : Nm → AH → Prop} {top : Int} {t : T} {rs ms : List Row} {s p x j i l : Nat}
theorem fnd_due {F : List (List Nat)} (FL : FlF top s d rs) (W : WI rs s F) (X : ∀ j, j < rs.length → Fix rs F j) : F = (List.range rs.length).map (dueL rs s) := by
  apply List.ext_getElem?
  intro i
  by_cases c : i < rs.length
  · obtain ⟨ks, ek⟩ : ∃ ks, F[i]? = some ks := ⟨_, List.getElem?_eq_getElem (by rw [W.n]; exact c)⟩
    rw [ek, List.getElem?_map, List.getElem?_range c]
    obtain ⟨o1, o2⟩ := W.o i ks ek
    congr 1
    refine sl_eq o1 due_strict fun v => ?_
    rw [due_mem]
    exact ⟨fun hv => ⟨(o2 v hv).1, (o2 v hv).2.1⟩, fun z => fix_wa W (fun j r e => FL.lt e) X z.2 ks ek⟩
  · rw [List.getElem?_eq_none (by rw [W.n]; omega), List.getElem?_eq_none (by rw [List.length_map, List.length_range]; omega)]
theorem sz_fnd {F : List (List Nat)} (hs : s ≤ 60) (hn : rs.length ≤ 200) (W : WI rs s F) : Shw (.tup (fndW F)) := by
  refine Sz.shw (d := 2) (B := 504200) ?_ (by omega) (by omega)
  refine sz_tup (d := 1) (B := 2520) (n := 200) (fun w hw => ?_) (by unfold fndW; rw [List.length_map, W.n]; exact hn) (by omega)
  obtain ⟨ks, hk, e⟩ := List.mem_map.mp hw
  obtain ⟨j, hj, ej⟩ := List.getElem_of_mem hk
  obtain ⟨o1, o2⟩ := W.o j ks (by rw [List.getElem?_eq_getElem hj, ej])
  rw [← e]
  have hl := sl_len o1 fun v hv => (o2 v hv).1
  refine sz_tup (d := 0) (B := 41) (n := 60) (fun w hw => ?_) (by rw [natsW_len]; omega) (by omega)
  obtain ⟨v, hv, e⟩ := List.mem_map.mp hw
  rw [← e]
  have := (o2 v hv).1
  exact ⟨int_sml (by omega), Nat.zero_le _, Nat.le_refl _⟩
abbrev LE5 (a1 a2 a3 a4 a5 : Option W) : Env := [some (.loc 0), a1, a2, a3, a4, a5]
def k52In : Ss := (.cons (.asg (.one 4) (.bi .tuple (.cons (.comp (.bi .tuple (.cons (.var 5) .nil)) (.one 5) (.val (.call "_law_wanted" (.cons (.var 3) .nil))) .nil [5]) .nil)))
    (.cons (.if_ (.cmp .ne (.bi .repr (.cons (.call "wanted_at" (.cons (.var 3) .nil)) .nil)) (.bi .repr (.cons (.var 4) .nil))) (.cons (.ret (.bl false))
    .nil) .nil)
    .nil))
theorem w_k52In {c1 c2 c4 : Option W} {Q : Fl → AH → Prop} (F : FlF top s 2 rs) (q : ∀ h' c4, Kp h h' → Q (.nx (LE5 c1 c2 (some (fltW top s rs)) c4 none)) h') :
    wp (evSs (cfg G (k + 28)) k52In (LE5 c1 c2 (some (fltW top s rs)) c4 none)) Q E h := by
  have hn := F.n
  have hs := F.s
  unfold k52In
  rw [ss_cons, s_asg, w_bi, ws_cons, w_comp, wi_val, w_call, ws_cons, v3, ws_nil, cfg_cf]
  refine w_law_wanted (k := k + 22) F fun h1 lf b kp1 L => ?_
  rw [it_lst L.a]
  dsimp only [wipeE, List.set]
  have hll : (locs b rs.length).length = rs.length := by unfold locs; rw [List.length_map, List.length_range]
  have step := compN_inv (test := evT (cfg G (k + 28)) .nil) (elt := evE (cfg G (k + 28)) (.bi .tuple (.cons (.var 5) .nil))) (t := .one 5) (s := LE5 c1 c2 (some (fltW top s rs)) c4 none) (J := .lst lf) (ws := locs b rs.length)
    (P := fun i acc h2 => h2 = h1 ∧ acc = fndW ((List.range i).map (dueL rs s))) (E := fun _ _ => False) (fun i acc h2 hp => by rw [hp.1]; exact item_lst L.a) (fun i acc h2 w hp hi => ?_) ((It.lst lf).fuel) 0 [] h1 (by show (locs b rs.length).length + 1 ≤ LN + 1 + 0; rw [hll]; unfold LN; omega) (Nat.zero_le _) ⟨rfl, rfl⟩
  · refine wp_mono step (fun acc h4 hx => ?_) fun _ _ z => z.elim
    obtain ⟨e1, e2⟩ := hx
    subst e1 e2
    rw [hll, ws_nil, bi_tupL lstAt_new, wp_outL]
    have kp2 : Kp h (h4 ++ [O.lst (fndW ((List.range rs.length).map (dueL rs s)))]) := kp1.more
    generalize h4 ++ [O.lst (fndW ((List.range rs.length).map (dueL rs s)))] = h5 at kp2 ⊢
    rw [wp_rd (a := LE5 c1 c2 (some (fltW top s rs)) (some (.tup (fndW ((List.range rs.length).map (dueL rs s))))) none) rfl, onN_nx, ss_cons, s_if, w_cmp, w_bi, ws_cons, w_call, ws_cons, v3, ws_nil, cfg_cf]
    refine w_wanted_at (k := k + 1) F fun h6 FF kp6 WW X => ?_
    have eF := fnd_due F WW X
    have sz := sz_fnd hs.2 hn.2 WW
    rw [eF] at sz ⊢
    rw [ws_nil, bi_repr_ sz, wp_outL, w_bi, ws_cons, v4, ws_nil, bi_repr_ sz, wp_outL, c_neS, t_bl, beq_self_eq_true, if_neg (by decide), ss_nil, onN_nx, ss_nil]
    exact q _ _ (kp2.trans kp6)
  · obtain ⟨e1, e2⟩ := hp
    subst e1 e2
    have hil := (List.getElem?_eq_some_iff.mp hi).1
    rw [hll] at hil
    rw [locs_at hil] at hi
    cases hi
    refine ⟨by unfold fndW; rw [List.length_map, List.length_map, List.length_range]; unfold LN; omega, LE5 c1 c2 (some (fltW top s rs)) c4 (some (.loc (b + i))), rfl, ?_⟩
    rw [wt_nil, if_pos rfl, w_bi, ws_cons, w_var rfl, ws_nil, bi_tupL (lstAt_of (L.l i hil)), wp_outL]
    refine ⟨rfl, ?_⟩
    rw [List.range_succ, List.map_append]
    unfold fndW
    rw [List.map_append]
    rfl
theorem w_law {ns : List Int} (hn : ns.length ≤ 63) : wp (callF G 200 "law" [.loc 0]) (fun w _ => w = .bl true) (fun _ _ => False) [.frl (ns.map .int)] := by
  show wp (callF G (199 + 1) "law" [.loc 0]) _ _ _
  rw [w_def df_law rfl]
  show wp (evSs (cfg G 199) (.cons (.asg (.one 1) (.call "_law_begun" (.cons (.var 0) .nil)))
    (.cons (.asg (.one 2) (.call "_law_flats" (.cons (.var 1) .nil)))
    (.cons (.if_ (.cmp .eq (.call "_law_take" (.cons (.var 1) (.cons (.int 16) .nil))) (.int 1)) (.cons (.expr (.me .append (.var 2) (.cons (.call "_law_great" (.cons (.var 1) .nil)) .nil)))
    .nil) .nil)
    (.cons (.for_ (.one 3) (.val (.bin .add (.var 2) (.slc (.var 2) .non (.int 1)))) k52In)
    (.cons (.ret (.bl true))
    .nil))))) (LE5 none none none none none)) _ _ _
  rw [ss_cons, s_asg, w_call, ws_cons, v0, ws_nil, cfg_cf]
  refine w_begun (k := 198) hn fun h1 S1 l1 => ?_
  rw [wp_rd (a := LE5 (some (.loc 3)) none none none none) rfl, onN_nx, ss_cons, s_asg, w_call, ws_cons, v1, ws_nil, cfg_cf]
  refine w_law_flats (k := 190) S1 fun h2 l xs S2 F2 e2 hl2 fx hx => ?_
  have l1' := S1.len
  rw [wp_rd (a := LE5 (some (.loc 3)) (some (.loc l)) none none none) rfl, onN_nx, ss_cons, s_if, w_cmp, w_call, ws_cons, v1, ws_cons, w_int, ws_nil, cfg_cf]
  refine w_take (k := 198) S2 (by decide) fun h3 v v0' v1' S3 F3 => ?_
  have e3 := (F3.2 l (lt_of e2) (by omega) (by omega)).trans e2
  have rest : ∀ h4 (ys : List W), h4[l]? = some (.lst ys) → (∀ w ∈ ys, FlW w) → ys.length ≤ 3 → wp (evSs (cfg G 199) (.cons (.for_ (.one 3) (.val (.bin .add (.var 2) (.slc (.var 2) .non (.int 1)))) k52In) (.cons (.ret (.bl true)) .nil)) (LE5 (some (.loc 3)) (some (.loc l)) none none none)) (fun o h' => match o with
      | .nx _ => (W.non = .bl true)
      | .rt w => w = .bl true
      | .xn c _ => False
      | _ => False) (fun _ _ => False) h4 := by
    intro h4 ys e4 fy hy
    rw [ss_cons, s_for, wi_val, w_bin, v2, w_slc, v2, p_non, p_int, w_int]
    dsimp only
    have sl : ∀ {Q : Sum W O → AH → Prop} {E : Nm → AH → Prop}, wp (rdO fun h => slcH h none (some 1) (.loc l)) Q E h4 = Q (.inr (.lst (cutL ys none (some 1)))) h4 := fun {Q E} => wp_rd (by
      unfold slcH
      dsimp only
      rw [lstAt_of e4])
    rw [wp_ret, sl, wp_outR]
    have ec : cutL ys none (some 1) = ys.take 1 := cutL_to (i := 1)
    rw [ec, b_lst (app_get e4) new_list (by rw [List.length_take]; omega), wp_outR]
    have ez : (h4 ++ [O.lst (ys.take 1)] ++ [O.lst (ys ++ ys.take 1)])[(h4 ++ [O.lst (ys.take 1)]).length]? = some (.lst (ys ++ ys.take 1)) := new_list
    rw [it_lst ez]
    refine forN_inv (ws := ys ++ ys.take 1) (P := fun i s' h6 => (∃ c3 c4, s' = LE5 (some (.loc 3)) (some (.loc l)) c3 c4 none) ∧ h6[(h4 ++ [O.lst (ys.take 1)]).length]? = some (.lst (ys ++ ys.take 1))) (fun i s' h6 hq => item_lst hq.2) (fun i s' h6 w hq hi => ?_) (fun s' h6 hq => ?_) _ 0 _ _ (by show (ys ++ ys.take 1).length + 1 ≤ LN + 1 + 0; rw [List.length_append, List.length_take]; unfold LN; omega) (Nat.zero_le _) ⟨⟨_, _, rfl⟩, ez⟩
    · obtain ⟨⟨c3, c4, es⟩, ez6⟩ := hq
      subst es
      obtain ⟨top, s, rs, ew, F⟩ : FlW w := by
        rcases List.mem_append.mp (List.mem_of_getElem? hi) with z | z
        · exact fy w z
        · exact fy w (List.mem_of_mem_take z)
      subst ew
      refine ⟨LE5 (some (.loc 3)) (some (.loc l)) (some (fltW top s rs)) c4 none, rfl, ?_⟩
      exact w_k52In (k := 171) F fun h7 c4 kp7 => ⟨⟨_, _, rfl⟩, (kp7.2 _ (lt_of ez6)).trans ez6⟩
    · obtain ⟨⟨c3, c4, es⟩, ez6⟩ := hq
      subst es
      rw [onN_nx, ss_cons, s_ret, w_bl, onN_rt]
  rw [w_int, c_eqI, t_bl]
  by_cases c : (v == 1) = true
  · rw [if_pos c, ss_cons, s_expr, w_me, v2, knd_app e3, ws_cons, w_call, ws_cons, v1, ws_nil, cfg_cf]
    refine w_great (k := 191) S3 fun h4 top s rs F S4 F4 => ?_
    have e4 := (F4.2 l (lt_of e3) (by omega) (by omega)).trans e3
    rw [ws_nil, me_app e4 (by omega), onN_nx, ss_nil, onN_nx]
    exact rest _ (xs ++ [fltW top s rs]) (List.getElem?_set_self (lt_of e4)) (fun w hw => by
      rcases List.mem_append.mp hw with z | z
      · exact fx w z
      · exact ⟨top, s, rs, List.mem_singleton.mp z, F⟩) (by rw [List.length_append, hx]; simp)
  · rw [if_neg c, ss_nil, onN_nx]
    exact rest h3 xs e3 fx (by omega)
theorem hrun {ns : List Int} (hn : ns.length ≤ 63) : ∃ h', callF HK.law.gam 200 "law" [.loc 0] [.frl (ns.map .int)] = .ok (.bl true) h' := by
  obtain ⟨a, h', e, ea⟩ := wp_out (w_law hn)
  exact ⟨h', by rw [e, ea]⟩
end
end K
theorem PySem.Challenge.cw_askthrough_k52_wanted_told_holds : PySem.Challenge.rw_askthrough_k52_wanted_told.Holds := by
  exact hk_holds fun ns hn => K.hrun hn
