import PyProof.Rows.All
import Wide.All
import OpenK.AllK
import Wide.FinOn
import HandS.ForMost
import HandS.ForExc
import HandS.Flow
import HandS.Lambda
import HandS.HeadHook4
import HandS.HeadWalk
import HandS.HeadEnd
import HandS.Wide
import HandS.WideBits
import HandS.EndTab
import HandS.Conv
import HandS.SortRule
import HandS.TupMul
import HandS.Small
import HandS.ExcIs
import HandS.ExcField
import HandS.TupAny
import HandS.Deep
import HandS.IsInst
import HandS.RaiseMore
import HandS.Style
import KE.KExcSuper
import KE.KStateDown
import HandS.Words
import HandS.WordsExc
import HandS.Head0
import HandS.Head1
import HandS.Head2
import PySem.Challenge.RW_carryfloors_k02_whole_floors_and_degrees
set_option Elab.async false
set_option linter.all false
set_option maxRecDepth 100000
set_option maxHeartbeats 4000000
/-! MPa: the mini interpreter: values, cells, trees, terms, evaluation. -/
namespace MP
open PySem

/-- a value: immutable things as trees; ref: a cell of the small heap; kls, kdc: a list, a dict that is never written -/
inductive IV where
  | non | bl (b : Bool) | int (i : Int) | str (x : Str) | tup (xs : List IV) | kls (xs : List IV) | ref (a : Nat) | err | act | kdc (ks : List L2.Key) (vs : List IV)
/-- what stands in a cell -/
inductive Cell where
  | lst (xs : List IV)
  | ins (c : Nat) (fs : List (Nat × IV))
  | dct (kvs : List (L2.Key × IV))
abbrev Hpi := List Cell
/-- an error in flight: its class, what it keeps -/
structure Exn where
  c : Nat
  v : IV
inductive Res where
  | ok (v : IV) (h : Hpi)
  | ex (e : Exn) (h : Hpi)
/-- a run up to its next call -/
inductive Tree where
  | stuck
  | done (r : Res)
  | call (f : Nat) (args : List IV) (h : Hpi) (k : Res → Tree)
abbrev Loc := List (Option IV)
abbrev KV := IV → Hpi → Tree
abbrev KVs := List IV → Hpi → Tree
abbrev KX := Exn → Hpi → Tree

def optT {α : Type} (o : Option α) (k : α → Tree) : Tree := match o with
  | some a => k a
  | none => .stuck
def optMap {α β : Type} (f : α → Option β) : List α → Option (List β)
  | [] => some []
  | x :: xs => match f x with
    | some y => match optMap f xs with
      | some ys => some (y :: ys)
      | none => none
    | none => none

/-! ### data -/
def toD (h : Hpi) : Nat → IV → Option PyData
  | _, .non => some .none
  | _, .bl b => some (.bool b)
  | _, .int i => some (.int i)
  | _, .str x => some (.str x)
  | _, .err => none
  | _, .act => none
  | _, .kdc _ _ => none
  | 0, _ => none
  | n + 1, .tup xs => match optMap (toD h n) xs with
    | some ds => some (.tuple ds)
    | none => none
  | n + 1, .kls xs => match optMap (toD h n) xs with
    | some ds => some (.list ds)
    | none => none
  | n + 1, .ref a => match h[a]? with
    | some (.lst xs) => match optMap (toD h n) xs with
      | some ds => some (.list ds)
      | none => none
    | _ => none
def eqIV (h : Hpi) (x y : IV) : Option Bool := match toD h 60 x, toD h 60 y with
  | some d, some e => if SeqAt.shaped d && SeqAt.shaped e then some (PyData.eqv d e) else none
  | _, _ => none
def sizeOk (n : Nat) : Bool := decide (n ≤ 16777216)

/-! ### the terms -/
inductive Bop where
  | add | sub | mul | fdiv | mod | pow
  deriving DecidableEq
inductive Cop where
  | eq | ne | lt | le | gt | ge | isN | notN | inn | nin
  deriving DecidableEq
/-- a class as isinstance takes it: a built-in type or an own class -/
inductive Ty where
  | int | bool | str | tuple | list | dict | cls (c : Nat)
  deriving DecidableEq
inductive Bi where
  | len | abs | max | min | int | all | tuple | list | isi (t : Ty) | divmod | repr | sorted
  deriving DecidableEq
inductive Mt where
  | append | pop | popAt | extend | lindex | lcount | tindex | split | join
  deriving DecidableEq
mutual
inductive ME where
  | var (i : Nat)
  | cint (i : Int)
  | cstr (x : Str)
  | cbool (b : Bool)
  | cnon
  | glob (g : Nat)
  | bin (op : Bop) (a b : ME)
  | neg (a : ME)
  | not (a : ME)
  | and (a b : ME)
  | or (a b : ME)
  | cmp (op : Cop) (a b : ME)
  | chain (op1 op2 : Cop) (a b c : ME)
  | ite (c a b : ME)
  | tup (es : List ME)
  | lst (es : List ME)
  | idx (a i : ME)
  | attr (a : ME) (f : Nat)
  | call (f : Nat) (es kes : List ME) (perm : List Nat)
  | bcall (b : Bi) (es : List ME)
  | meth (o : ME) (m : Mt) (es : List ME)
  | comp (elt : ME) (tg : MT) (it : MI) (ifs : List ME) (own : List Nat)
  | slice (a : ME) (lo hi : Option ME)
  | act (i : Nat)
  | lam (f : Nat) (b : ME)
  | efld (i f : Nat)
  | eisi (i c : Nat)
  | dead
  | dct (es : List ME)
  | lrng (b : ME)
inductive MT where
  | name (i : Nat)
  | tup (ts : List MT)
  | attr (o : ME) (f : Nat)
  | idx (o i : ME)
inductive MI where
  | val (e : ME)
  | rng1 (b : ME)
  | rng2 (a b : ME)
end
inductive MS where
  | asg (t : MT) (e : ME)
  | expr (e : ME)
  | ret (e : ME)
  | ifs (c : ME) (a b : List MS)
  | forr (t : MT) (it : MI) (body : List MS)
  | whl (c : ME) (body : List MS)
  | brk | cnt | pass
  | raise (c : Nat) (e : ME)
  | par (ts : List Nat) (es : List ME)
  | tryx (c i : Nat) (body hd : List MS)
  | dead

/-- a def: its number of slots, of parameters, its body -/
structure MDef where
  slots : Nat
  params : Nat
  body : List MS
/-! ### operations by values -/
def okMul (i j : Int) : Bool := (decide (-(2 ^ 64) < i) && decide (i < 2 ^ 64)) || (decide (-(2 ^ 64) < j) && decide (j < 2 ^ 64)) || decide (i.natAbs.log2 + j.natAbs.log2 < 1000000)
def okDiv (j : Int) : Bool := decide (0 < j) && (decide (j < 1073741824) || decide (j.natAbs.log2 < 9000))
def rep (n : Nat) (xs : List IV) : List IV := match n with
  | 0 => []
  | n + 1 => xs ++ rep n xs
def binIV (op : Bop) (x y : IV) (h : Hpi) : Option (IV × Hpi) := match op, x, y with
  | .add, .int i, .int j => some (.int (i + j), h)
  | .sub, .int i, .int j => some (.int (i - j), h)
  | .mul, .int i, .int j => if okMul i j then some (.int (i * j), h) else none
  | .fdiv, .int i, .int j => if okDiv j then some (.int (i / j), h) else none
  | .mod, .int i, .int j => if decide (0 < j) then some (.int (i % j), h) else none
  | .pow, .int i, .int j => if decide (0 ≤ j) && decide (j ≤ 1000000) && decide (i.natAbs < 2 ^ 64) then some (.int (i ^ j.toNat), h) else none
  | .add, .str a, .str b => if sizeOk (a.length + b.length) then some (.str (a ++ b), h) else none
  | .add, .tup a, .tup b => if sizeOk (a.length + b.length) then some (.tup (a ++ b), h) else none
  | .add, .ref a, .ref b => match h[a]?, h[b]? with
    | some (.lst xs), some (.lst ys) => if sizeOk (xs.length + ys.length) then some (.ref h.length, h ++ [.lst (xs ++ ys)]) else none
    | _, _ => none
  | .mul, .tup a, .int k => if k = 1 then some (.tup a, h) else if !a.isEmpty && (decide (2 ≤ k) && (decide (k ≤ 1000) && decide (a.length ≤ 1000))) then some (.tup (List.replicate k.toNat a).flatten, h) else none
  | .mul, .ref a, .int k => match h[a]? with
    | some (.lst xs) => if (decide (-(2 ^ 63) ≤ k) && decide (k < 2 ^ 63)) && sizeOk (xs.length * k.toNat) then some (.ref h.length, h ++ [.lst (List.replicate k.toNat xs).flatten]) else none
    | _ => none
  | _, _, _ => none
/-! dicts -/
def keyIV : IV → Option L2.Key
  | .int i => some (.inl i)
  | .str x => some (.inr x)
  | _ => none
def lookK (k : L2.Key) : List (L2.Key × IV) → Option IV
  | [] => none
  | (g, v) :: r => if g = k then some v else lookK k r
def putI (kvs : List (L2.Key × IV)) (k : L2.Key) (v : IV) : List (L2.Key × IV) :=
  if (kvs.any fun kv => decide (kv.1 = k)) = true then kvs.map (fun kv => if kv.1 = k then (kv.1, v) else kv) else kvs ++ [(k, v)]
def dictIV (y : IV) (h : Hpi) : Option (List (L2.Key × IV)) := match y with
  | .kdc ks vs => some (ks.zip vs)
  | .ref a => match h[a]? with
    | some (.dct kvs) => some kvs
    | _ => none
  | _ => none
/-- keys and values in turn -/
def pairsK : List IV → Option (List (L2.Key × IV))
  | [] => some []
  | k :: v :: r => match keyIV k with
    | some g => match pairsK r with
      | some t => some ((g, v) :: t)
      | none => none
    | none => none
  | _ => none
/-- whether x is among a list's items, or a dict's keys -/
def inIV (h : Hpi) (x y : IV) : Option Bool := match dictIV y h with
  | some kvs => match keyIV x with
    | some k => some (lookK k kvs).isSome
    | none => none
  | none => match toD h 60 x, toD h 60 y with
    | some d, some (.list ds) => if SeqAt.shaped d && SeqAt.shaped (.list ds) then some (ds.any fun z => PyData.eqv z d) else none
    | _, _ => none
/-! pairs of ints, sorted -/
def pairII : IV → Option (Int × Int)
  | .tup [.int i, .int j] => some (i, j)
  | _ => none
def leII (p q : Int × Int) : Bool := decide (p.1 < q.1) || (decide (p.1 = q.1) && decide (p.2 ≤ q.2))
def insII (p : Int × Int) : List (Int × Int) → List (Int × Int)
  | [] => [p]
  | q :: r => if leII p q then p :: q :: r else q :: insII p r
def srtII : List (Int × Int) → List (Int × Int)
  | [] => []
  | p :: r => insII p (srtII r)
def ivII (p : Int × Int) : IV := .tup [.int p.1, .int p.2]
/-- a piece of a list -/
def cutI {α : Type} (xs : List α) (lo hi : Option Int) : List α := (xs.drop (HT.sIx xs.length 0 lo)).take (HT.sIx xs.length xs.length hi - HT.sIx xs.length 0 lo)
def cmpIV (op : Cop) (x y : IV) (h : Hpi) : Option Bool := match op with
  | .eq => eqIV h x y
  | .ne => (eqIV h x y).map not
  | .isN => match y with
    | .non => match x with
      | .non => some true
      | _ => some false
    | _ => none
  | .notN => match y with
    | .non => match x with
      | .non => some false
      | _ => some true
    | _ => none
  | .lt => match x, y with
    | .int i, .int j => some (decide (i < j))
    | _, _ => none
  | .le => match x, y with
    | .int i, .int j => some (decide (i ≤ j))
    | _, _ => none
  | .gt => match x, y with
    | .int i, .int j => some (decide (j < i))
    | _, _ => none
  | .ge => match x, y with
    | .int i, .int j => some (decide (j ≤ i))
    | _, _ => none
  | .inn => inIV h x y
  | .nin => (inIV h x y).map not
def truIV (x : IV) (h : Hpi) : Option Bool := match x with
  | .non => some false
  | .bl b => some b
  | .int i => some (i != 0)
  | .str y => if sizeOk y.length then some ((y.length : Int) != 0) else none
  | .tup xs => some (!xs.isEmpty)
  | .kls xs => some (!xs.isEmpty)
  | .ref a => match h[a]? with
    | some (.lst xs) => some (!xs.isEmpty)
    | _ => none
  | .err => none
  | .act => none
  | .kdc _ _ => none
def lenIV (x : IV) (h : Hpi) : Option Nat := match x with
  | .str y => if sizeOk y.length then some y.length else none
  | .tup xs => some xs.length
  | .kls xs => some xs.length
  | .ref a => match h[a]? with
    | some (.lst xs) => some xs.length
    | _ => none
  | _ => none
def itemsIV (x : IV) (h : Hpi) : Option (List IV) := match x with
  | .tup xs => some xs
  | .kls xs => some xs
  | .ref a => match h[a]? with
    | some (.lst xs) => some xs
    | _ => none
  | _ => none
end MP
set_option maxRecDepth 100000
set_option maxHeartbeats 4000000
/-! MPb: the evaluator. -/
namespace MP
open PySem
/-- act: what the call of the handed lambda does; ct: the module's constants -/
structure Cfg where
  act : Hpi → KV → KX → Tree
  ct : List IV
  oka : Nat → Nat → Bool
  xf : Nat → Option Nat
  sub : Nat → Nat → Option Bool
  err : Option Exn
  hp : Nat → Option MDef
/-- what a module's runs lean on -/
structure Env1 where
  ct : List IV
  oka : Nat → Nat → Bool
  xf : Nat → Option Nat
  sub : Nat → Nat → Option Bool
  hp : Nat → Option MDef
def Cfg.no (V : Env1) : Cfg := ⟨fun _ _ _ => .stuck, V.ct, V.oka, V.xf, V.sub, none, V.hp⟩
mutual
def noErr : IV → Bool
  | .err => false
  | .tup xs => noErrs xs
  | .kls xs => noErrs xs
  | .kdc _ xs => noErrs xs
  | _ => true
def noErrs : List IV → Bool
  | [] => true
  | x :: xs => noErr x && noErrs xs
end
mutual
def noAct : IV → Bool
  | .act => false
  | .tup xs => noActs xs
  | .kls xs => noActs xs
  | .kdc _ xs => noActs xs
  | _ => true
def noActs : List IV → Bool
  | [] => true
  | x :: xs => noAct x && noActs xs
end
def noActF : List (Nat × IV) → Bool
  | [] => true
  | (_, x) :: r => noAct x && noActF r
def noActD : List (L2.Key × IV) → Bool
  | [] => true
  | (_, x) :: r => noAct x && noActD r
def noActC : Cell → Bool
  | .lst xs => noActs xs
  | .ins _ fs => noActF fs
  | .dct kvs => noActD kvs
def noActH (h : Hpi) : Bool := h.all noActC
def noErrF : List (Nat × IV) → Bool
  | [] => true
  | (_, x) :: r => noErr x && noErrF r
def noErrD : List (L2.Key × IV) → Bool
  | [] => true
  | (_, x) :: r => noErr x && noErrD r
def noErrC : Cell → Bool
  | .lst xs => noErrs xs
  | .ins _ fs => noErrF fs
  | .dct kvs => noErrD kvs
def noErrH (h : Hpi) : Bool := h.all noErrC
def noErrL (ℓ : Loc) : Bool := ℓ.all fun o => match o with
  | some x => noErr x
  | none => true
/-- where a statement may go -/
structure Ds where
  nx : Loc → Hpi → Tree
  rt : IV → Hpi → Tree
  bk : Loc → Hpi → Tree
  ct : Loc → Hpi → Tree
  ex : Loc → Exn → Hpi → Tree
def getSl (ℓ : Loc) (i : Nat) : Option IV := match ℓ[i]? with
  | some (some v) => some v
  | _ => none
def lookF (f : Nat) : List (Nat × IV) → Option IV
  | [] => none
  | (g, v) :: r => if g = f then some v else lookF f r
def setF (f : Nat) (v : IV) : List (Nat × IV) → List (Nat × IV)
  | [] => [(f, v)]
  | (g, x) :: r => if g = f then (g, v) :: r else (g, x) :: setF f v r
def attrIV (oka : Nat → Nat → Bool) (x : IV) (f : Nat) (h : Hpi) : Option IV := match x with
  | .ref a => match h[a]? with
    | some (.ins c fs) => if oka c f then lookF f fs else none
    | _ => none
  | _ => none
def tyIV (t : Ty) (x : IV) (h : Hpi) : Option Bool := match x with
  | .non => some false
  | .bl _ => some (decide (t = .bool) || decide (t = .int))
  | .int _ => some (decide (t = .int))
  | .str _ => some (decide (t = .str))
  | .tup _ => some (decide (t = .tuple))
  | .kls _ => some (decide (t = .list))
  | .ref a => match h[a]? with
    | some (.lst _) => some (decide (t = .list))
    | _ => none
  | .err => none
  | .act => none
  | .kdc _ _ => none
def allBl : List IV → Option Bool
  | [] => some true
  | .bl b :: xs => match allBl xs with
    | some c => some (b && c)
    | none => none
  | _ => none
def lstIV (x : IV) (h : Hpi) : Option (List IV) := match x with
  | .kls xs => some xs
  | .ref a => match h[a]? with
    | some (.lst xs) => some xs
    | _ => none
  | _ => none
/-- a built-in called -/
def biIV (b : Bi) (vs : List IV) (h : Hpi) : Option (IV × Hpi) := match b, vs with
  | .len, [x] => match lenIV x h with
    | some n => some (.int n, h)
    | none => none
  | .abs, [.int i] => some (.int (if i < 0 then -i else i), h)
  | .max, [.int i, .int j] => some (.int (if j > i then j else i), h)
  | .min, [.int i, .int j] => some (.int (if j < i then j else i), h)
  | .int, [.int i] => some (.int i, h)
  | .isi t, [x] => match tyIV t x h with
    | some b => some (.bl b, h)
    | none => none
  | .divmod, [.int i, .int j] => if okDiv j then some (.tup [.int (i / j), .int (i % j)], h) else none
  | .tuple, [x] => match itemsIV x h with
    | some xs => some (.tup xs, h)
    | none => none
  | .list, [x] => match itemsIV x h with
    | some xs => some (.ref h.length, h ++ [.lst xs])
    | none => none
  | .repr, [x] => match toD h 60 x with
    | some d => if d.showable && (!d.hasDict && (decide (d.depth ≤ 60) && decide (d.shown.length ≤ 16777216))) then some (.str d.shown, h) else none
    | none => none
  | .sorted, [x] => match lstIV x h with
    | some xs => match optMap pairII xs with
      | some ps => some (.ref h.length, h ++ [.lst ((srtII ps).map ivII)])
      | none => none
    | none => none
  | .all, [x] => match lstIV x h with
    | some xs => match allBl xs with
      | some b => some (.bl b, h)
      | none => none
    | none => none
  | _, _ => none
def idxIV (x i : IV) (h : Hpi) : Option IV := match dictIV x h with
  | some kvs => match keyIV i with
    | some k => lookK k kvs
    | none => none
  | none => match i with
    | .int i => match itemsIV x h with
      | some xs => match L2.ixN xs.length i with
        | some k => xs[k]?
        | none => none
      | none => none
    | _ => none
def setIdxIV (x i v : IV) (h : Hpi) : Option Hpi := match x with
  | .ref a => match h[a]? with
    | some (.lst xs) => match i with
      | .int i => match L2.ixN xs.length i with
        | some k => some (h.set a (.lst (xs.set k v)))
        | none => none
      | _ => none
    | some (.dct kvs) => match keyIV i with
      | some k => if decide (kvs.length < 16777216) then some (h.set a (.dct (putI kvs k v))) else none
      | none => none
    | _ => none
  | _ => none
def mtTy : Mt → String
  | .tindex => "tuple"
  | .split => "str"
  | .join => "str"
  | _ => "list"
/-- the receiver is of the method's type -/
def rcv (m : Mt) (x : IV) (h : Hpi) : Bool := match x with
  | .str _ => decide (mtTy m = "str")
  | .kls _ => decide (mtTy m = "list")
  | .ref a => match h[a]? with
    | some (.lst _) => decide (mtTy m = "list")
    | _ => false
  | _ => false
def mtIV (m : Mt) (x : IV) (vs : List IV) (h : Hpi) : Option (IV × Hpi) := match m, x, vs with
  | .append, .ref a, [v] => match h[a]? with
    | some (.lst xs) => if sizeOk (xs.length + 1) then some (.non, h.set a (.lst (xs ++ [v]))) else none
    | _ => none
  | .pop, .ref a, [] => match h[a]? with
    | some (.lst xs) => match xs[xs.length - 1]? with
      | some v => some (v, h.set a (.lst xs.dropLast))
      | none => none
    | _ => none
  | .popAt, .ref a, [.int i] => match h[a]? with
    | some (.lst xs) => if decide (-(2 ^ 63) ≤ i) && decide (i < 2 ^ 63) then match seqIndex? i xs.length with
      | some k => match xs[k]? with
        | some v => some (v, h.set a (.lst (xs.eraseIdx k)))
        | none => none
      | none => none
      else none
    | _ => none
  | .extend, .ref a, [.ref b] => match h[a]?, h[b]? with
    | some (.lst xs), some (.lst ys) => if sizeOk (xs.length + ys.length) then some (.non, h.set a (.lst (xs ++ ys))) else none
    | _, _ => none
  | .lindex, x, [v] => match toD h 60 x, toD h 60 v with
    | some (.list ds), some d => if SeqAt.shaped (.list ds) && SeqAt.shaped d then match ds.findIdx? (fun z => PyData.eqv z d) with
      | some j => some (.int (j : Nat), h)
      | none => none
      else none
    | _, _ => none
  | _, _, _ => none
def sliIV (x : IV) (lo hi : Option Int) (h : Hpi) : Option (IV × Hpi) := match x with
  | .tup xs => some (.tup (cutI xs lo hi), h)
  | .kls xs => some (.ref h.length, h ++ [.lst (cutI xs lo hi)])
  | .ref a => match h[a]? with
    | some (.lst xs) => some (.ref h.length, h ++ [.lst (cutI xs lo hi)])
    | _ => none
  | _ => none
/-- what is walked: items told, or a list as it stands at each turn -/
inductive Src where
  | its (xs : List IV)
  | live (a i : Nat)
def srcIV (x : IV) (h : Hpi) : Option Src := match x with
  | .tup xs => some (.its xs)
  | .kls xs => some (.its xs)
  | .ref a => match h[a]? with
    | some (.lst _) => some (.live a 0)
    | _ => none
  | _ => none
def rngL (lo : Int) : Nat → List IV
  | 0 => []
  | n + 1 => .int lo :: rngL (lo + 1) n
/-- the next item; none: stuck -/
def nextS (s : Src) (h : Hpi) : Option (Option (IV × Src)) := match s with
  | .its [] => some none
  | .its (x :: r) => some (some (x, .its r))
  | .live a i => match h[a]? with
    | some (.lst xs) => match xs[i]? with
      | some x => some (some (x, .live a (i + 1)))
      | none => some none
    | _ => none
def okR (i : Int) : Bool := decide (-(2 ^ 62) ≤ i) && decide (i < 2 ^ 62)
def rngIV (x y : IV) : Option Src := match x, y with
  | .int i, .int j => if okR i && okR j then some (.its (rngL i (j - i).toNat)) else none
  | _, _ => none
def permL {α : Type} (vs : List α) : List Nat → Option (List α)
  | [] => some []
  | i :: r => match vs[i]? with
    | some v => match permL vs r with
      | some ws => some (v :: ws)
      | none => none
    | none => none
def wipeL (ℓ : Loc) : List Nat → Loc
  | [] => ℓ
  | v :: vs => (wipeL ℓ vs).set v none
mutual
def evE (F : Cfg) : Nat → ME → Loc → Hpi → KV → KX → Tree
  | 0, _, _, _, _, _ => .stuck
  | n + 1, m, ℓ, h, k, kx => match m with
    | .var i => optT (getSl ℓ i) fun v => k v h
    | .cint i => k (.int i) h
    | .cstr x => k (.str x) h
    | .cbool b => k (.bl b) h
    | .cnon => k .non h
    | .glob g => optT (F.ct[g]?) fun v => k v h
    | .bin op a b => evE F n a ℓ h (fun x h1 => evE F n b ℓ h1 (fun y h2 => optT (binIV op x y h2) fun r => k r.1 r.2) kx) kx
    | .neg a => evE F n a ℓ h (fun x h1 => match x with
      | .int i => k (.int (-i)) h1
      | _ => .stuck) kx
    | .not a => evE F n a ℓ h (fun x h1 => optT (truIV x h1) fun b => k (.bl (!b)) h1) kx
    | .and a b => evE F n a ℓ h (fun x h1 => optT (truIV x h1) fun t => match t with
      | true => evE F n b ℓ h1 k kx
      | false => k x h1) kx
    | .or a b => evE F n a ℓ h (fun x h1 => optT (truIV x h1) fun t => match t with
      | true => k x h1
      | false => evE F n b ℓ h1 k kx) kx
    | .cmp op a b => evE F n a ℓ h (fun x h1 => evE F n b ℓ h1 (fun y h2 => optT (cmpIV op x y h2) fun r => k (.bl r) h2) kx) kx
    | .chain o1 o2 a b c => evE F n a ℓ h (fun x h1 => evE F n b ℓ h1 (fun y h2 => optT (cmpIV o1 x y h2) fun r => match r with
      | true => evE F n c ℓ h2 (fun z h3 => optT (cmpIV o2 y z h3) fun r2 => k (.bl r2) h3) kx
      | false => k (.bl false) h2) kx) kx
    | .ite c a b => evE F n c ℓ h (fun x h1 => optT (truIV x h1) fun t => match t with
      | true => evE F n a ℓ h1 k kx
      | false => evE F n b ℓ h1 k kx) kx
    | .tup es => evL F n es ℓ h (fun vs h1 => if sizeOk vs.length then k (.tup vs) h1 else .stuck) kx
    | .lst es => evL F n es ℓ h (fun vs h1 => if sizeOk vs.length then k (.ref h1.length) (h1 ++ [.lst vs]) else .stuck) kx
    | .idx a i => evE F n a ℓ h (fun x h1 => evE F n i ℓ h1 (fun y h2 => optT (idxIV x y h2) fun v => k v h2) kx) kx
    | .attr a f => evE F n a ℓ h (fun x h1 => optT (attrIV F.oka x f h1) fun v => k v h1) kx
    | .call f es kes perm => evL F n es ℓ h (fun vs h1 => evL F n kes ℓ h1 (fun zs h2 => match Nat.beq vs.length es.length && Nat.beq zs.length kes.length with
      | true => optT (permL (vs ++ zs) perm) fun ws => .call f ws h2 fun r => match r with
        | .ok v h3 => k v h3
        | .ex e h3 => kx e h3
      | false => .stuck) kx) kx
    | .bcall b es => evL F n es ℓ h (fun vs h1 => optT (biIV b vs h1) fun r => k r.1 r.2) kx
    | .meth o m es => evE F n o ℓ h (fun x h1 => match rcv m x h1 with
      | true => evL F n es ℓ h1 (fun vs h2 => optT (mtIV m x vs h2) fun r => k r.1 r.2) kx
      | false => .stuck) kx
    | .comp elt tg it ifs own => evI F n it ℓ h (fun s h1 => evC F n elt tg s ifs own (wipeL ℓ own) h1.length (h1 ++ [.lst []]) k) kx
    | .slice a lo hi => evE F n a ℓ h (fun x h1 => evO F n lo ℓ h1 (fun l h2 => evO F n hi ℓ h2 (fun u h3 => optT (sliIV x l u h3) fun r => k r.1 r.2) kx) kx) kx
    | .act i => match getSl ℓ i with
      | some .act => if noActH h = true then F.act h k kx else .stuck
      | _ => .stuck
    | .lam f b => optT (F.hp f) fun df => evB { F with act := fun h2 k2 kx2 => evE F n b ℓ h2 k2 kx2, hp := fun _ => none } n df.body (some .act :: List.replicate (df.slots - 1) none) h {
        nx := fun _ h2 => if noActH h2 then k .non h2 else .stuck
        rt := fun v h2 => if noAct v && noActH h2 then k v h2 else .stuck
        bk := fun _ _ => .stuck
        ct := fun _ _ => .stuck
        ex := fun _ _ _ => .stuck }
    | .dead => .stuck
    | .dct es => evL F n es ℓ h (fun vs h1 => optT (pairsK vs) fun kvs => if decide (kvs.length ≤ 15) then k (.ref h1.length) (h1 ++ [.dct (kvs.foldl (fun acc kv => putI acc kv.1 kv.2) [])]) else .stuck) kx
    | .lrng b => evE F n b ℓ h (fun x h1 => match x with
      | .int i => if decide (0 ≤ i) && decide (i ≤ 16777216) then k (.ref h1.length) (h1 ++ [.lst (rngL 0 i.toNat)]) else .stuck
      | _ => .stuck) kx
    | .efld i f => match F.err, getSl ℓ i with
      | some e, some .err => if F.xf e.c = some f then k e.v h else .stuck
      | _, _ => .stuck
    | .eisi i c => match F.err, getSl ℓ i with
      | some e, some .err => optT (F.sub e.c c) fun b => k (.bl b) h
      | _, _ => .stuck
def evL (F : Cfg) : Nat → List ME → Loc → Hpi → KVs → KX → Tree
  | 0, _, _, _, _, _ => .stuck
  | _ + 1, [], _, h, k, _ => k [] h
  | n + 1, m :: ms, ℓ, h, k, kx => evE F n m ℓ h (fun v h1 => evL F n ms ℓ h1 (fun vs h2 => k (v :: vs) h2) kx) kx
def evO (F : Cfg) : Nat → Option ME → Loc → Hpi → (Option Int → Hpi → Tree) → KX → Tree
  | 0, _, _, _, _, _ => .stuck
  | _ + 1, none, _, h, k, _ => k none h
  | n + 1, some m, ℓ, h, k, kx => evE F n m ℓ h (fun x h1 => match x with
    | .int i => k (some i) h1
    | _ => .stuck) kx
def evI (F : Cfg) : Nat → MI → Loc → Hpi → (Src → Hpi → Tree) → KX → Tree
  | 0, _, _, _, _, _ => .stuck
  | n + 1, it, ℓ, h, k, kx => match it with
    | .val e => evE F n e ℓ h (fun x h1 => optT (srcIV x h1) fun s => k s h1) kx
    | .rng1 b => evE F n b ℓ h (fun x h1 => optT (rngIV (.int 0) x) fun s => k s h1) kx
    | .rng2 a b => evE F n a ℓ h (fun x h1 => evE F n b ℓ h1 (fun y h2 => optT (rngIV x y) fun s => k s h2) kx) kx
/-- a comprehension's turns: c, the cell that it fills -/
def evC (F : Cfg) : Nat → ME → MT → Src → List ME → List Nat → Loc → Nat → Hpi → KV → Tree
  | 0, _, _, _, _, _, _, _, _, _ => .stuck
  | n + 1, elt, tg, s, ifs, own, ℓ, c, h, k => optT (nextS s h) fun o => match o with
    | none => k (.ref c) h
    | some (x, s') => evG F n tg x ℓ h (fun ℓ1 h1 => evQ F n ifs ℓ1 h1 (fun b h2 => match b with
      | true => evE F n elt ℓ1 h2 (fun y h3 => match h3[c]? with
        | some (.lst acc) => if sizeOk (acc.length + 1) then evC F n elt tg s' ifs own ℓ c (h3.set c (.lst (acc ++ [y]))) k else .stuck
        | _ => .stuck) (fun _ _ => .stuck)
      | false => evC F n elt tg s' ifs own ℓ c h2 k)) (fun _ _ => .stuck)
/-- the tests of a comprehension -/
def evQ (F : Cfg) : Nat → List ME → Loc → Hpi → (Bool → Hpi → Tree) → Tree
  | 0, _, _, _, _ => .stuck
  | _ + 1, [], _, h, k => k true h
  | n + 1, c :: cs, ℓ, h, k => evE F n c ℓ h (fun x h1 => optT (truIV x h1) fun b => match b with
    | true => evQ F n cs ℓ h1 k
    | false => k false h1) (fun _ _ => .stuck)
def evG (F : Cfg) : Nat → MT → IV → Loc → Hpi → (Loc → Hpi → Tree) → KX → Tree
  | 0, _, _, _, _, _, _ => .stuck
  | n + 1, t, v, ℓ, h, k, kx => match t with
    | .name i => k (ℓ.set i (some v)) h
    | .tup ts => match v with
      | .tup xs => if xs.length = ts.length then evGs F n ts xs ℓ h k kx else .stuck
      | _ => .stuck
    | .attr o f => evE F n o ℓ h (fun x h1 => match x with
      | .ref a => match h1[a]? with
        | some (.ins c fs) => if F.oka c f && decide (fs.length < 900) then k ℓ (h1.set a (.ins c (setF f v fs))) else .stuck
        | _ => .stuck
      | _ => .stuck) kx
    | .idx o i => evE F n o ℓ h (fun x h1 => evE F n i ℓ h1 (fun y h2 => optT (setIdxIV x y v h2) fun h3 => k ℓ h3) kx) kx
def evGs (F : Cfg) : Nat → List MT → List IV → Loc → Hpi → (Loc → Hpi → Tree) → KX → Tree
  | 0, _, _, _, _, _, _ => .stuck
  | _ + 1, [], [], ℓ, h, k, _ => k ℓ h
  | n + 1, t :: ts, v :: vs, ℓ, h, k, kx => evG F n t v ℓ h (fun ℓ1 h1 => evGs F n ts vs ℓ1 h1 k kx) kx
  | _ + 1, _, _, _, _, _, _ => .stuck
def evS (F : Cfg) : Nat → MS → Loc → Hpi → Ds → Tree
  | 0, _, _, _, _ => .stuck
  | n + 1, s, ℓ, h, D => match s with
    | .asg t e => evE F n e ℓ h (fun v h1 => evG F n t v ℓ h1 D.nx (fun _ _ => .stuck)) (D.ex ℓ)
    | .expr e => evE F n e ℓ h (fun _ h1 => D.nx ℓ h1) (D.ex ℓ)
    | .ret e => evE F n e ℓ h (fun v h1 => D.rt v h1) (D.ex ℓ)
    | .ifs c a b => evE F n c ℓ h (fun x h1 => optT (truIV x h1) fun t => match t with
      | true => evB F n a ℓ h1 D
      | false => evB F n b ℓ h1 D) (D.ex ℓ)
    | .forr t it body => evI F n it ℓ h (fun s h1 => evF F n t s body ℓ h1 D) (D.ex ℓ)
    | .whl c body => evW F n c body ℓ h D
    | .brk => D.bk ℓ h
    | .cnt => D.ct ℓ h
    | .pass => D.nx ℓ h
    | .par ts es => evL F n es ℓ h (fun vs h1 => match ts, vs with
      | [i, j], [v, w] => D.nx ((ℓ.set i (some v)).set j (some w)) h1
      | [i, j, l], [u, v, w] => D.nx (((ℓ.set i (some u)).set j (some v)).set l (some w)) h1
      | _, _ => .stuck) (D.ex ℓ)
    | .tryx c i body hd => evB F n body ℓ h { D with ex := fun ℓ1 e h1 => optT (F.sub e.c c) fun b => match b with
      | true => evB { F with err := some e } n hd (ℓ1.set i (some .err)) h1 {
          nx := fun ℓ2 h2 => if noErrL (ℓ2.set i none) && noErrH h2 then D.nx (ℓ2.set i none) h2 else .stuck
          rt := fun v h2 => if noErr v && noErrH h2 then D.rt v h2 else .stuck
          bk := fun ℓ2 h2 => if noErrL (ℓ2.set i none) && noErrH h2 then D.bk (ℓ2.set i none) h2 else .stuck
          ct := fun ℓ2 h2 => if noErrL (ℓ2.set i none) && noErrH h2 then D.ct (ℓ2.set i none) h2 else .stuck
          ex := fun _ _ _ => .stuck }
      | false => D.ex ℓ1 e h1 }
    | .dead => .stuck
    | .raise c e => evE F n e ℓ h (fun v h1 => D.ex ℓ ⟨c, v⟩ h1) (D.ex ℓ)
def evB (F : Cfg) : Nat → List MS → Loc → Hpi → Ds → Tree
  | 0, _, _, _, _ => .stuck
  | _ + 1, [], ℓ, h, D => D.nx ℓ h
  | n + 1, s :: ss, ℓ, h, D => evS F n s ℓ h { D with nx := fun ℓ1 h1 => evB F n ss ℓ1 h1 D }
def evF (F : Cfg) : Nat → MT → Src → List MS → Loc → Hpi → Ds → Tree
  | 0, _, _, _, _, _, _ => .stuck
  | n + 1, t, s, body, ℓ, h, D => optT (nextS s h) fun o => match o with
    | none => D.nx ℓ h
    | some (x, s') => evG F n t x ℓ h (fun ℓ1 h1 => evB F n body ℓ1 h1 { D with nx := fun ℓ2 h2 => evF F n t s' body ℓ2 h2 D, ct := fun ℓ2 h2 => evF F n t s' body ℓ2 h2 D, bk := D.nx }) (fun _ _ => .stuck)
def evW (F : Cfg) : Nat → ME → List MS → Loc → Hpi → Ds → Tree
  | 0, _, _, _, _, _ => .stuck
  | n + 1, c, body, ℓ, h, D => evE F n c ℓ h (fun x h1 => optT (truIV x h1) fun t => match t with
    | true => evB F n body ℓ h1 { D with nx := fun ℓ2 h2 => evW F n c body ℓ2 h2 D, ct := fun ℓ2 h2 => evW F n c body ℓ2 h2 D, bk := D.nx }
    | false => D.nx ℓ h1) (D.ex ℓ)
end
def retD : Ds := { nx := fun _ h => .done (.ok .non h), rt := fun v h => .done (.ok v h), bk := fun _ _ => .stuck, ct := fun _ _ => .stuck, ex := fun _ e h => .done (.ex e h) }
def startL (d : MDef) (vs : List IV) : Loc := vs.map some ++ List.replicate (d.slots - vs.length) none
def bodyT (V : Env1) (fuel : Nat) (d : MDef) (vs : List IV) (h : Hpi) : Tree := evB (.no V) fuel d.body (startL d vs) h retD
/-- closed runs -/
def runT (rf : Nat → List IV → Hpi → Option Res) : Tree → Option Res
  | .stuck => none
  | .done r => some r
  | .call f vs h k => match rf f vs h with
    | some r => runT rf (k r)
    | none => none
def runF (T : Nat → Option MDef) (V : Env1) (fuel : Nat) : Nat → Nat → List IV → Hpi → Option Res
  | 0, _, _, _ => none
  | d + 1, f, vs, h => match T f with
    | some df => if vs.length = df.params then runT (runF T V fuel d) (bodyT V fuel df vs h) else none
    | none => none
end MP
set_option maxRecDepth 100000
set_option maxHeartbeats 4000000
/-! MPc: what stands for what; steps. -/
namespace MP
open PySem PySem.Spec PyProof.Rows
open L2 (V HO Hp upd SqL SqT Rd upd_same upd_ne TE VK Inv PE RelV Vals ne_of_none)
abbrev LSt := L2.St
/-- a lambda handed to a helper: it itself, its code object, its name, the frame that it sees -/
structure LaI where
  f : Addr
  c : Addr
  q : Str
  l : Loc
  s : LSt
/-- the program's things: what is written, the tables of code objects, the classes' addresses, the fields' names -/
structure PEnv where
  tb : List (Addr × Str)
  cA : Nat → Addr
  fN : Nat → Str
  xN : Nat → Str
  ea : Addr
  ex : Option (Exn × Addr)
  la : Option LaI
  kd : Addr → List L2.Key → List V → Prop
def PEnv.off (G : PEnv) : PEnv := { G with ea := 0, ex := none, la := none }
abbrev Emb := List Addr
/-- a list that is never written: written in the text, or tracked and no cell -/
def SqU (K : PySem.W.Frag) (μ : Emb) (H : Hp) (a : Addr) (ys : List V) : Prop :=
  (∃ (o : Obj) (its : Array Value) (n : Nat), K.lookup a = some o ∧ o.cls = .type "tuple" ∧ o.data = .seq its n ∧ its.size ≤ sizeLine ∧ Vals ys its.toList) ∨ (Rd H a (.tup ys) ∧ a ∉ μ)
theorem SqU.sqt {K : PySem.W.Frag} {μ : Emb} {H : Hp} {a : Addr} {ys : List V} (h : SqU K μ H a ys) : SqT K H a ys := by
  rcases h with h | ⟨h, _⟩
  · exact .inr h
  · exact .inl h
def SqF (K : PySem.W.Frag) (μ : Emb) (H : Hp) (a : Addr) (ys : List V) : Prop :=
  (∃ (o : Obj) (its : Array Value) (n : Nat), K.lookup a = some o ∧ o.cls = .type "list" ∧ o.dict = none ∧ o.data = .seq its n ∧ its.size ≤ sizeLine ∧ Vals ys its.toList) ∨ (Rd H a (.lst ys) ∧ a ∉ μ)
theorem SqF.sql {K : PySem.W.Frag} {μ : Emb} {H : Hp} {a : Addr} {ys : List V} (h : SqF K μ H a ys) : SqL K H a ys := by
  rcases h with h | ⟨h, _⟩
  · exact .inr h
  · exact .inl h
section
variable (K : PySem.W.Frag) (G : PEnv) (μ : Emb) (H : Hp)
mutual
def RV : IV → V → Prop
  | .non, v => v = .non
  | .bl b, v => v = .bl b
  | .int i, v => v = .int i
  | .str x, v => v = .str x
  | .tup xs, v => ∃ a ys, v = .ref a ∧ SqU K μ H a ys ∧ RVs xs ys
  | .kls xs, v => ∃ a ys, v = .ref a ∧ SqF K μ H a ys ∧ RVs xs ys
  | .ref i, v => ∃ a, v = .ref a ∧ μ[i]? = some a
  | .err, v => G.ex ≠ none ∧ v = .ref G.ea
  | .act, v => ∃ i, G.la = some i ∧ v = .ref i.f
  | .kdc ks xs, v => ∃ a ys, v = .ref a ∧ G.kd a ks ys ∧ RVs xs ys
def RVs : List IV → List V → Prop
  | [], ys => ys = []
  | x :: xs, ys => ∃ y r, ys = y :: r ∧ RV x y ∧ RVs xs r
end
end
/-- a slot -/
def RO (K : PySem.W.Frag) (G : PEnv) (μ : Emb) (H : Hp) : Option IV → Option V → Prop
  | some x, some v => RV K G μ H x v
  | none, _ => True
  | _, _ => False
def RL (K : PySem.W.Frag) (G : PEnv) (μ : Emb) (H : Hp) (ℓ : Loc) (σ : LSt) : Prop := ℓ.length = σ.length ∧ ∀ (i : Nat) (x : IV), ℓ[i]? = some (some x) → ∃ v, σ[i]? = some (some v) ∧ RV K G μ H x v
def RF (K : PySem.W.Frag) (G : PEnv) (μ : Emb) (H : Hp) : List (Nat × IV) → List (Str × V) → Prop
  | [], gs => gs = []
  | (f, x) :: fs, gs => ∃ v r, gs = (G.fN f, v) :: r ∧ RV K G μ H x v ∧ RF K G μ H fs r
/-- a dict's pairs -/
def RD (K : PySem.W.Frag) (G : PEnv) (μ : Emb) (H : Hp) : List (L2.Key × IV) → List (L2.Key × V) → Prop
  | [], gs => gs = []
  | (k, x) :: r, gs => ∃ v t, gs = (k, v) :: t ∧ RV K G μ H x v ∧ RD K G μ H r t
def RC (K : PySem.W.Frag) (G : PEnv) (μ : Emb) (H : Hp) (a : Addr) : Cell → Prop
  | .lst xs => ∃ ys, H a = some (.lst ys) ∧ RVs K G μ H xs ys
  | .ins c fs => ∃ dx gs, H a = some (.ins (G.cA c) dx gs) ∧ RF K G μ H fs gs
  | .dct kvs => ∃ gs, H a = some (.dK gs) ∧ RD K G μ H kvs gs
structure Rp (K : PySem.W.Frag) (G : PEnv) (μ : Emb) (h : Hpi) (H : Hp) : Prop where
  len : μ.length = h.length
  nd : μ.Nodup
  at_ : ∀ (i : Nat) (a : Addr) (c : Cell), μ[i]? = some a → h[i]? = some c → RC K G μ H a c
  tabs : LamX.Tabs G.tb H
  exq : ∀ e dd, G.ex = some (e, dd) → ∃ u, H dd = some (.xd [(G.xN e.c, u)]) ∧ dd ∉ μ ∧ RV K G μ H e.v u
  lamq : ∀ i, G.la = some i → H i.c = some (LamX.CodeO i.c i.q) ∧ i.c ∉ μ ∧ RL K G.off μ H i.l i.s
/-- from (μ, H) to (μ1, H1): new cells behind; what is no cell and no table stays -/
structure Stp (μ : Emb) (H : Hp) (μ1 : Emb) (H1 : Hp) : Prop where
  pre : ∃ ext, μ1 = μ ++ ext ∧ ∀ b ∈ ext, ∀ o, H b = some o → ∃ ps, o = .tbl ps
  keep : ∀ b o, H b = some o → b ∉ μ → (∀ ps, o ≠ .tbl ps) → H1 b = some o
theorem Stp.refl {μ : Emb} {H : Hp} : Stp μ H μ H := ⟨⟨[], by simp, fun b hb => absurd hb (by simp)⟩, fun _ _ h _ _ => h⟩
theorem Stp.get {μ μ1 : Emb} {H H1 : Hp} (s : Stp μ H μ1 H1) {i : Nat} {a : Addr} (h : μ[i]? = some a) : μ1[i]? = some a := by
  obtain ⟨ext, rfl, _⟩ := s.pre
  have hlt := (List.getElem?_eq_some_iff.mp h).1
  rw [List.getElem?_append_left hlt]
  exact h
/-- an old address is a cell behind the step just if it was one -/
theorem Stp.notin {μ μ1 : Emb} {H H1 : Hp} (s : Stp μ H μ1 H1) {b : Addr} {o : HO} (h : H b = some o) (hb : b ∉ μ) (hn : ∀ ps, o ≠ .tbl ps := by intro _ z; cases z) : b ∉ μ1 := by
  obtain ⟨ext, rfl, he⟩ := s.pre
  intro z
  rcases List.mem_append.mp z with z | z
  · exact hb z
  · obtain ⟨ps, e⟩ := he b z o h
    exact hn ps e

theorem RC.there {K : PySem.W.Frag} {G : PEnv} {μ : Emb} {H : Hp} {a : Addr} {c : Cell} (h : RC K G μ H a c) : ∃ o, H a = some o ∧ (∀ ps, o ≠ .tbl ps) ∧ (∀ xs, o ≠ .tup xs) ∧ (∀ u x, o ≠ .frz u x) := by
  cases c with
  | lst xs => obtain ⟨ys, e, _⟩ := h; exact ⟨_, e, (fun _ z => by cases z), (fun _ z => by cases z), (fun _ _ z => by cases z)⟩
  | dct kvs => obtain ⟨gs, e, _⟩ := h; exact ⟨_, e, (fun _ z => by cases z), (fun _ z => by cases z), (fun _ _ z => by cases z)⟩
  | ins c fs => obtain ⟨dx, gs, e, _⟩ := h; exact ⟨_, e, (fun _ z => by cases z), (fun _ z => by cases z), (fun _ _ z => by cases z)⟩
theorem Rp.cell {K : PySem.W.Frag} {G : PEnv} {μ : Emb} {h : Hpi} {H : Hp} (r : Rp K G μ h H) {a : Addr} (ha : a ∈ μ) : ∃ (i : Nat) (c : Cell), μ[i]? = some a ∧ h[i]? = some c ∧ RC K G μ H a c := by
  obtain ⟨i, hi, e⟩ := List.mem_iff_getElem.mp ha
  have hi' : i < h.length := by rw [← r.len]; exact hi
  have e1 : μ[i]? = some a := by rw [List.getElem?_eq_getElem hi, e]
  have e2 : h[i]? = some h[i] := List.getElem?_eq_getElem hi'
  exact ⟨i, h[i], e1, e2, r.at_ i a _ e1 e2⟩
theorem Rp.there {K : PySem.W.Frag} {G : PEnv} {μ : Emb} {h : Hpi} {H : Hp} (r : Rp K G μ h H) {a : Addr} (ha : a ∈ μ) : ∃ o, H a = some o := by
  obtain ⟨i, c, _, _, q⟩ := r.cell ha
  obtain ⟨o, e, _⟩ := q.there
  exact ⟨o, e⟩
theorem Stp.trans {μ μ1 μ2 : Emb} {H H1 H2 : Hp} (s : Stp μ H μ1 H1) (t : Stp μ1 H1 μ2 H2) (hs : ∀ b ∈ μ, ∃ o, H1 b = some o ∧ ∀ ps, o ≠ .tbl ps) : Stp μ H μ2 H2 := by
  obtain ⟨e1, rfl, h1⟩ := s.pre
  obtain ⟨e2, rfl, h2⟩ := t.pre
  refine ⟨⟨e1 ++ e2, by rw [List.append_assoc], fun b hb o q => ?_⟩, fun b o h hb ho => ?_⟩
  · rcases List.mem_append.mp hb with z | z
    · exact h1 b z o q
    · by_cases ht : ∃ ps, o = .tbl ps
      · exact ht
      · exfalso
        by_cases hm : b ∈ μ
        · obtain ⟨o', e, hn⟩ := hs b hm
          obtain ⟨ps, e'⟩ := h2 b z o' e
          exact hn ps e'
        · have e := s.keep b o q hm (fun ps z => ht ⟨ps, z⟩)
          exact ht (h2 b z o e)
  · exact t.keep b o (s.keep b o h hb ho) (s.notin h hb ho) ho
theorem Stp.tr {K : PySem.W.Frag} {G : PEnv} {μ μ1 μ2 : Emb} {h1 : Hpi} {H H1 H2 : Hp} (s : Stp μ H μ1 H1) (r1 : Rp K G μ1 h1 H1) (t : Stp μ1 H1 μ2 H2) : Stp μ H μ2 H2 :=
  s.trans t fun b hb => by
    obtain ⟨ext, e, _⟩ := s.pre
    obtain ⟨i, c, _, _, q⟩ := r1.cell (a := b) (by rw [e]; exact List.mem_append_left _ hb)
    obtain ⟨o, h1, h2, _⟩ := q.there
    exact ⟨o, h1, h2⟩
/-! ### what is known of values stays -/
section
variable {G : PEnv} {K : PySem.W.Frag} {μ μ1 : Emb} {H H1 : Hp}
theorem Stp.squ (s : Stp μ H μ1 H1) {a : Addr} {ys : List V} (h : SqU K μ H a ys) : SqU K μ1 H1 a ys := by
  rcases h with h | ⟨h | ⟨o, h⟩, ha⟩
  · exact .inl h
  · exact .inr ⟨.inl (s.keep a _ h ha (fun _ z => by cases z)), s.notin h ha⟩
  · exact .inr ⟨.inr ⟨o, s.keep a _ h ha (fun _ z => by cases z)⟩, s.notin h ha⟩
theorem Stp.sqf (s : Stp μ H μ1 H1) {a : Addr} {ys : List V} (h : SqF K μ H a ys) : SqF K μ1 H1 a ys := by
  rcases h with h | ⟨h | ⟨o, h⟩, ha⟩
  · exact .inl h
  · exact .inr ⟨.inl (s.keep a _ h ha (fun _ z => by cases z)), s.notin h ha⟩
  · exact .inr ⟨.inr ⟨o, s.keep a _ h ha (fun _ z => by cases z)⟩, s.notin h ha⟩
mutual
theorem Stp.rv (s : Stp μ H μ1 H1) : ∀ {x : IV} {v : V}, RV K G μ H x v → RV K G μ1 H1 x v
  | .non, _, h => h
  | .bl _, _, h => h
  | .int _, _, h => h
  | .str _, _, h => h
  | .tup xs, _, h => by
    obtain ⟨a, ys, e, q, r⟩ := h
    exact ⟨a, ys, e, s.squ q, s.rvs r⟩
  | .kls xs, _, h => by
    obtain ⟨a, ys, e, q, r⟩ := h
    exact ⟨a, ys, e, s.sqf q, s.rvs r⟩
  | .ref i, _, h => by
    obtain ⟨a, e, q⟩ := h
    exact ⟨a, e, s.get q⟩
  | .err, _, h => h
  | .act, _, h => h
  | .kdc ks xs, _, h => by
    obtain ⟨a, ys, e, q, r⟩ := h
    exact ⟨a, ys, e, q, s.rvs r⟩
theorem Stp.rvs (s : Stp μ H μ1 H1) : ∀ {xs : List IV} {ys : List V}, RVs K G μ H xs ys → RVs K G μ1 H1 xs ys
  | [], _, h => h
  | x :: xs, _, h => by
    obtain ⟨y, r, e, h1, h2⟩ := h
    exact ⟨y, r, e, s.rv h1, s.rvs h2⟩
end
theorem Stp.rf (s : Stp μ H μ1 H1) : ∀ {fs : List (Nat × IV)} {gs : List (Str × V)}, RF K G μ H fs gs → RF K G μ1 H1 fs gs
  | [], _, h => h
  | (f, x) :: fs, _, h => by
    obtain ⟨v, r, e, h1, h2⟩ := h
    exact ⟨v, r, e, s.rv h1, s.rf h2⟩
theorem Stp.rd (s : Stp μ H μ1 H1) : ∀ {fs : List (L2.Key × IV)} {gs : List (L2.Key × V)}, RD K G μ H fs gs → RD K G μ1 H1 fs gs
  | [], _, h => h
  | (f, x) :: fs, _, h => by
    obtain ⟨v, r, e, h1, h2⟩ := h
    exact ⟨v, r, e, s.rv h1, s.rd h2⟩
theorem Stp.rl (s : Stp μ H μ1 H1) {ℓ : Loc} {σ : LSt} (h : RL K G μ H ℓ σ) : RL K G μ1 H1 ℓ σ :=
  ⟨h.1, fun i x e => let ⟨v, e1, q⟩ := h.2 i x e; ⟨v, e1, s.rv q⟩⟩
end
end MP
set_option maxRecDepth 100000
set_option maxHeartbeats 4000000
/-! MPe: whether a term is a text's. -/
namespace MP
open PySem
/-- what the text says of names -/
structure SI where
  fn : List (Option Str)
  pats : List (Nat × Nat × List Str × List Nat)
  cts : List Str
  cls : List Str
  fld : List Str
  calm : Bool
  gd : Bool
  act : Bool
  lam : Bool
  pfn : List (Option Str)
  hn : List Str
/-- what the body of a lambda may lean on -/
def SI.pkg (S : SI) : SI := { S with fn := S.pfn, gd := false, act := false, lam := false, calm := true }
/-- what the body of a helper may lean on -/
def SI.hlp (S : SI) : SI := { S with act := true, lam := false, fn := [] }
def noPar : Arguments → Bool
  | ⟨[], [], none, [], [], none, []⟩ => true
  | _ => false
def vis (sc : Scope) (x : Str) : Bool := match sc.names.lookup x with
  | some .local => true
  | some .cell => true
  | some .free => true
  | _ => false
def glo (sc : Scope) (x : Str) : Bool := match sc.names.lookup x with
  | some .globalImplicit => !(x == ("__debug__" : Str))
  | _ => false
def nodbg (x : Str) : Bool := !(x == ("__debug__" : Str)) && !(x == ("__classdict__" : Str))
def bopOk : Bop → Operator → Bool
  | .add, .Add => true
  | .sub, .Sub => true
  | .mul, .Mult => true
  | .fdiv, .FloorDiv => true
  | .mod, .Mod => true
  | .pow, .Pow => true
  | _, _ => false
def copOk : Cop → CmpOp → Bool
  | .eq, .Eq => true
  | .ne, .NotEq => true
  | .lt, .Lt => true
  | .le, .LtE => true
  | .gt, .Gt => true
  | .ge, .GtE => true
  | .isN, .Is => true
  | .notN, .IsNot => true
  | .inn, .In => true
  | .nin, .NotIn => true
  | _, _ => false
def noStar : Expr → Bool
  | .Starred _ _ => false
  | _ => true
def isSet : Expr → Bool
  | .Set .. => true
  | _ => false
def noSlice : Expr → Bool
  | .Slice .. => false
  | _ => true
def isName : Expr → Bool
  | .Name .. => true
  | _ => false
def biNm : Bi → Option Str
  | .len => some "len"
  | .abs => some "abs"
  | .max => some "max"
  | .min => some "min"
  | .int => some "int"
  | .all => some "all"
  | .tuple => some "tuple"
  | .list => some "list"
  | .divmod => some "divmod"
  | .repr => some "repr"
  | .sorted => some "sorted"
  | .isi _ => none
def needCalm : Bi → Bool
  | .max => true
  | .min => true
  | .all => true
  | _ => false
def needGd : Bi → Bool
  | .repr => true
  | _ => false
def mtNm : Mt → Str
  | .append => "append"
  | .pop => "pop"
  | .popAt => "pop"
  | .extend => "extend"
  | .lindex => "index"
  | .tindex => "index"
  | .lcount => "count"
  | .split => "split"
  | .join => "join"
def tyNm (S : SI) : Ty → Option Str
  | .int => some "int"
  | .bool => some "bool"
  | .str => some "str"
  | .tuple => some "tuple"
  | .list => some "list"
  | .dict => some "dict"
  | .cls _ => none
def kwNames : List Keyword → Option (List Str)
  | [] => some []
  | ⟨some n, _, _⟩ :: r => match kwNames r with
    | some ns => some (n :: ns)
    | none => none
  | _ => none
def zipN (N : List Str) : List Nat → List (Str × Nat)
  | [] => []
  | i :: r => match N[i]? with
    | some x => (x, i) :: zipN N r
    | none => zipN N r
mutual
def nmInE (vs : List Nat) : MT → Bool
  | .name i => decide (i ∈ vs)
  | .tup ts => nmInEs vs ts
  | .attr _ _ => true
  | .idx _ _ => true
def nmInEs (vs : List Nat) : List MT → Bool
  | [] => true
  | t :: ts => nmInE vs t && nmInEs vs ts
end
mutual
def okE (S : SI) (N : List Str) (top : Bool) : Nat → Scope → ME → Expr → Bool
  | 0, _, _, _ => false
  | j + 1, sc, m, e => match m, e with
    | m, .BoolOp _ [e] _ => okE S N top j sc m e
    | .var i, .Name x _ => decide (N[i]? = some x) && (vis sc x && nodbg x)
    | .glob g, .Name x _ => decide (S.cts[g]? = some x) && glo sc x
    | .cint i, .Constant (.int i') _ _ => decide (i = i')
    | .cstr x, .Constant (.str y) _ _ => decide (x = y)
    | .cbool b, .Constant (.bool c) _ _ => b == c
    | .cnon, .Constant .none _ _ => true
    | .bin op a b, .BinOp e1 o e2 _ => bopOk op o && (okE S N top j sc a e1 && okE S N top j sc b e2)
    | .neg a, .UnaryOp .USub e1 _ => okE S N top j sc a e1
    | .not a, .UnaryOp .Not e1 _ => okE S N top j sc a e1
    | .and a b, .BoolOp .And (e1 :: e2 :: r) p => okE S N top j sc a e1 && okE S N top j sc b (.BoolOp .And (e2 :: r) p)
    | .or a b, .BoolOp .Or (e1 :: e2 :: r) p => okE S N top j sc a e1 && okE S N top j sc b (.BoolOp .Or (e2 :: r) p)
    | .cmp op a b, .Compare e1 [o] [e2] _ => !(isSet e2) && (copOk op o && (okE S N top j sc a e1 && okE S N top j sc b e2))
    | .chain o1 o2 a b c, .Compare e1 [p1, p2] [e2, e3] _ => !(isSet e3) && (copOk o1 p1 && (copOk o2 p2 && (okE S N top j sc a e1 && (okE S N top j sc b e2 && okE S N top j sc c e3))))
    | .ite c a b, .IfExp e1 e2 e3 _ => okE S N top j sc c e1 && (okE S N top j sc a e2 && okE S N top j sc b e3)
    | .tup ms, .Tuple es _ _ => okL S N top j sc ms es
    | .lst ms, .List es _ => okL S N top j sc ms es
    | .slice a lo hi, .Subscript e1 (.Slice l u none _) _ => okE S N top j sc a e1 && (okO S N top j sc lo l && okO S N top j sc hi u)
    | .idx a i, .Subscript e1 e2 _ => noSlice e2 && (okE S N top j sc a e1 && okE S N top j sc i e2)
    | .attr a f, .Attribute e1 x _ => isName e1 && (decide (S.fld[f]? = some x) && okE S N top j sc a e1)
    | .call f ms kms perm, .Call (.Name x _) es kws _ => match kwNames kws with
      | some ns => S.calm && (decide (S.fn[f]? = some (some x)) && (glo sc x && (decide (kms.length = ns.length) && (decide ((f, ms.length, ns, perm) ∈ S.pats) && (okL S N top j sc ms es && okK S N top j sc kms kws)))))
      | none => false
    | .bcall (.isi t) [a], .Call (.Name x _) [e1, .Name y _] [] _ => decide (x = "isinstance") && (glo sc x && (decide (tyNm S t = some y) && (glo sc y && okE S N top j sc a e1)))
    | .bcall b (m :: ms), .Call (.Name x _) (e :: es) [] _ => ((S.calm || !needCalm b) && (S.gd || !needGd b)) && (decide (biNm b = some x) && (glo sc x && okL S N top j sc (m :: ms) (e :: es)))
    | .meth a m [], .Call (.Attribute e1 x apos) [] [] pos => isName e1 && (decide (x = mtNm m) && ((apos.endLine == pos.line) && okE S N top j sc a e1))
    | .meth a m (m1 :: ms), .Call (.Attribute e1 x apos) (e2 :: es) [] pos => isName e1 && (decide (x = mtNm m) && ((apos.endLine == pos.line) && (decide (es.length < 20) && (okE S N top j sc a e1 && okL S N top j sc (m1 :: ms) (e2 :: es)))))
    | .comp elt tg it ifs own, .ListComp e [⟨t, i, fs, 0⟩] scope _ => (S.calm && !S.act) && (L2.blkC N sc scope (zipN N own) && (decide ((zipN N own).map (·.2) = own) && (okI S N top j sc it i && (okG S N false j (L2.relS scope sc) tg t && (okQ S N j (L2.relS scope sc) ifs fs && (nmInE own tg && okE S N false j (L2.relS scope sc) elt e))))))
    | .act i, .Call (.Name x _) [] [] _ => S.act && (decide (i = 0) && (decide (N[i]? = some x) && (vis sc x && nodbg x)))
    | .efld i f, .Attribute (.Name x _) y _ => !S.calm && (decide (N[i]? = some x) && (vis sc x && (nodbg x && decide (S.fld[f]? = some y))))
    | .eisi i c, .Call (.Name g _) [.Name x _, .Name y _] [] _ => !S.calm && (decide (g = "isinstance") && (glo sc g && (decide (N[i]? = some x) && (vis sc x && (nodbg x && (decide (S.cls[c]? = some y) && glo sc y))))))
    | .lam f b, .Call (.Name x _) [.Lambda params body scope _] [] _ => (S.lam && S.calm) && (decide (S.hn[f]? = some x) && (glo sc x && (LamX.lamSB sc scope && (noPar params && okE S.pkg N false j scope b body))))
    | .dct ms, .Dict ks vs _ => decide (ks.length ≤ 15) && okD S N top j sc ms ks vs
    | .lrng m, .Call (.Name x _) [.Call (.Name y _) [e1] [] _] [] _ => S.calm && (decide (x = "list") && (decide (y = "range") && (glo sc x && (glo sc y && (noStar e1 && okE S N top j sc m e1)))))
    | .dead, e => noStar e && !(isSet e)
    | _, _ => false
def okD (S : SI) (N : List Str) (top : Bool) : Nat → Scope → List ME → List (Option Expr) → List Expr → Bool
  | 0, _, _, _, _ => false
  | _ + 1, _, [], [], [] => true
  | j + 1, sc, m1 :: m2 :: ms, some k :: ks, v :: vs => okE S N top j sc m1 k && (okE S N top j sc m2 v && okD S N top j sc ms ks vs)
  | _, _, _, _, _ => false
def okO (S : SI) (N : List Str) (top : Bool) : Nat → Scope → Option ME → Option Expr → Bool
  | 0, _, _, _ => false
  | _ + 1, _, none, none => true
  | j + 1, sc, some m, some e => okE S N top j sc m e
  | _, _, _, _ => false
def okQ (S : SI) (N : List Str) : Nat → Scope → List ME → List Expr → Bool
  | 0, _, _, _ => false
  | _ + 1, _, [], [] => true
  | j + 1, sc, [m], [e] => okE S N false j sc m e
  | _, _, _, _ => false
def okL (S : SI) (N : List Str) (top : Bool) : Nat → Scope → List ME → List Expr → Bool
  | 0, _, _, _ => false
  | _ + 1, _, [], [] => true
  | j + 1, sc, m :: ms, e :: es => noStar e && (okE S N top j sc m e && okL S N top j sc ms es)
  | _, _, _, _ => false
def okK (S : SI) (N : List Str) (top : Bool) : Nat → Scope → List ME → List Keyword → Bool
  | 0, _, _, _ => false
  | _ + 1, _, [], [] => true
  | j + 1, sc, m :: ms, ⟨_, e, _⟩ :: es => okE S N top j sc m e && okK S N top j sc ms es
  | _, _, _, _ => false
def okI (S : SI) (N : List Str) (top : Bool) : Nat → Scope → MI → Expr → Bool
  | 0, _, _, _ => false
  | j + 1, sc, it, e => match it, e with
    | .rng1 m, .Call (.Name x _) [e1] [] _ => decide (x = "range") && (glo sc x && (noStar e1 && okE S N top j sc m e1))
    | .rng2 m1 m2, .Call (.Name x _) [e1, e2] [] _ => decide (x = "range") && (glo sc x && (noStar e1 && (noStar e2 && (okE S N top j sc m1 e1 && okE S N top j sc m2 e2))))
    | .val m, e => okE S N top j sc m e
    | _, _ => false
def okG (S : SI) (N : List Str) (top : Bool) : Nat → Scope → MT → Expr → Bool
  | 0, _, _, _ => false
  | j + 1, sc, t, e => match t, e with
    | .name i, .Name x _ => decide (N[i]? = some x) && (match sc.names.lookup x with
      | some .local => true
      | some .cell => top
      | _ => false)
    | .tup ts, .Tuple es _ _ => S.calm && okGs S N top j sc ts es
    | .idx o i, .Subscript e1 e2 _ => noSlice e2 && (okE S N top j sc o e1 && okE S N top j sc i e2)
    | _, _ => false
def okGs (S : SI) (N : List Str) (top : Bool) : Nat → Scope → List MT → List Expr → Bool
  | 0, _, _, _ => false
  | _ + 1, _, [], [] => true
  | j + 1, sc, t :: ts, e :: es => noStar e && (okG S N top j sc t e && okGs S N top j sc ts es)
  | _, _, _, _ => false
end
/-- swappedStores, by the scope alone -/
def swapP (sc : Scope) (ts vs : List Expr) : Option (Option (List Str)) :=
  if !(ts.length == 2 || ts.length == 3) || vs.length != ts.length || (if sc.kind.isAnnotationScope then ScopeKind.function else sc.kind) != .function then some none
  else if vs.any (fun | .Starred .. => true | _ => false) then some none
  else
    let line := (ts.head?.map (·.pos.line)).getD 0
    let names := ts.filterMap fun
      | .Name id pos => if sc.names.lookup id == some .local && pos.line == line then some id else none
      | _ => none
    if names.length != ts.length || names.eraseDups.length != names.length then some none
    else if vs.all (foldedForSure 8) then some none
    else if vs.all (constantsAlone 8) then none
    else some (some names)
/-- no stores from the right -/
def nswap (sc : Scope) (tg v : Expr) : Bool := match tg, v with
  | .Tuple ts _ _, .Tuple vs _ _ => decide (swapP sc ts vs = some none)
  | .List .., .Tuple .. => false
  | _, _ => true
/-- no comprehension told to a name of the frame -/
def noSwapW (sc : Scope) (tg v : Expr) : Bool := match v with
  | .ListComp .. => (match tg with | .Name x _ => !(sc.names.lookup x == some .local) | _ => true)
  | .SetComp .. => false
  | .DictComp .. => false
  | _ => true
def noComp : Expr → Bool
  | .ListComp .. => false
  | .SetComp .. => false
  | .DictComp .. => false
  | _ => true
/-- a comprehension told to a name of the frame: the name is stored ahead -/
def lcSwap (sc : Scope) (x : Str) (p pos : Pos) (scope : Scope) : Bool := (sc.names.lookup x == some .local) && (p.line == pos.line && !(scope.names.any fun (n, k) => n == x && (k == .local || k == .cell)))
mutual
def okS (S : SI) (xn : List Str) (N : List Str) : Nat → Scope → MS → Stmt → Bool
  | 0, _, _, _ => false
  | j + 1, sc, s, st => match s, st with
    | .asg (.attr o f) v, .Assign [.Attribute e1 x _] e2 _ => isName e1 && (decide (S.fld[f]? = some x) && (noComp e2 && (okE S N true j sc o e1 && okE S N true j sc v e2)))
    | .asg (.name i) (.comp elt tg it ifs own), .Assign [.Name x p] (.ListComp e [⟨t, it', fs, 0⟩] scope pos) _ => decide (N[i]? = some x) && (okE S N true (j + 1) sc (.comp elt tg it ifs own) (.ListComp e [⟨t, it', fs, 0⟩] scope pos) && (S.calm && (lcSwap sc x p pos scope || ((sc.names.lookup x == some .cell)))))
    | .asg t v, .Assign [tg] e _ => noStar tg && (nswap sc tg e && (noSwapW sc tg e && (okG S N true j sc t tg && okE S N true j sc v e)))
    | .par [i, i2] [a, b], .Assign [.Tuple [.Name x px, .Name y py] _ _] (.Tuple [e1, e2] _ _) _ => S.calm && (decide (N[i]? = some x) && (decide (N[i2]? = some y) && (decide (i ≠ i2) && (decide (sc.names.lookup x = some .local) && (decide (sc.names.lookup y = some .local) && (decide (swapP sc [.Name x px, .Name y py] [e1, e2] = some (some [x, y])) && okL S N true j sc [a, b] [e1, e2]))))))
    | .par [i, i2, i3] [a, b, c], .Assign [.Tuple [.Name x px, .Name y py, .Name z pz] _ _] (.Tuple [e1, e2, e3] _ _) _ => S.calm && (decide (N[i]? = some x) && (decide (N[i2]? = some y) && (decide (N[i3]? = some z) && (decide (i ≠ i2) && (decide (i ≠ i3) && (decide (i2 ≠ i3) && (decide (sc.names.lookup x = some .local) && (decide (sc.names.lookup y = some .local) && (decide (sc.names.lookup z = some .local) && (decide (swapP sc [.Name x px, .Name y py, .Name z pz] [e1, e2, e3] = some (some [x, y, z])) && okL S N true j sc [a, b, c] [e1, e2, e3]))))))))))
    | .expr v, .Expr e _ => noComp e && okE S N true j sc v e
    | .pass, .Expr (.Constant (.str _) _ _) _ => true
    | .pass, .Pass _ => true
    | .brk, .Break _ => true
    | .cnt, .Continue _ => true
    | .ret v, .Return (some e) _ => okE S N true j sc v e
    | .ifs c a b, .If e p q _ => okE S N true j sc c e && (okB S xn N j sc a p && okB S xn N j sc b q)
    | .forr t it b, .For tg i p [] _ => S.calm && (okI S N true j sc it i && (okG S N true j sc t tg && okB S xn N j sc b p))
    | .whl c b, .While e p [] _ => okE S N true j sc c e && okB S xn N j sc b p
    | .dead, _ => true
    | .raise c v, .Raise (some (.Call (.Name x _) [e] [] _)) none _ => S.calm && (decide (xn[c]? = some x) && (glo sc x && okE S N true j sc v e))
    | .tryx c i b hd, .Try body [.ExceptHandler (some (.Name x _)) (some n) (s0 :: suite) _] [] [] _ => S.calm && (decide (S.cls[c]? = some x) && (glo sc x && (decide (N[i]? = some n) && (decide (sc.names.lookup n = some .local) && (okB S xn N j sc b body && okB { S with calm := false, act := false, lam := false } xn N j sc hd (s0 :: suite))))))
    | _, _ => false
def okB (S : SI) (xn : List Str) (N : List Str) : Nat → Scope → List MS → List Stmt → Bool
  | 0, _, _, _ => false
  | _ + 1, _, [], [] => true
  | j + 1, sc, s :: ss, st :: sts => okS S xn N j sc s st && okB S xn N j sc ss sts
  | _, _, _, _ => false
end
end MP
set_option maxRecDepth 100000
set_option maxHeartbeats 4000000
/-! MPd: calls, terms' readings. -/
namespace MP
open PySem PySem.Spec PyProof.Rows
open L2 (V HO Hp upd SqL SqT Rd upd_same upd_ne TE TT TS TA VK XK WX Inv PE PT PW PA PS PSs EP AP TP SP Ends RelV Vals ne_of_none Room Env0 Sp CXT CR CE cxOf start FnScope Cx Takes XE thn)
/-- room, and nothing is being shown -/
structure RoomG (b : Bool) (k : Nat) (A : Around) : Prop where
  room : Room k A
  gd : b = true → A.guards = some []
theorem RoomG.mono {b : Bool} {j k : Nat} {A : Around} (r : RoomG b k A) (h : j ≤ k) : RoomG b j A := ⟨r.room.mono h, r.gd⟩
theorem RoomG.deeper {b : Bool} {k : Nat} {A : Around} (r : RoomG b (k + 1) A) (env : Env) : RoomG b k (A.deeper env) := ⟨r.room.deeper env, r.gd⟩
structure FnG (b : Bool) (P : Program) (w : World) (K : PySem.W.Frag) (mg : Str → Option Value) (base : Heap) (k : Nat) (f : Addr) (fd : FuncData) (ps : List Str) (sp : Sp) : Prop where
  len : ∀ vs H Q E, sp vs H Q E → vs.length = ps.length
  run : ∀ (A : Around) (outer : List Env) (s : Shared) (H : Hp) (args : Args) (us : List Value) (vs : List V) (Q : VK) (E : XK), RoomG b k A → Env0 P w K mg base A outer s H → BindsTo s fd args (ps.zip us) → Vals vs us → sp vs H Q E →
    codeAny (model P w) A (.call (.ref f) args) (CR (L2.CX P w) outer P w H s Q E) s
theorem FnG.mono {b : Bool} {P : Program} {w : World} {K : PySem.W.Frag} {mg : Str → Option Value} {base : Heap} {j k : Nat} {f : Addr} {fd : FuncData} {ps : List Str} {sp : Sp} (F : FnG b P w K mg base j f fd ps sp) (h : j ≤ k) :
    FnG b P w K mg base k f fd ps sp := ⟨F.len, fun A outer s H args us vs Q E hr => F.run A outer s H args us vs Q E (hr.mono h)⟩
theorem FnG.imp {b : Bool} {P : Program} {w : World} {K : PySem.W.Frag} {mg : Str → Option Value} {base : Heap} {k : Nat} {f : Addr} {fd : FuncData} {ps : List Str} {sp sp' : Sp} (F : FnG b P w K mg base k f fd ps sp)
    (h : ∀ vs H Q E, sp' vs H Q E → sp vs H Q E) : FnG b P w K mg base k f fd ps sp' :=
  ⟨fun vs H Q E q => F.len vs H Q E (h _ _ _ _ q), fun A outer s H args us vs Q E hr he hb hv hs => F.run A outer s H args us vs Q E hr he hb hv (h _ _ _ _ hs)⟩

/-! ### the end of a run -/
def Wp (C : Nat → List IV → Hpi → (Res → Prop) → Prop) : Tree → (Res → Prop) → Prop
  | .stuck, _ => False
  | .done r, P => P r
  | .call f vs h k, P => ∃ R, C f vs h R ∧ ∀ r, R r → Wp C (k r) P
abbrev CSp := Nat → List IV → Hpi → (Res → Prop) → Prop
/-- an error as it lies -/
def RX (K : PySem.W.Frag) (G : PEnv) (μ : Emb) (H : Hp) (e : Exn) (cls : Value) (d : Option Addr) : Prop :=
  cls = .ref (G.cA e.c) ∧ ∃ (dd : Addr) (v : V), d = some dd ∧ H dd = some (.xd [(G.xN e.c, v)]) ∧ dd ∉ μ ∧ RV K G μ H e.v v
/-- what a def, called with these things, comes to -/
def spOf (K : PySem.W.Frag) (G : PEnv) (args : List IV) (h : Hpi) (R : Res → Prop) : Sp := fun vs H Q E =>
  ∃ μ, Rp K G μ h H ∧ RVs K G μ H args vs ∧
    (∀ v h1 μ1 H1 x, R (.ok v h1) → Stp μ H μ1 H1 → Rp K G μ1 h1 H1 → RV K G μ1 H1 v x → Q x H1) ∧
    (∀ e h1 μ1 H1 cls d, R (.ex e h1) → Stp μ H μ1 H1 → Rp K G μ1 h1 H1 → RX K G μ1 H1 e cls d → E cls d H1)
/-- the names of built-ins that the module leaves alone -/
def freeNm : List Str := ["len", "abs", "max", "min", "int", "all", "any", "tuple", "list", "divmod", "repr", "isinstance", "bool", "str", "dict", "range", "sum", "sorted", "zip", "enumerate", "reversed", "set"]
/-- the reading of a term -/
def TM (K : PySem.W.Frag) (G : PEnv) (C : CSp) (W : WX) (m : Loc → Hpi → KV → KX → Tree) : TE := fun σ H Q =>
  ∃ (μ : Emb) (ℓ : Loc) (h : Hpi) (k : KV) (kx : KX) (P : Res → Prop), Rp K G μ h H ∧ RL K G μ H ℓ σ ∧ Wp C (m ℓ h k kx) P ∧
    (∀ v h1 μ1 H1 x, Stp μ H μ1 H1 → Rp K G μ1 h1 H1 → RV K G μ1 H1 v x → Wp C (k v h1) P → Q x H1) ∧
    (∀ e h1 μ1 H1 cls d, Stp μ H μ1 H1 → Rp K G μ1 h1 H1 → RX K G μ1 H1 e cls d → Wp C (kx e h1) P → W cls d σ H1)
def TML (K : PySem.W.Frag) (G : PEnv) (C : CSp) (W : WX) (m : Loc → Hpi → KVs → KX → Tree) : TA := fun σ H Q =>
  ∃ (μ : Emb) (ℓ : Loc) (h : Hpi) (k : KVs) (kx : KX) (P : Res → Prop), Rp K G μ h H ∧ RL K G μ H ℓ σ ∧ Wp C (m ℓ h k kx) P ∧
    (∀ v h1 μ1 H1 x, Stp μ H μ1 H1 → Rp K G μ1 h1 H1 → RVs K G μ1 H1 v x → Wp C (k v h1) P → Q x H1) ∧
    (∀ e h1 μ1 H1 cls d, Stp μ H μ1 H1 → Rp K G μ1 h1 H1 → RX K G μ1 H1 e cls d → Wp C (kx e h1) P → W cls d σ H1)
/-- a test's reading -/
def TMT (K : PySem.W.Frag) (G : PEnv) (C : CSp) (W : WX) (m : Loc → Hpi → KV → KX → Tree) : TT := fun σ H Q =>
  ∃ (μ : Emb) (ℓ : Loc) (h : Hpi) (kt : Bool → Hpi → Tree) (kx : KX) (P : Res → Prop), Rp K G μ h H ∧ RL K G μ H ℓ σ ∧ Wp C (m ℓ h (fun x h1 => optT (truIV x h1) fun t => kt t h1) kx) P ∧
    (∀ (t : Bool) h1 μ1 H1, Stp μ H μ1 H1 → Rp K G μ1 h1 H1 → Wp C (kt t h1) P → Q t H1) ∧
    (∀ e h1 μ1 H1 cls d, Stp μ H μ1 H1 → Rp K G μ1 h1 H1 → RX K G μ1 H1 e cls d → Wp C (kx e h1) P → W cls d σ H1)
/-- dicts that are written -/
def KdOk (G : PEnv) (K : PySem.W.Frag) (P : Program) (w : World) : Prop := ∀ a ks ys, G.kd a ks ys → ∀ h : Heap, K.In h → (a == sysModules) = false ∧ ∃ vs, L2.KV (ks.zip ys) vs ∧ h.DictOf (L2.mixKind P w) a vs
/-- a helper: a def that calls the lambda it is handed -/
structure HelpF (S : SI) (F : Cfg) (K : PySem.W.Frag) (mg : Str → Option Value) (f : Nat) (x : Str) : Prop where
  ex : ∃ (df : MDef) (g : Addr) (ph : Arguments) (bh : List Stmt) (sh : Scope) (dV kV doc pm cdh ct oc : Value) (an od : Option Addr) (osl : Array (Option Value)) (Nh : List Str) (nm : Str) (j : Nat),
    F.hp f = some df ∧ mg x = some (.ref g) ∧ PySem.W.keepIn K (.ref g) = true ∧ K.lookup g = some ⟨oc, od, .func (PySem.W.fnOf x x ph bh sh dV kV doc pm an cdh ct), osl⟩ ∧ PySem.W.codeIn K cdh x = true ∧
      L2.Binds K (PySem.W.fnOf x x ph bh sh dV kV doc pm an cdh ct) [nm] [] ∧ FnScope Nh [nm] sh ∧ Nh[0]? = some nm ∧ L2.Vis sh nm ∧ Nh.length = df.slots ∧ okB S.hlp [] Nh j sh df.body bh = true ∧
      (x == ("__debug__" : Str)) = false ∧ (nm == ("__debug__" : Str)) = false ∧ (nm == ("__classdict__" : Str)) = false
/-- what stands around a term -/
structure GX (S : SI) (G : PEnv) (F : Cfg) (C : CSp) (W : WX) (d : Nat) (fA : Nat → Addr) (fd : Nat → FuncData) (ps : Nat → List Str) (X : Cx) : Prop where
  calm : S.calm = true → X.calm = true
  takes : Takes X W
  passes : PassesOwn (model X.prog X.w) X.A X.env X.xe
  room : S.calm = true → RoomG S.gd d X.A
  un : X.A.units + 100 < cLine
  gds : S.gd = true → X.A.guards = some []
  nd : X.N.Nodup
  call : S.calm = true → ∀ f x, S.fn[f]? = some (some x) → ∀ vs h R, C f vs h R → FnG S.gd X.prog X.w X.K X.mg X.base d (fA f) (fd f) (ps f) (spOf X.K G vs h R)
  fn : ∀ f x, S.fn[f]? = some (some x) → X.mg x = some (.ref (fA f)) ∧ PySem.W.keepIn X.K (.ref (fA f)) = true
  pat : ∀ f n ks perm, (f, n, ks, perm) ∈ S.pats → ∀ (s : Shared) (us zs ws : List Value), X.K.In s.heap → us.length = n → zs.length = ks.length → permL (us ++ zs) perm = some ws → BindsTo s (fd f) ⟨us, ks.zip zs⟩ ((ps f).zip ws)
  cts : ∀ (g : Nat) (x : Str), S.cts[g]? = some x → ∃ (u : Value) (iv : IV) (v : V), X.mg x = some u ∧ F.ct[g]? = some iv ∧ RelV v u ∧ ∀ μ H, RV X.K G μ H iv v
  free : ∀ x ∈ freeNm, X.mg x = none
  attr : ∀ c f, F.oka c f = true → L2.Cls X.K (G.cA c) ∧ L2.NoAttr X.K (G.cA c) (G.fN f)
  fld : ∀ f x, S.fld[f]? = some x → G.fN f = x
  inj : ∀ f g, G.fN f = G.fN g → f = g
  fnk : X.env.scope.kind = .function
  xfn : ∀ c f, F.xf c = some f → G.fN f = G.xN c ∧ L2.XfC X.K (G.cA c) ∧ PySem.W.findIn X.K (.ref (G.cA c)) (G.xN c) = some none
  subq : ∀ c1 c2 b, F.sub c1 c2 = some b → PySem.W.exmOne X.K (.ref (G.cA c1)) (.ref (G.cA c2)) = some b ∧ PySem.W.kitOne X.K (.ref (G.cA c1)) (.ref (G.cA c2)) = some b ∧ L2.ExcC X.K (G.cA c1)
  clq : ∀ c y, S.cls[c]? = some y → X.mg y = some (.ref (G.cA c)) ∧ (y == ("__debug__" : Str)) = false
  exn : S.calm = true → G.ex = none
  errq : S.calm = false → ∀ e, F.err = some e → (∀ {i : Nat} {x : Str} {p pos : Pos} {f : Nat}, X.N[i]? = some x → L2.Vis X.env.scope x → (x == Str.ofString "__debug__") = false → (x == Str.ofString "__classdict__") = false → F.xf e.c = some f →
      PE X (.Attribute (.Name x p) (G.xN e.c) pos) (TM X.K G C W fun ℓ h k kx => match getSl ℓ i with | some .err => k e.v h | _ => .stuck)) ∧
    (∀ {i : Nat} {x y : Str} {c : Nat} {b : Bool} {p p1 p2 pos : Pos}, X.N[i]? = some x → L2.Vis X.env.scope x → (x == Str.ofString "__debug__") = false → (x == Str.ofString "__classdict__") = false → S.cls[c]? = some y → F.sub e.c c = some b → L2.Gl X y → L2.Gl X "isinstance" →
      PE X (.Call (.Name "isinstance" p) [.Name x p1, .Name y p2] [] pos) (TM X.K G C W fun ℓ h k kx => match getSl ℓ i with | some .err => k (.bl b) h | _ => .stuck))
  callP : S.lam = true → 2 ≤ d ∧ ∀ f x, S.pfn[f]? = some (some x) → (X.mg x = some (.ref (fA f)) ∧ PySem.W.keepIn X.K (.ref (fA f)) = true) ∧ ∀ vs h R, C f vs h R → FnG false X.prog X.w X.K X.mg X.base (d - 2) (fA f) (fd f) (ps f) (spOf X.K G vs h R)
  lamq : S.lam = true → ∃ c P, X.env.code = .ref c ∧ LamX.TabB X.base X.mg c P ∧ (P, X.env.qual ++ "<lambda>") ∈ G.tb ∧ ∀ p ∈ G.tb, p.1 = P → p.2 = X.env.qual ++ "<lambda>"
  actq : S.act = true → ∀ {x : Str} {p1 p2 : Pos} {pn : List (Addr × Obj)} {xe : Value → Shared → Prop} {W' : WX}, X.N[0]? = some x → L2.Vis X.env.scope x → (x == Str.ofString "__debug__") = false → (x == Str.ofString "__classdict__") = false → Takes (X.tr pn xe) W' →
    PE (X.tr pn xe) (.Call (.Name x p1) [] [] p2) (TM X.K G C W' fun ℓ h k kx => match getSl ℓ 0 with | some .act => if noActH h = true then F.act h k kx else .stuck | _ => .stuck)
  kdq : KdOk G X.K X.prog X.w
  hlp : S.lam = true → G.la = none ∧ ∀ f x, S.hn[f]? = some x → HelpF S F X.K X.mg f x
theorem PE.imp {X : Cx} {e : Expr} {t t' : TE} (h : PE X e t) (w : ∀ σ H Q, t' σ H Q → t σ H Q) : PE X e t' := ⟨fun pins s σ H Q I q => h.run pins s σ H Q I (w σ H Q q)⟩
theorem PT.imp {X : Cx} {e : Expr} {t t' : TT} (h : PT X e t) (w : ∀ σ H Q, t' σ H Q → t σ H Q) : PT X e t' := ⟨fun pins s σ H Q I q => h.run pins s σ H Q I (w σ H Q q)⟩
theorem PW.imp {X : Cx} {e : Expr} {t t' : TT} (h : PW X e t) (w : ∀ σ H Q, t' σ H Q → t σ H Q) : PW X e t' := ⟨fun wh pins s σ H Q I q => h.run wh pins s σ H Q I (w σ H Q q)⟩
theorem PA.imp {X : Cx} {e : List Expr} {t t' : TA} (h : PA X e t) (w : ∀ σ H Q, t' σ H Q → t σ H Q) : PA X e t' := ⟨fun pos pins s σ H Q I q => h.run pos pins s σ H Q I (w σ H Q q)⟩
theorem wp_opt {C : CSp} {α : Type} {o : Option α} {k : α → Tree} {P : Res → Prop} (h : Wp C (optT o k) P) : ∃ a, o = some a ∧ Wp C (k a) P := by
  cases o with
  | none => exact h.elim
  | some a => exact ⟨a, rfl, h⟩
/-- a piece of a run, then the rest -/
theorem TM.step {K : PySem.W.Frag} {G : PEnv} {C : CSp} {W : WX} {m : Loc → Hpi → KV → KX → Tree} {σ : LSt} {H : Hp} {Q : VK} {μ : Emb} {ℓ : Loc} {h : Hpi} {k : KV} {kx : KX} {P : Res → Prop} (r : Rp K G μ h H) (l : RL K G μ H ℓ σ) (w : Wp C (m ℓ h k kx) P)
    (hx : ∀ e h1 μ1 H1 cls d, Stp μ H μ1 H1 → Rp K G μ1 h1 H1 → RX K G μ1 H1 e cls d → Wp C (kx e h1) P → W cls d σ H1)
    (hk : ∀ v h1 μ1 H1 x, Stp μ H μ1 H1 → Rp K G μ1 h1 H1 → RL K G μ1 H1 ℓ σ → RV K G μ1 H1 v x → (∀ e h2 μ2 H2 cls d, Stp μ1 H1 μ2 H2 → Rp K G μ2 h2 H2 → RX K G μ2 H2 e cls d → Wp C (kx e h2) P → W cls d σ H2) → Wp C (k v h1) P → Q x H1) : TM K G C W m σ H Q :=
  ⟨μ, ℓ, h, k, kx, P, r, l, w, fun v h1 μ1 H1 x s r1 q w1 => hk v h1 μ1 H1 x s r1 (s.rl l) q (fun e h2 μ2 H2 cls d t r2 q2 w2 => hx e h2 μ2 H2 cls d (s.tr r1 t) r2 q2 w2) w1, hx⟩
theorem TML.step {K : PySem.W.Frag} {G : PEnv} {C : CSp} {W : WX} {m : Loc → Hpi → KVs → KX → Tree} {σ : LSt} {H : Hp} {Q : List V → Hp → Prop} {μ : Emb} {ℓ : Loc} {h : Hpi} {k : KVs} {kx : KX} {P : Res → Prop} (r : Rp K G μ h H) (l : RL K G μ H ℓ σ) (w : Wp C (m ℓ h k kx) P)
    (hx : ∀ e h1 μ1 H1 cls d, Stp μ H μ1 H1 → Rp K G μ1 h1 H1 → RX K G μ1 H1 e cls d → Wp C (kx e h1) P → W cls d σ H1)
    (hk : ∀ v h1 μ1 H1 x, Stp μ H μ1 H1 → Rp K G μ1 h1 H1 → RL K G μ1 H1 ℓ σ → RVs K G μ1 H1 v x → (∀ e h2 μ2 H2 cls d, Stp μ1 H1 μ2 H2 → Rp K G μ2 h2 H2 → RX K G μ2 H2 e cls d → Wp C (kx e h2) P → W cls d σ H2) → Wp C (k v h1) P → Q x H1) : TML K G C W m σ H Q :=
  ⟨μ, ℓ, h, k, kx, P, r, l, w, fun v h1 μ1 H1 x s r1 q w1 => hk v h1 μ1 H1 x s r1 (s.rl l) q (fun e h2 μ2 H2 cls d t r2 q2 w2 => hx e h2 μ2 H2 cls d (s.tr r1 t) r2 q2 w2) w1, hx⟩
theorem TMT.step {K : PySem.W.Frag} {G : PEnv} {C : CSp} {W : WX} {m : Loc → Hpi → KV → KX → Tree} {σ : LSt} {H : Hp} {Q : Bool → Hp → Prop} {μ : Emb} {ℓ : Loc} {h : Hpi} {kt : Bool → Hpi → Tree} {kx : KX} {P : Res → Prop} (r : Rp K G μ h H) (l : RL K G μ H ℓ σ)
    (w : Wp C (m ℓ h (fun x h1 => optT (truIV x h1) fun t => kt t h1) kx) P)
    (hx : ∀ e h1 μ1 H1 cls d, Stp μ H μ1 H1 → Rp K G μ1 h1 H1 → RX K G μ1 H1 e cls d → Wp C (kx e h1) P → W cls d σ H1)
    (hk : ∀ (t : Bool) h1 μ1 H1, Stp μ H μ1 H1 → Rp K G μ1 h1 H1 → RL K G μ1 H1 ℓ σ → (∀ e h2 μ2 H2 cls d, Stp μ1 H1 μ2 H2 → Rp K G μ2 h2 H2 → RX K G μ2 H2 e cls d → Wp C (kx e h2) P → W cls d σ H2) → Wp C (kt t h1) P → Q t H1) : TMT K G C W m σ H Q :=
  ⟨μ, ℓ, h, kt, kx, P, r, l, w, fun t h1 μ1 H1 s r1 w1 => hk t h1 μ1 H1 s r1 (s.rl l) (fun e h2 μ2 H2 cls d t r2 q2 w2 => hx e h2 μ2 H2 cls d (s.tr r1 t) r2 q2 w2) w1, hx⟩
end MP
set_option maxRecDepth 100000
set_option maxHeartbeats 4000000
/-! MPf: rows of values; new and written objects. -/
namespace MP
open PySem PySem.Spec PyProof.Rows
open L2 (V HO Hp upd SqL SqT Rd upd_same upd_ne RelV Vals ne_of_none)
section
variable {K : PySem.W.Frag} {G : PEnv} {μ μ1 : Emb} {h : Hpi} {H H1 : Hp}
theorem RVs.length : ∀ {xs : List IV} {ys : List V}, RVs K G μ H xs ys → xs.length = ys.length
  | [], _, e => by
    have e : _ = [] := e
    rw [e]; rfl
  | x :: xs, _, e => by
    obtain ⟨y, r, rfl, _, q⟩ := e
    simp [RVs.length q]
theorem RVs.get : ∀ {xs : List IV} {ys : List V} {i : Nat} {x : IV}, RVs K G μ H xs ys → xs[i]? = some x → ∃ y, ys[i]? = some y ∧ RV K G μ H x y
  | [], _, _, _, _, e => by simp at e
  | x :: xs, _, 0, _, q, e => by
    obtain ⟨y, r, rfl, h1, _⟩ := q
    simp at e; subst e
    exact ⟨y, rfl, h1⟩
  | x :: xs, _, i + 1, _, q, e => by
    obtain ⟨y, r, rfl, _, h2⟩ := q
    obtain ⟨z, e1, e2⟩ := RVs.get (i := i) h2 (by simpa using e)
    exact ⟨z, by simpa using e1, e2⟩
theorem RVs.append : ∀ {xs zs : List IV} {ys ws : List V}, RVs K G μ H xs ys → RVs K G μ H zs ws → RVs K G μ H (xs ++ zs) (ys ++ ws)
  | [], _, _, _, e, q => by
    have e : _ = [] := e
    rw [e]; exact q
  | x :: xs, _, _, _, e, q => by
    obtain ⟨y, r, rfl, h1, h2⟩ := e
    exact ⟨y, _, rfl, h1, RVs.append h2 q⟩
theorem RVs.one {x : IV} {y : V} (h : RV K G μ H x y) : RVs K G μ H [x] [y] := ⟨y, [], rfl, h, rfl⟩
theorem RVs.set : ∀ {xs : List IV} {ys : List V} {x : IV} {y : V} (i : Nat), RVs K G μ H xs ys → RV K G μ H x y → RVs K G μ H (xs.set i x) (ys.set i y)
  | [], _, _, _, _, e, _ => by
    have e : _ = [] := e
    rw [e]; exact rfl
  | _ :: _, _, _, _, 0, e, q => by
    obtain ⟨y, r, rfl, _, h2⟩ := e
    exact ⟨_, _, rfl, q, h2⟩
  | _ :: _, _, _, _, i + 1, e, q => by
    obtain ⟨y, r, rfl, h1, h2⟩ := e
    exact ⟨_, _, rfl, h1, RVs.set i h2 q⟩
theorem RVs.take : ∀ {xs : List IV} {ys : List V} (n : Nat), RVs K G μ H xs ys → RVs K G μ H (xs.take n) (ys.take n)
  | [], _, n, e => by
    have e : _ = [] := e
    rw [e]; simp; exact rfl
  | _ :: _, _, 0, _ => rfl
  | _ :: _, _, n + 1, e => by
    obtain ⟨y, r, rfl, h1, h2⟩ := e
    exact ⟨_, _, rfl, h1, RVs.take n h2⟩
theorem RVs.drop : ∀ {xs : List IV} {ys : List V} (n : Nat), RVs K G μ H xs ys → RVs K G μ H (xs.drop n) (ys.drop n)
  | [], _, n, e => by
    have e : _ = [] := e
    rw [e]; simp; exact rfl
  | _ :: _, _, 0, e => e
  | _ :: _, _, n + 1, e => by
    obtain ⟨y, r, rfl, h1, h2⟩ := e
    exact RVs.drop n h2
theorem permL_cons {α : Type} {vs : List α} {i : Nat} {r : List Nat} {ws : List α} : permL vs (i :: r) = some ws ↔ ∃ v w2, vs[i]? = some v ∧ permL vs r = some w2 ∧ ws = v :: w2 := by
  simp only [permL]
  cases e : vs[i]? with
  | none => simp
  | some v =>
    cases e2 : permL vs r with
    | none => simp
    | some w2 => simp [eq_comm]
theorem RVs.perm {vs ws : List IV} {us : List V} {perm : List Nat} (h1 : permL vs perm = some ws) (q : RVs K G μ H vs us) : ∃ xs, permL us perm = some xs ∧ RVs K G μ H ws xs := by
  induction perm generalizing ws with
  | nil =>
    cases h1
    exact ⟨[], rfl, rfl⟩
  | cons i r ih =>
    obtain ⟨v, w2, e, e2, rfl⟩ := permL_cons.mp h1
    obtain ⟨y, f1, f2⟩ := q.get e
    obtain ⟨xs, g1, g2⟩ := ih e2
    exact ⟨y :: xs, permL_cons.mpr ⟨y, xs, f1, g1, rfl⟩, ⟨y, xs, rfl, f2, g2⟩⟩
theorem Vals.perm {vs ws : List V} {us : List Value} {perm : List Nat} (h1 : permL vs perm = some ws) (q : Vals vs us) : ∃ xs, permL us perm = some xs ∧ Vals ws xs := by
  induction perm generalizing ws with
  | nil =>
    cases h1
    exact ⟨[], rfl, .nil⟩
  | cons i r ih =>
    obtain ⟨v, w2, e, e2, rfl⟩ := permL_cons.mp h1
    obtain ⟨y, f1, f2⟩ := q.get e
    obtain ⟨xs, g1, g2⟩ := ih e2
    exact ⟨y :: xs, permL_cons.mpr ⟨y, xs, f1, g1, rfl⟩, .cons f2 g2⟩
/-! ### objects -/
theorem Rp.exq_on (r : Rp K G μ h H) (s : Stp μ H μ1 H1) : ∀ e dd, G.ex = some (e, dd) → ∃ u, H1 dd = some (.xd [(G.xN e.c, u)]) ∧ dd ∉ μ1 ∧ RV K G μ1 H1 e.v u := fun e dd hx => by
  obtain ⟨u, h1, h2, h3⟩ := r.exq e dd hx
  exact ⟨u, s.keep dd _ h1 h2 (fun _ z => by cases z), s.notin h1 h2, s.rv h3⟩
theorem Rp.lamq_on (r : Rp K G μ h H) (s : Stp μ H μ1 H1) : ∀ i, G.la = some i → H1 i.c = some (LamX.CodeO i.c i.q) ∧ i.c ∉ μ1 ∧ RL K G.off μ1 H1 i.l i.s := fun i hx => by
  obtain ⟨h1, h2, h3⟩ := r.lamq i hx
  exact ⟨s.keep i.c _ h1 h2 (fun _ z => by cases z), s.notin h1 h2, s.rl h3⟩
theorem Rp.free (r : Rp K G μ h H) {p : Addr} (hp : H p = none) : p ∉ μ := fun z => by
  obtain ⟨o, e⟩ := r.there z
  rw [hp] at e; cases e
theorem Stp.fresh {p : Addr} {o : HO} (hp : H p = none) : Stp μ H μ (upd H p o) :=
  ⟨⟨[], by simp, fun b hb => absurd hb (by simp)⟩, fun b o' e _ _ => by rw [upd_ne (ne_of_none e hp)]; exact e⟩
theorem RC.mono (s : Stp μ H μ1 H1) {a : Addr} {c : Cell} (e : H1 a = H a) (h : RC K G μ H a c) : RC K G μ1 H1 a c := by
  cases c with
  | lst xs => obtain ⟨ys, e1, q⟩ := h; exact ⟨ys, by rw [e]; exact e1, s.rvs q⟩
  | ins c fs => obtain ⟨dx, gs, e1, q⟩ := h; exact ⟨dx, gs, by rw [e]; exact e1, s.rf q⟩
  | dct kvs => obtain ⟨gs, e1, q⟩ := h; exact ⟨gs, by rw [e]; exact e1, s.rd q⟩
theorem upd_ext {p : Addr} {o : HO} (hp : H p = none) : ∀ b u, H b = some u → upd H p o b = some u := fun b u e => by rw [upd_ne (ne_of_none e hp)]; exact e
/-- a new object that is no cell -/
theorem Rp.fresh (r : Rp K G μ h H) {p : Addr} {o : HO} (hp : H p = none) : Rp K G μ h (upd H p o) :=
  ⟨r.len, r.nd, fun i a c e1 e2 => (r.at_ i a c e1 e2).mono (Stp.fresh hp) (upd_ne fun z => r.free hp (by rw [← z]; exact List.mem_of_getElem? e1)), r.tabs.ext (upd_ext hp), r.exq_on (Stp.fresh hp), r.lamq_on (Stp.fresh hp)⟩
/-- a new tuple -/
theorem tup_new (r : Rp K G μ h H) {p : Addr} {xs : List IV} {ys : List V} (hp : H p = none) (q : RVs K G μ H xs ys) : RV K G μ (upd H p (.tup ys)) (.tup xs) (.ref p) :=
  ⟨p, ys, rfl, .inr ⟨.inl upd_same, r.free hp⟩, (Stp.fresh hp).rvs q⟩
/-- a new cell -/
theorem Stp.cell {p : Addr} {o : HO} (hp : H p = none) : Stp μ H (μ ++ [p]) (upd H p o) :=
  ⟨⟨[p], rfl, fun b hb o' ho => by
    have e : b = p := by simpa using hb
    rw [e, hp] at ho; cases ho⟩, fun b o' e _ _ => by rw [upd_ne (ne_of_none e hp)]; exact e⟩
theorem Rp.cell_new (r : Rp K G μ h H) {p : Addr} {o : HO} {c : Cell} (hp : H p = none) (q : RC K G (μ ++ [p]) (upd H p o) p c) : Rp K G (μ ++ [p]) (h ++ [c]) (upd H p o) := by
  have s : Stp μ H (μ ++ [p]) (upd H p o) := Stp.cell hp
  refine ⟨by simp [r.len], ?_, fun i a c' e1 e2 => ?_, r.tabs.ext (upd_ext hp), r.exq_on s, r.lamq_on s⟩
  · refine List.nodup_append.mpr ⟨r.nd, by simp, fun a ha b hb z => ?_⟩
    have e : b = p := by simpa using hb
    exact r.free hp (by rw [← e, ← z]; exact ha)
  · by_cases hi : i < μ.length
    · rw [List.getElem?_append_left hi] at e1
      rw [List.getElem?_append_left (by rw [← r.len]; exact hi)] at e2
      exact (r.at_ i a c' e1 e2).mono s (upd_ne fun z => r.free hp (by rw [← z]; exact List.mem_of_getElem? e1))
    · have hle : μ.length ≤ i := Nat.le_of_not_lt hi
      rw [List.getElem?_append_right hle] at e1
      rw [List.getElem?_append_right (by rw [← r.len]; exact hle)] at e2
      have e0 : i - μ.length = 0 := by
        by_cases z : i - μ.length = 0
        · exact z
        · rw [List.getElem?_eq_none (by simp; omega)] at e1
          cases e1
      rw [e0] at e1
      rw [← r.len, e0] at e2
      simp at e1 e2
      subst e1 e2
      exact q
theorem ref_new (r : Rp K G μ h H) {p : Addr} {H' : Hp} : RV K G (μ ++ [p]) H' (.ref h.length) (.ref p) := ⟨p, rfl, by rw [← r.len]; simp⟩
theorem lst_new (r : Rp K G μ h H) {p : Addr} {xs : List IV} {ys : List V} (hp : H p = none) (q : RVs K G μ H xs ys) : Rp K G (μ ++ [p]) (h ++ [.lst xs]) (upd H p (.lst ys)) :=
  r.cell_new hp ⟨ys, upd_same, (Stp.cell hp).rvs q⟩
/-- a cell written -/
theorem Stp.write {a : Addr} {o o' : HO} (ha : a ∈ μ) (e : H a = some o) (hn : ∀ ps, o ≠ .tbl ps) : Stp μ H μ (upd H a o') :=
  ⟨⟨[], by simp, fun b hb => absurd hb (by simp)⟩, fun b u e1 hb _ => by rw [upd_ne (fun z => hb (by rw [z]; exact ha))]; exact e1⟩
/-- all but the tables stays -/
theorem Stp.extN (e : LamX.ExtN H H1) : Stp μ H μ H1 := ⟨⟨[], by simp, fun b hb => absurd hb (by simp)⟩, fun b o h _ hn => e b o h hn⟩
theorem Rp.extN (r : Rp K G μ h H) (e : LamX.ExtN H H1) (t : LamX.Tabs G.tb H1) : Rp K G μ h H1 :=
  ⟨r.len, r.nd, fun i a c e1 e2 => by
    have q := r.at_ i a c e1 e2
    obtain ⟨o, h1, h2, _⟩ := q.there
    exact q.mono (Stp.extN e) ((e a o h1 h2).trans h1.symm), t, r.exq_on (Stp.extN e), r.lamq_on (Stp.extN e)⟩
theorem Tabs.write {T : List (Addr × Str)} {a : Addr} {o o' : HO} (t : LamX.Tabs T H) (e : H a = some o) (h1 : ∀ ps, o ≠ .tbl ps) (h2 : ∀ φ, o ≠ .ext φ) : LamX.Tabs T (upd H a o') := fun p hp => by
  obtain ⟨ps, e1, e2, e3⟩ := t p hp
  refine ⟨ps, ?_, e2, fun pos cv hc => ?_⟩
  · rw [upd_ne fun z => ?_]
    · exact e1
    · rw [z, e] at e1
      exact h1 ps (Option.some.inj e1)
  · obtain ⟨c, f1, f2⟩ := e3 pos cv hc
    refine ⟨c, f1, ?_⟩
    rw [upd_ne fun z => ?_]
    · exact f2
    · rw [z, e] at f2
      exact h2 _ (Option.some.inj f2)
theorem Rp.write (r : Rp K G μ h H) {i : Nat} {a : Addr} {o o' : HO} {c' : Cell} (hi : μ[i]? = some a) (e : H a = some o) (h1 : ∀ ps, o ≠ .tbl ps) (h2 : ∀ φ, o ≠ .ext φ) (q : RC K G μ (upd H a o') a c') : Rp K G μ (h.set i c') (upd H a o') := by
  have s : Stp μ H μ (upd H a o') := Stp.write (List.mem_of_getElem? hi) e h1
  refine ⟨by simp [r.len], r.nd, fun j b c e1 e2 => ?_, Tabs.write r.tabs e h1 h2, r.exq_on s, r.lamq_on s⟩
  by_cases hj : j = i
  · subst hj
    rw [hi] at e1; cases e1
    have hlt : j < h.length := by rw [← r.len]; exact (List.getElem?_eq_some_iff.mp hi).1
    rw [List.getElem?_set_self hlt] at e2
    cases e2
    exact q
  · rw [List.getElem?_set_ne (Ne.symm hj)] at e2
    refine (r.at_ j b c e1 e2).mono s (upd_ne fun z => ?_)
    subst z
    obtain ⟨l1, m1⟩ := List.getElem?_eq_some_iff.mp e1
    obtain ⟨l2, m2⟩ := List.getElem?_eq_some_iff.mp hi
    exact hj ((List.getElem_inj r.nd).mp (m1.trans m2.symm))
end
end MP
set_option maxRecDepth 100000
set_option maxHeartbeats 4000000
/-! MPg: operations by values. -/
namespace MP
open PySem PySem.Spec PyProof.Rows
open L2 (V HO Hp upd SqL SqT Rd upd_same upd_ne RelV Vals ne_of_none R2 OpR VK CallR IxR PSet MtR Cx TruV Dp DpAll)
/-- a value told, behind a step -/
def Fin (K : PySem.W.Frag) (G : PEnv) (μ : Emb) (H : Hp) (v : IV) (h' : Hpi) (Q : VK) : Prop := ∀ μ1 H1 z, Stp μ H μ1 H1 → Rp K G μ1 h' H1 → RV K G μ1 H1 v z → Q z H1
section
variable {K : PySem.W.Frag} {G : PEnv} {μ : Emb} {h : Hpi} {H : Hp} {Q : VK}
theorem Fin.here {v : IV} {z : V} (f : Fin K G μ H v h Q) (r : Rp K G μ h H) (q : RV K G μ H v z) : Q z H := f μ H z Stp.refl r q
theorem Fin.tup {xs : List IV} {ys : List V} (f : Fin K G μ H (.tup xs) h Q) (r : Rp K G μ h H) (q : RVs K G μ H xs ys) {p : Addr} (hp : H p = none) : Q (.ref p) (upd H p (.tup ys)) :=
  f μ _ _ (Stp.fresh hp) (r.fresh hp) (tup_new r hp q)
theorem Fin.lst {xs : List IV} {ys : List V} (f : Fin K G μ H (.ref h.length) (h ++ [.lst xs]) Q) (r : Rp K G μ h H) (q : RVs K G μ H xs ys) {p : Addr} (hp : H p = none) : Q (.ref p) (upd H p (.lst ys)) :=
  f _ _ _ (Stp.cell hp) (lst_new r hp q) (ref_new r)
theorem sz {n : Nat} (e : sizeOk n = true) : n ≤ sizeLine := by
  rw [sizeLine_eq]
  exact of_decide_eq_true e
/-- a list's items, as they stand -/
theorem items_of (r : Rp K G μ h H) {v : IV} {x : V} {xs : List IV} (e : itemsIV v h = some xs) (q : RV K G μ H v x) : ∃ a ys, x = .ref a ∧ RVs K G μ H xs ys ∧ (SqL K H a ys ∨ SqT K H a ys) := by
  cases v with
  | tup zs =>
    cases e
    obtain ⟨a, ys, rfl, q1, q2⟩ := q
    exact ⟨a, ys, rfl, q2, .inr q1.sqt⟩
  | kls zs =>
    cases e
    obtain ⟨a, ys, rfl, q1, q2⟩ := q
    exact ⟨a, ys, rfl, q2, .inl q1.sql⟩
  | ref i =>
    obtain ⟨a, rfl, hi⟩ := q
    cases hc : h[i]? with
    | none => simp only [itemsIV, hc] at e; cases e
    | some c =>
      cases c with
      | ins c fs => simp only [itemsIV, hc] at e; cases e
      | dct _ => simp only [itemsIV, hc] at e; cases e
      | lst zs =>
        simp only [itemsIV, hc] at e
        cases e
        obtain ⟨ys, e1, q1⟩ := r.at_ i a _ hi hc
        exact ⟨a, ys, rfl, q1, .inl (.inl (.inl e1))⟩
  | _ => cases e
theorem cell_lst (r : Rp K G μ h H) {i : Nat} {x : V} {xs : List IV} (hc : h[i]? = some (.lst xs)) (q : RV K G μ H (.ref i) x) : ∃ a ys, x = .ref a ∧ μ[i]? = some a ∧ H a = some (.lst ys) ∧ RVs K G μ H xs ys := by
  obtain ⟨a, rfl, hi⟩ := q
  obtain ⟨ys, e1, q1⟩ := r.at_ i a _ hi hc
  exact ⟨a, ys, rfl, hi, e1, q1⟩
/-! ### data -/
mutual
theorem dp_of (r : Rp K G μ h H) : ∀ (n : Nat) {v : IV} {x : V} {d : PyData}, toD h n v = some d → RV K G μ H v x → Dp K H x d
  | n, .non, _, _, e, q => by
    have q : _ = _ := q
    subst q
    cases n <;> cases e <;> exact .non
  | n, .bl b, _, _, e, q => by
    have q : _ = _ := q
    subst q
    cases n <;> cases e <;> exact .bl b
  | n, .int i, _, _, e, q => by
    have q : _ = _ := q
    subst q
    cases n <;> cases e <;> exact .int i
  | n, .str y, _, _, e, q => by
    have q : _ = _ := q
    subst q
    cases n <;> cases e <;> exact .str y
  | n, .err, _, _, e, _ => by cases n <;> cases e
  | n, .act, _, _, e, _ => by cases n <;> cases e
  | n, .kdc _ _, _, _, e, _ => by cases n <;> cases e
  | 0, .tup xs, _, _, e, _ => by cases e
  | 0, .kls xs, _, _, e, _ => by cases e
  | 0, .ref i, _, _, e, _ => by cases e
  | n + 1, .tup xs, _, _, e, q => by
    obtain ⟨a, ys, rfl, q1, q2⟩ := q
    simp only [toD] at e
    cases e2 : optMap (toD h n) xs with
    | none => rw [e2] at e; cases e
    | some ds =>
      rw [e2] at e
      cases e
      exact .tup q1.sqt (dps_of r n e2 q2)
  | n + 1, .kls xs, _, _, e, q => by
    obtain ⟨a, ys, rfl, q1, q2⟩ := q
    simp only [toD] at e
    cases e2 : optMap (toD h n) xs with
    | none => rw [e2] at e; cases e
    | some ds =>
      rw [e2] at e
      cases e
      exact .lst q1.sql (dps_of r n e2 q2)
  | n + 1, .ref i, _, _, e, q => by
    simp only [toD] at e
    cases hc : h[i]? with
    | none => rw [hc] at e; cases e
    | some c =>
      rw [hc] at e
      cases c with
      | ins c fs => cases e
      | dct _ => cases e
      | lst xs =>
        obtain ⟨a, ys, rfl, hi, e1, q2⟩ := cell_lst r hc q
        dsimp only at e
        cases e2 : optMap (toD h n) xs with
        | none => rw [e2] at e; cases e
        | some ds =>
          rw [e2] at e
          cases e
          exact .lst (.inl (.inl e1)) (dps_of r n e2 q2)
theorem dps_of (r : Rp K G μ h H) : ∀ (n : Nat) {xs : List IV} {ys : List V} {ds : List PyData}, optMap (toD h n) xs = some ds → RVs K G μ H xs ys → DpAll K H ys ds
  | n, [], _, _, e, q => by
    have q : _ = [] := q
    cases e
    rw [q]
    exact .nil
  | n, x :: xs, _, _, e, q => by
    obtain ⟨y, r', rfl, q1, q2⟩ := q
    simp only [optMap] at e
    cases e1 : toD h n x with
    | none => rw [e1] at e; cases e
    | some d =>
      rw [e1] at e
      dsimp only at e
      cases e2 : optMap (toD h n) xs with
      | none => rw [e2] at e; cases e
      | some ds =>
        rw [e2] at e
        cases e
        exact .cons (dp_of r n e1 q1) (dps_of r n e2 q2)
end
end
/-! dicts -/
theorem RD.look {K : PySem.W.Frag} {G : PEnv} {μ : Emb} {H : Hp} {k : L2.Key} : ∀ {kvs : List (L2.Key × IV)} {gs : List (L2.Key × V)}, RD K G μ H kvs gs → (∀ v, lookK k kvs = some v → ∃ y, L2.valV gs k = some y ∧ RV K G μ H v y) ∧ ((lookK k kvs).isSome = (L2.valV gs k).isSome)
  | [], _, e => by
    have e : _ = [] := e
    rw [e]
    exact ⟨fun v h => absurd h (fun z => by cases z), rfl⟩
  | (g, x) :: r, _, e => by
    obtain ⟨y, t, rfl, h1, h2⟩ := e
    by_cases hg : g = k
    · rw [L2.valV_pos (p := (g, y)) hg]
      simp only [lookK, if_pos hg]
      refine ⟨fun v hv => ?_, rfl⟩
      cases hv
      exact ⟨y, rfl, h1⟩
    · rw [L2.valV_neg (p := (g, y)) hg]
      simp only [lookK, if_neg hg]
      exact RD.look h2
theorem RD.any {K : PySem.W.Frag} {G : PEnv} {μ : Emb} {H : Hp} {k : L2.Key} : ∀ {kvs : List (L2.Key × IV)} {gs : List (L2.Key × V)}, RD K G μ H kvs gs → (kvs.any fun kv => decide (kv.1 = k)) = (gs.any fun kv => decide (kv.1 = k))
  | [], _, e => by
    have e : _ = [] := e
    rw [e]; rfl
  | (g, x) :: r, _, e => by
    obtain ⟨y, t, rfl, h1, h2⟩ := e
    simp only [List.any_cons, RD.any h2]
theorem RD.len {K : PySem.W.Frag} {G : PEnv} {μ : Emb} {H : Hp} : ∀ {kvs : List (L2.Key × IV)} {gs : List (L2.Key × V)}, RD K G μ H kvs gs → kvs.length = gs.length
  | [], _, e => by
    have e : _ = [] := e
    rw [e]; rfl
  | (g, x) :: r, _, e => by
    obtain ⟨y, t, rfl, h1, h2⟩ := e
    simp only [List.length_cons, RD.len h2]
theorem RD.mapP {K : PySem.W.Frag} {G : PEnv} {μ : Emb} {H : Hp} {k : L2.Key} {v : IV} {x : V} (q : RV K G μ H v x) : ∀ {kvs : List (L2.Key × IV)} {gs : List (L2.Key × V)}, RD K G μ H kvs gs → RD K G μ H (kvs.map fun kv => if kv.1 = k then (kv.1, v) else kv) (gs.map fun kv => if kv.1 = k then (kv.1, x) else kv)
  | [], _, e => by
    have e : _ = [] := e
    rw [e]; rfl
  | (g, z) :: r, _, e => by
    obtain ⟨y, t, rfl, h1, h2⟩ := e
    by_cases hg : g = k
    · simp only [List.map_cons, if_pos hg]
      exact ⟨_, _, rfl, q, RD.mapP q h2⟩
    · simp only [List.map_cons, if_neg hg]
      exact ⟨_, _, rfl, h1, RD.mapP q h2⟩
theorem RD.app {K : PySem.W.Frag} {G : PEnv} {μ : Emb} {H : Hp} {k : L2.Key} {v : IV} {x : V} (q : RV K G μ H v x) : ∀ {kvs : List (L2.Key × IV)} {gs : List (L2.Key × V)}, RD K G μ H kvs gs → RD K G μ H (kvs ++ [(k, v)]) (gs ++ [(k, x)])
  | [], _, e => by
    have e : _ = [] := e
    rw [e]
    exact ⟨x, [], rfl, q, rfl⟩
  | (g, z) :: r, _, e => by
    obtain ⟨y, t, rfl, h1, h2⟩ := e
    exact ⟨_, _, rfl, h1, RD.app q h2⟩
theorem RD.put {K : PySem.W.Frag} {G : PEnv} {μ : Emb} {H : Hp} {k : L2.Key} {v : IV} {x : V} (q : RV K G μ H v x) {kvs : List (L2.Key × IV)} {gs : List (L2.Key × V)} (e : RD K G μ H kvs gs) : RD K G μ H (putI kvs k v) (L2.putK gs k x) := by
  unfold putI L2.putK
  rw [e.any]
  by_cases h : (gs.any fun kv => decide (kv.1 = k)) = true
  · rw [if_pos h, if_pos h]
    exact e.mapP q
  · rw [if_neg h, if_neg h]
    exact e.app q
theorem RD.merge {K : PySem.W.Frag} {G : PEnv} {μ : Emb} {H : Hp} : ∀ {more : List (L2.Key × IV)} {ms : List (L2.Key × V)} {kvs : List (L2.Key × IV)} {gs : List (L2.Key × V)}, RD K G μ H more ms → RD K G μ H kvs gs → RD K G μ H (more.foldl (fun acc kv => putI acc kv.1 kv.2) kvs) (L2.mergeK gs ms)
  | [], _, _, _, e, q => by
    have e : _ = [] := e
    rw [e]; exact q
  | (g, z) :: r, _, _, _, e, q => by
    obtain ⟨y, t, rfl, h1, h2⟩ := e
    exact RD.merge (more := r) (ms := t) h2 (q.put h1)
theorem rd_zip {K : PySem.W.Frag} {G : PEnv} {μ : Emb} {H : Hp} : ∀ {ks : List L2.Key} {xs : List IV} {ys : List V}, RVs K G μ H xs ys → RD K G μ H (ks.zip xs) (ks.zip ys)
  | [], _, _, _ => rfl
  | _ :: _, [], _, e => by
    have e : _ = [] := e
    rw [e]; rfl
  | k :: ks, x :: xs, _, e => by
    obtain ⟨y, r, rfl, h1, h2⟩ := e
    exact ⟨y, _, rfl, h1, rd_zip h2⟩
theorem cell_dct {K : PySem.W.Frag} {G : PEnv} {μ : Emb} {h : Hpi} {H : Hp} (r : Rp K G μ h H) {i : Nat} {x : V} {kvs : List (L2.Key × IV)} (hc : h[i]? = some (.dct kvs)) (q : RV K G μ H (.ref i) x) : ∃ a gs, x = .ref a ∧ μ[i]? = some a ∧ H a = some (.dK gs) ∧ RD K G μ H kvs gs := by
  obtain ⟨a, rfl, hi⟩ := q
  obtain ⟨ys, e1, q1⟩ := r.at_ i a _ hi hc
  exact ⟨a, ys, rfl, hi, e1, q1⟩
theorem dict_of {X : Cx} {G : PEnv} {μ : Emb} {h : Hpi} {H : Hp} {pins : List (Addr × Obj)} {σ : LSt} {s : Shared} (I : L2.Inv X pins σ H s) (kd : KdOk G X.K X.prog X.w) (r : Rp X.K G μ h H) {v : IV} {x : V} {kvs : List (L2.Key × IV)} (e : dictIV v h = some kvs) (q : RV X.K G μ H v x) :
    ∃ a gs, x = .ref a ∧ RD X.K G μ H kvs gs ∧ (a == sysModules) = false ∧ ∃ vs, L2.KV gs vs ∧ s.heap.DictOf (L2.mixKind X.prog X.w) a vs := by
  cases v with
  | kdc ks xs =>
    cases e
    obtain ⟨a, ys, rfl, hk, q1⟩ := q
    obtain ⟨h1, vs, h2, h3⟩ := kd a ks ys hk s.heap I.kIn
    exact ⟨a, _, rfl, rd_zip q1, h1, vs, h2, h3⟩
  | ref i =>
    cases hc : h[i]? with
    | none => simp only [dictIV, hc] at e; cases e
    | some c =>
      cases c with
      | lst _ => simp only [dictIV, hc] at e; cases e
      | ins _ _ => simp only [dictIV, hc] at e; cases e
      | dct kvs' =>
        simp only [dictIV, hc] at e
        cases e
        obtain ⟨a, gs, rfl, hi, e1, q1⟩ := cell_dct r hc q
        obtain ⟨_, h1, vs, h2, h3⟩ := L2.dk_of I.hok e1
        exact ⟨a, gs, rfl, q1, h1, vs, h2, h3⟩
  | _ => cases e
theorem key_rv {K : PySem.W.Frag} {G : PEnv} {μ : Emb} {H : Hp} {v : IV} {x : V} {k : L2.Key} (e : keyIV v = some k) (q : RV K G μ H v x) : x = L2.kV k := by
  cases v with
  | int i => cases e; exact q
  | str i => cases e; exact q
  | _ => cases e
end MP
set_option maxRecDepth 100000
set_option maxHeartbeats 4000000
/-! MPh: operators, comparisons, truth. -/
namespace MP
open PySem PySem.Spec PyProof.Rows
open L2 (V HO Hp upd SqL SqT Rd upd_same upd_ne RelV Vals ne_of_none R2 OpR VK CallR IxR PSet MtR Cx TruV Dp DpAll)
def pyBop : Bop → Operator
  | .add => .Add
  | .sub => .Sub
  | .mul => .Mult
  | .fdiv => .FloorDiv
  | .mod => .Mod
  | .pow => .Pow
theorem bop_of {op : Bop} {o : Operator} (h : bopOk op o = true) : o = pyBop op := by
  cases op <;> cases o <;> first | rfl | cases h
def pyCop : Cop → CmpOp
  | .eq => .Eq
  | .ne => .NotEq
  | .lt => .Lt
  | .le => .LtE
  | .gt => .Gt
  | .ge => .GtE
  | .isN => .Is
  | .notN => .IsNot
  | .inn => .In
  | .nin => .NotIn
theorem cop_of {op : Cop} {o : CmpOp} (h : copOk op o = true) : o = pyCop op := by
  cases op <;> cases o <;> first | rfl | cases h
def rBin (K : PySem.W.Frag) (G : PEnv) (op : Bop) : R2 := fun x y H Q => ∃ μ h xv yv v h', Rp K G μ h H ∧ RV K G μ H xv x ∧ RV K G μ H yv y ∧ binIV op xv yv h = some (v, h') ∧ Fin K G μ H v h' Q
theorem ite_some {α : Type} {c : Bool} {a b : α} (h : (if c = true then some a else none) = some b) : c = true ∧ a = b := by
  cases c with
  | false => cases h
  | true => exact ⟨rfl, Option.some.inj h⟩
theorem two {a b : Bool} (h : (a && b) = true) : a = true ∧ b = true := Bool.and_eq_true_iff.mp h
theorem okMul_ok {i j : Int} (h : okMul i j = true) : L2.CMul i j ∨ L2.CMulW i j := by
  simp only [okMul, Bool.or_eq_true, Bool.and_eq_true, decide_eq_true_eq] at h
  rcases h with (h | h) | h
  · exact .inl (.inl h)
  · exact .inl (.inr h)
  · exact .inr h
theorem okDiv_ok {j : Int} (h : okDiv j = true) : 0 < j ∧ (j < 1073741824 ∨ j.natAbs.log2 < 9000) := by
  simpa only [okDiv, Bool.or_eq_true, Bool.and_eq_true, decide_eq_true_eq] using h
theorem wmul_self (l : Addr) (items : Array Value) (n : Nat) (dd : Option Addr) (sl : Array (Option Value)) (u : Tok) :
    Meets (Builtin.«tuple.__mul__» ⟨[.ref l, .int 1 u], []⟩) (fun _ R s => s.heap.get? l = some { cls := .type "tuple", dict := dd, data := .seq items n, slots := sl } ∧ R (.ok (.ret (Value.ref l))) s) :=
  .of_wp fun prog w A R s h => by
    obtain ⟨hp, g, d, tk, os⟩ := s
    obtain ⟨hl, h⟩ := h
    have f1 := AutoSeq1.idx_int
    wp_walk using wpAny_loadPart' hl
    exact ⟨_, rfl, h⟩
/-- a tuple once over -/
theorem op_one {X : Cx} : OpR X (binaryOp .Mult) (fun x y H Q => ∃ (l : Addr) (xs : List V), x = .ref l ∧ y = .int 1 ∧ SqT X.K H l xs ∧ Q (.ref l) H) := by
  intro pins s σ H x y v u Q I rx ry ⟨l, xs, e1, e2, hT, q⟩
  subst e1 e2
  cases rx
  obtain ⟨t, rfl⟩ := ry
  obtain ⟨its, r, ⟨⟨cls, dd, data, sl⟩, ho, hc, n, hd⟩, hs⟩ := I.tuple hT
  simp only at hc hd
  subst hc hd
  exact wpAny_binaryOp_repeat_ref (T := "tuple") (U := "int") (by decide) ⟨_, ho, rfl⟩ (fun s' => typeIs_int s' 1 t) L2.noFill_tuple_mul F.fills_int_mul F.slot_int_rmul L2.repeat_tuple F.slot_int_index.lookup
    (call_meets F.slot_int_rmul (typeIs_int s 1 t) F.entry_int_rmul (F.args_int_rmul_2 _ _) (L2.int_rmul_tuple 1 t l its.toArray n dd sl)
      ⟨ho, rfl, ⟨_, ho, rfl⟩, call_meets F.slot_tuple_mul ⟨_, ho, rfl⟩ F.entry_tuple_mul (F.args_tuple_mul_2 _ _) (wmul_self l its.toArray n dd sl t) ⟨ho, .ref l, H, I, rfl, q⟩⟩)
section
variable {X : Cx} {G : PEnv}
theorem rvs_rep {K : PySem.W.Frag} {μ : Emb} {H : Hp} {xs : List IV} {ys : List V} (q : RVs K G μ H xs ys) : ∀ n : Nat, RVs K G μ H (List.replicate n xs).flatten (List.replicate n ys).flatten
  | 0 => rfl
  | n + 1 => by
    rw [List.replicate_succ, List.replicate_succ, List.flatten_cons, List.flatten_cons]
    exact q.append (rvs_rep q n)
theorem op_bin (op : Bop) : OpR X (binaryOp (pyBop op)) (rBin X.K G op) := by
  intro pins s σ H x y v u Q I rx ry h
  obtain ⟨μ, hh, xv, yv, z, h', r, qx, qy, e, f⟩ := h
  have nts : ∀ {i j : Int}, xv = .int i → yv = .int j → x = .int i ∧ y = .int j := fun ex ey => by
    subst ex ey
    exact ⟨qx, qy⟩
  cases op with
  | add =>
    cases xv with
    | int i =>
      cases yv with
      | int j =>
        cases e
        obtain ⟨rfl, rfl⟩ := nts rfl rfl
        exact L2.op_add pins s σ H _ _ v u Q I rx ry ⟨i, j, rfl, rfl, f.here r rfl⟩
      | _ => cases e
    | str a =>
      cases yv with
      | str b =>
        obtain ⟨hs, e⟩ := ite_some e
        cases e
        have qx : x = _ := qx
        have qy : y = _ := qy
        subst qx qy
        exact L2.op_add_str pins s σ H _ _ v u Q I rx ry ⟨a, b, rfl, rfl, sz hs, f.here r rfl⟩
      | _ => cases e
    | tup a =>
      cases yv with
      | tup b =>
        obtain ⟨hs, e⟩ := ite_some e
        cases e
        obtain ⟨p, ps, rfl, q1, q2⟩ := qx
        obtain ⟨p', ps', rfl, q1', q2'⟩ := qy
        have l1 := q2.length
        have l2 := q2'.length
        refine L2.op_catA pins s σ H _ _ v u Q I rx ry ⟨p, p', ps, ps', rfl, rfl, q1.sqt, q1'.sqt, by have := sz hs; omega, fun z => ?_, fun _ z => ?_, fun _ _ w hw => ?_⟩
        · have e0 : a = [] := by
            cases a with
            | nil => rfl
            | cons _ _ => rw [z] at l1; cases l1
          subst e0
          exact f.here r ⟨p', ps', rfl, q1', q2'⟩
        · have e0 : b = [] := by
            cases b with
            | nil => rfl
            | cons _ _ => rw [z] at l2; cases l2
          subst e0
          exact f.here r ⟨p, ps, rfl, q1, by rw [List.append_nil]; exact q2⟩
        · exact f.tup r (q2.append q2') hw
      | _ => cases e
    | ref i =>
      cases yv with
      | ref j =>
        cases hi : hh[i]? with
        | none => simp only [binIV, hi] at e; cases e
        | some ci =>
          cases ci with
          | ins _ _ => simp only [binIV, hi] at e; cases e
          | dct _ => simp only [binIV, hi] at e; cases e
          | lst xs =>
            cases hj : hh[j]? with
            | none => simp only [binIV, hi, hj] at e; cases e
            | some cj =>
              cases cj with
              | ins _ _ => simp only [binIV, hi, hj] at e; cases e
              | dct _ => simp only [binIV, hi, hj] at e; cases e
              | lst ys =>
                simp only [binIV, hi, hj] at e
                obtain ⟨hs, e⟩ := ite_some e
                cases e
                obtain ⟨p, ps, rfl, _, e1, q1⟩ := cell_lst r hi qx
                obtain ⟨p', ps', rfl, _, e1', q1'⟩ := cell_lst r hj qy
                have l1 := q1.length
                have l2 := q1'.length
                exact L2.op_cat pins s σ H _ _ v u Q I rx ry ⟨p, p', ps, ps', rfl, rfl, e1, e1', by have := sz hs; omega, fun w hw => f.lst r (q1.append q1') hw⟩
      | _ => cases e
    | _ => cases yv <;> cases e
  | sub =>
    cases xv with
    | int i =>
      cases yv with
      | int j =>
        cases e
        obtain ⟨rfl, rfl⟩ := nts rfl rfl
        exact L2.op_sub pins s σ H _ _ v u Q I rx ry ⟨i, j, rfl, rfl, f.here r rfl⟩
      | _ => cases e
    | _ => cases yv <;> cases e
  | mul =>
    cases xv with
    | int i =>
      cases yv with
      | int j =>
        obtain ⟨hs, e⟩ := ite_some e
        cases e
        obtain ⟨rfl, rfl⟩ := nts rfl rfl
        rcases okMul_ok hs with c | c
        · exact L2.op_mul pins s σ H _ _ v u Q I rx ry ⟨i, j, rfl, rfl, c, f.here r rfl⟩
        · exact L2.op_mulW pins s σ H _ _ v u Q I rx ry ⟨i, j, rfl, rfl, c, f.here r rfl⟩
      | _ => cases e
    | tup a =>
      cases yv with
      | int k =>
        have qy : y = _ := qy
        subst qy
        simp only [binIV] at e
        obtain ⟨p, ps, rfl, q1, q2⟩ := qx
        by_cases h1 : k = 1
        · subst h1
          rw [if_pos rfl] at e
          cases e
          exact op_one pins s σ H _ _ v u Q I rx ry ⟨p, ps, rfl, rfl, q1.sqt, f.here r ⟨p, ps, rfl, q1, q2⟩⟩
        · rw [if_neg h1] at e
          obtain ⟨hs, e⟩ := ite_some e
          cases e
          obtain ⟨k1, k2⟩ := two hs
          obtain ⟨k2, k3⟩ := two k2
          obtain ⟨k3, k4⟩ := two k3
          have l1 := q2.length
          refine L2.op_repT pins s σ H _ _ v u Q I rx ry ⟨p, k, ps, rfl, rfl, q1.sqt, fun z => ?_, of_decide_eq_true k2, of_decide_eq_true k3, by rw [← l1]; exact of_decide_eq_true k4, fun w hw => f.tup r (rvs_rep q2 k.toNat) hw⟩
          rw [z] at l1
          cases a with
          | nil => cases k1
          | cons _ _ => cases l1
      | _ => cases e
    | ref i =>
      cases yv with
      | int k =>
        cases hi : hh[i]? with
        | none => simp only [binIV, hi] at e; cases e
        | some ci =>
          cases ci with
          | ins _ _ => simp only [binIV, hi] at e; cases e
          | dct _ => simp only [binIV, hi] at e; cases e
          | lst xs =>
            simp only [binIV, hi] at e
            obtain ⟨hs, e⟩ := ite_some e
            cases e
            obtain ⟨k1, k2⟩ := two hs
            obtain ⟨k3, k4⟩ := two k1
            obtain ⟨p, ps, rfl, _, e1, q1⟩ := cell_lst r hi qx
            have qy : y = _ := qy
            subst qy
            have l1 := q1.length
            exact L2.op_rep pins s σ H _ _ v u Q I rx ry ⟨p, k, ps, rfl, rfl, e1, of_decide_eq_true k3, of_decide_eq_true k4, by rw [← l1]; exact sz k2, fun w hw => f.lst r (rvs_rep q1 k.toNat) hw⟩
      | _ => cases e
    | _ => cases yv <;> cases e
  | fdiv =>
    cases xv with
    | int i =>
      cases yv with
      | int j =>
        obtain ⟨hs, e⟩ := ite_some e
        cases e
        obtain ⟨rfl, rfl⟩ := nts rfl rfl
        obtain ⟨h0, c | c⟩ := okDiv_ok hs
        · exact L2.op_fdiv pins s σ H _ _ v u Q I rx ry ⟨i, j, rfl, rfl, ⟨h0, c⟩, f.here r rfl⟩
        · exact L2.op_fdivW pins s σ H _ _ v u Q I rx ry ⟨i, j, rfl, rfl, ⟨h0, c⟩, f.here r rfl⟩
      | _ => cases e
    | _ => cases yv <;> cases e
  | mod =>
    cases xv with
    | int i =>
      cases yv with
      | int j =>
        obtain ⟨hs, e⟩ := ite_some e
        cases e
        obtain ⟨rfl, rfl⟩ := nts rfl rfl
        exact L2.op_mod pins s σ H _ _ v u Q I rx ry ⟨i, j, rfl, rfl, of_decide_eq_true hs, f.here r rfl⟩
      | _ => cases e
    | _ => cases yv <;> cases e
  | pow =>
    cases xv with
    | int i =>
      cases yv with
      | int j =>
        obtain ⟨hs, e⟩ := ite_some e
        cases e
        obtain ⟨rfl, rfl⟩ := nts rfl rfl
        obtain ⟨hs, h3⟩ := two hs
        obtain ⟨h1, h2⟩ := two hs
        exact L2.op_pow pins s σ H _ _ v u Q I rx ry ⟨i, j, rfl, rfl, ⟨of_decide_eq_true h1, of_decide_eq_true h2, of_decide_eq_true h3⟩, f.here r rfl⟩
      | _ => cases e
    | _ => cases yv <;> cases e
def rCmp (K : PySem.W.Frag) (G : PEnv) (op : Cop) : R2 := fun x y H Q => ∃ μ h xv yv b, Rp K G μ h H ∧ RV K G μ H xv x ∧ RV K G μ H yv y ∧ cmpIV op xv yv h = some b ∧ Q (.bl b) H
theorem eqIV_ok {K : PySem.W.Frag} {μ : Emb} {h : Hpi} {H : Hp} (r : Rp K G μ h H) {xv yv : IV} {x y : V} {b : Bool} (e : eqIV h xv yv = some b) (qx : RV K G μ H xv x) (qy : RV K G μ H yv y) :
    ∃ d e', Dp K H x d ∧ Dp K H y e' ∧ SeqAt.shaped d = true ∧ SeqAt.shaped e' = true ∧ PyData.eqv d e' = b := by
  unfold eqIV at e
  cases e1 : toD h 60 xv with
  | none => rw [e1] at e; cases e
  | some d =>
    cases e2 : toD h 60 yv with
    | none => rw [e1, e2] at e; cases e
    | some d' =>
      rw [e1, e2] at e
      obtain ⟨hs, e⟩ := ite_some e
      obtain ⟨h1, h2⟩ := two hs
      exact ⟨d, d', dp_of r _ e1 qx, dp_of r _ e2 qy, h1, h2, e⟩
theorem is_non {K : PySem.W.Frag} {μ : Emb} {H : Hp} {xv : IV} {x : V} (q : RV K G μ H xv x) : decide (x = V.non) = (match xv with | .non => true | _ => false) := by
  cases xv with
  | non =>
    have q : x = _ := q
    subst q; rfl
  | bl b =>
    have q : x = _ := q
    subst q; rfl
  | int i =>
    have q : x = _ := q
    subst q; rfl
  | str i =>
    have q : x = _ := q
    subst q; rfl
  | tup _ => obtain ⟨_, _, rfl, _⟩ := q; rfl
  | kls _ => obtain ⟨_, _, rfl, _⟩ := q; rfl
  | ref _ => obtain ⟨_, rfl, _⟩ := q; rfl
  | kdc _ _ => obtain ⟨_, _, rfl, _⟩ := q; rfl
  | err =>
    obtain ⟨_, rfl⟩ := q
    rfl
  | act =>
    obtain ⟨_, _, rfl⟩ := q
    rfl
theorem inIV_ok {K : PySem.W.Frag} {μ : Emb} {h : Hpi} {H : Hp} (r : Rp K G μ h H) {xv yv : IV} {x y : V} {b : Bool} (e0 : dictIV yv h = none) (e : inIV h xv yv = some b) (qx : RV K G μ H xv x) (qy : RV K G μ H yv y) :
    ∃ d ds, Dp K H x d ∧ Dp K H y (.list ds) ∧ SeqAt.shaped d = true ∧ SeqAt.shaped (.list ds) = true ∧ (ds.any fun z => PyData.eqv z d) = b := by
  unfold inIV at e
  rw [e0] at e
  dsimp only at e
  cases e1 : toD h 60 xv with
  | none => rw [e1] at e; cases e
  | some d =>
    cases e2 : toD h 60 yv with
    | none => rw [e1, e2] at e; cases e
    | some d2 =>
      rw [e1, e2] at e
      cases d2 with
      | list ds =>
        obtain ⟨hs, e⟩ := ite_some e
        obtain ⟨s1, s2⟩ := two hs
        exact ⟨d, ds, dp_of r 60 e1 qx, dp_of r 60 e2 qy, s1, s2, e⟩
      | _ => cases e
theorem inD_ok {X : Cx} {G : PEnv} {μ : Emb} {h : Hpi} {H : Hp} {pins : List (Addr × Obj)} {σ : LSt} {s : Shared} (I : L2.Inv X pins σ H s) (kd : KdOk G X.K X.prog X.w) (r : Rp X.K G μ h H) {xv yv : IV} {x y : V} {kvs : List (L2.Key × IV)} {b : Bool} (e0 : dictIV yv h = some kvs) (e : inIV h xv yv = some b)
    (qx : RV X.K G μ H xv x) (qy : RV X.K G μ H yv y) : ∃ a k gs, x = L2.kV k ∧ y = .ref a ∧ (a == sysModules) = false ∧ (L2.valV gs k).isSome = b ∧ ∃ vs, L2.KV gs vs ∧ s.heap.DictOf (L2.mixKind X.prog X.w) a vs := by
  obtain ⟨a, gs, rfl, q1, h1, vs, h2, h3⟩ := dict_of I kd r e0 qy
  unfold inIV at e
  rw [e0] at e
  dsimp only at e
  cases ek : keyIV xv with
  | none => rw [ek] at e; cases e
  | some k =>
    rw [ek] at e
    have e : (lookK k kvs).isSome = b := Option.some.inj e
    exact ⟨a, k, gs, key_rv ek qx, rfl, h1, by rw [← q1.look.2]; exact e, vs, h2, h3⟩
theorem op_cmp (hu : X.A.units + 65 < cLine) (kd : KdOk G X.K X.prog X.w) (op : Cop) : OpR X (compareOp (pyCop op)) (rCmp X.K G op) := by
  intro pins s σ H x y v u Q I rx ry h
  obtain ⟨μ, hh, xv, yv, b, r, qx, qy, e, q⟩ := h
  have nts : ∀ {i j : Int}, xv = .int i → yv = .int j → x = .int i ∧ y = .int j := fun ex ey => by
    subst ex ey
    exact ⟨qx, qy⟩
  cases op with
  | eq =>
    obtain ⟨d, d', h1, h2, h3, h4, h5⟩ := eqIV_ok r e qx qy
    exact L2.op_eqD (by omega) pins s σ H x y v u Q I rx ry ⟨d, d', h1, h2, h3, h4, by rw [h5]; exact q⟩
  | ne =>
    cases e1 : eqIV hh xv yv with
    | none => simp only [cmpIV, e1] at e; cases e
    | some c =>
      simp only [cmpIV, e1] at e
      have e : (!c) = b := Option.some.inj e
      obtain ⟨d, d', h1, h2, h3, h4, h5⟩ := eqIV_ok r e1 qx qy
      exact L2.op_neD (by omega) pins s σ H x y v u Q I rx ry ⟨d, d', h1, h2, h3, h4, by rw [h5, e]; exact q⟩
  | isN =>
    cases yv with
    | non =>
      have qy : y = _ := qy
      subst qy
      refine L2.op_isN pins s σ H x _ v u Q I rx ry ⟨rfl, ?_⟩
      rw [is_non qx]
      cases xv <;> cases e <;> exact q
    | _ => cases e
  | notN =>
    cases yv with
    | non =>
      have qy : y = _ := qy
      subst qy
      refine L2.op_notN pins s σ H x _ v u Q I rx ry ⟨rfl, ?_⟩
      rw [is_non qx]
      cases xv <;> cases e <;> exact q
    | _ => cases e
  | lt =>
    cases xv with
    | int i =>
      cases yv with
      | int j =>
        cases e
        obtain ⟨rfl, rfl⟩ := nts rfl rfl
        exact L2.op_lt pins s σ H _ _ v u Q I rx ry ⟨i, j, rfl, rfl, q⟩
      | _ => cases e
    | _ => cases yv <;> cases e
  | le =>
    cases xv with
    | int i =>
      cases yv with
      | int j =>
        cases e
        obtain ⟨rfl, rfl⟩ := nts rfl rfl
        exact L2.op_le pins s σ H _ _ v u Q I rx ry ⟨i, j, rfl, rfl, q⟩
      | _ => cases e
    | _ => cases yv <;> cases e
  | gt =>
    cases xv with
    | int i =>
      cases yv with
      | int j =>
        cases e
        obtain ⟨rfl, rfl⟩ := nts rfl rfl
        exact L2.op_gt pins s σ H _ _ v u Q I rx ry ⟨i, j, rfl, rfl, q⟩
      | _ => cases e
    | _ => cases yv <;> cases e
  | ge =>
    cases xv with
    | int i =>
      cases yv with
      | int j =>
        cases e
        obtain ⟨rfl, rfl⟩ := nts rfl rfl
        exact L2.op_ge pins s σ H _ _ v u Q I rx ry ⟨i, j, rfl, rfl, q⟩
      | _ => cases e
    | _ => cases yv <;> cases e
  | inn =>
    cases e0 : dictIV yv hh with
    | some kvs =>
      obtain ⟨a, k, gs, rfl, rfl, k1, k2, vs, k3, k4⟩ := inD_ok I kd r e0 e qx qy
      cases (show u = Value.ref a from ry)
      refine wpAny_in_of (L2.kV_is rx) k1 k4.mapOf ?_
      rw [← (k3.val k).isSome_eq, k2]
      exact ⟨.bl b, H, I.tok _, rfl, q⟩
    | none =>
    obtain ⟨d, ds, h1, h2, h3, h4, h5⟩ := inIV_ok r e0 e qx qy
    exact L2.op_inD hu pins s σ H x y v u Q I rx ry ⟨d, ds, h1, h2, h3, h4, by rw [h5]; exact q⟩
  | nin =>
    cases e1 : inIV hh xv yv with
    | none => simp only [cmpIV, e1] at e; cases e
    | some c =>
      simp only [cmpIV, e1] at e
      have e : (!c) = b := Option.some.inj e
      cases e0 : dictIV yv hh with
      | some kvs =>
        obtain ⟨a, k, gs, rfl, rfl, k1, k2, vs, k3, k4⟩ := inD_ok I kd r e0 e1 qx qy
        cases (show u = Value.ref a from ry)
        refine wpAny_notIn_of (L2.kV_is rx) k1 k4.mapOf ?_
        rw [← (k3.val k).isSome_eq, k2, e]
        exact ⟨.bl b, H, I.tok _, rfl, q⟩
      | none =>
      obtain ⟨d, ds, h1, h2, h3, h4, h5⟩ := inIV_ok r e0 e1 qx qy
      exact L2.op_notInD hu pins s σ H x y v u Q I rx ry ⟨d, ds, h1, h2, h3, h4, by rw [h5, e]; exact q⟩
theorem tru_of {K : PySem.W.Frag} {μ : Emb} {h : Hpi} {H : Hp} (r : Rp K G μ h H) {v : IV} {x : V} {b : Bool} (e : truIV v h = some b) (q : RV K G μ H v x) : TruV K x H b := by
  cases v with
  | err => cases e
  | act => cases e
  | kdc _ _ => cases e
  | non =>
    have q : x = _ := q
    subst q; cases e; rfl
  | bl c =>
    have q : x = _ := q
    subst q; cases e; rfl
  | int i =>
    have q : x = _ := q
    subst q; cases e; rfl
  | str y =>
    have q : x = _ := q
    subst q
    obtain ⟨hs, e⟩ := ite_some e
    exact ⟨sz hs, e.symm⟩
  | tup xs =>
    obtain ⟨a, ys, rfl, q1, q2⟩ := q
    cases e
    refine .inr (.inl ⟨ys, q1.sqt, ?_⟩)
    have := q2.length
    cases xs <;> cases ys <;> first | rfl | cases this
  | kls xs =>
    obtain ⟨a, ys, rfl, q1, q2⟩ := q
    cases e
    refine .inl ⟨ys, q1.sql, ?_⟩
    have := q2.length
    cases xs <;> cases ys <;> first | rfl | cases this
  | ref i =>
    cases hc : h[i]? with
    | none => simp only [truIV, hc] at e; cases e
    | some c =>
      cases c with
      | ins _ _ => simp only [truIV, hc] at e; cases e
      | dct _ => simp only [truIV, hc] at e; cases e
      | lst xs =>
        simp only [truIV, hc] at e
        cases e
        obtain ⟨a, ys, rfl, _, e1, q2⟩ := cell_lst r hc q
        refine .inl ⟨ys, .inl (.inl e1), ?_⟩
        have := q2.length
        cases xs <;> cases ys <;> first | rfl | cases this
end
end MP
set_option maxRecDepth 100000
set_option maxHeartbeats 4000000
/-! MPi: built-ins, subscripts, methods by values. -/
namespace MP
open PySem PySem.Spec PyProof.Rows
open L2 (V HO Hp upd SqL SqT Rd upd_same upd_ne RelV Vals ne_of_none R2 OpR VK CallR IxR PSet MtR Cx TruV Dp DpAll TyX)
section
variable {X : Cx} {G : PEnv}
/-- isinstance's class by its name -/
def tyS : Ty → Option String
  | .int => some "int"
  | .bool => some "bool"
  | .str => some "str"
  | .tuple => some "tuple"
  | .list => some "list"
  | .dict => some "dict"
  | .cls _ => none
theorem ty_lst {K : PySem.W.Frag} {μ : Emb} {H : Hp} {a : Addr} {ys : List V} (q : SqF K μ H a ys) : TyX K H (.ref a) (.type "list") := by
  rcases q with ⟨o, its, n, h1, h2, _⟩ | ⟨h | ⟨o, h⟩, _⟩
  · exact .kList h1 h2
  · exact .base (.lst h)
  · exact .base (.frz h)
theorem ty_tup {K : PySem.W.Frag} {μ : Emb} {H : Hp} {a : Addr} {ys : List V} (q : SqU K μ H a ys) : TyX K H (.ref a) (.type "tuple") := by
  rcases q with ⟨o, its, n, h1, h2, _⟩ | ⟨h | ⟨o, h⟩, _⟩
  · exact .kTuple h1 h2
  · exact .base (.tup h)
  · exact .fTuple h
theorem kit_all {K : PySem.W.Frag} : ∀ T ∈ ["NoneType", "bool", "int", "str", "tuple", "list"], ∀ U ∈ ["int", "bool", "str", "tuple", "list", "dict"], L2.kitB T U = some (decide (T = U) || (decide (T = "bool") && decide (U = "int"))) := by
  decide +kernel
theorem ty_of {K : PySem.W.Frag} {μ : Emb} {h : Hpi} {H : Hp} (r : Rp K G μ h H) {t : Ty} {v : IV} {x : V} {b : Bool} {U : String} (e : tyIV t v h = some b) (hU : tyS t = some U) (q : RV K G μ H v x) : ∃ T, TyX K H x (.type T) ∧ PySem.W.kitOne K (.type T) (.type U) = some b := by
  have key : ∀ T ∈ ["NoneType", "bool", "int", "str", "tuple", "list"], PySem.W.kitOne K (.type T) (.type U) = some (decide (T = U) || (decide (T = "bool") && decide (U = "int"))) := fun T hT => by
    refine L2.kit_ty (kit_all (K := K) T hT U ?_)
    cases t <;> cases hU <;> decide
  have fin : ∀ T ∈ ["NoneType", "bool", "int", "str", "tuple", "list"], (decide (T = U) || (decide (T = "bool") && decide (U = "int"))) = b → PySem.W.kitOne K (.type T) (.type U) = some b := fun T hT hb => by
    rw [key T hT, hb]
  cases v with
  | non =>
    have q : x = _ := q
    subst q
    exact ⟨_, .base .non, fin _ (by decide) (by cases t <;> cases hU <;> cases e <;> rfl)⟩
  | bl c =>
    have q : x = _ := q
    subst q
    exact ⟨_, .base (.bl c), fin _ (by decide) (by cases t <;> cases hU <;> cases e <;> rfl)⟩
  | int c =>
    have q : x = _ := q
    subst q
    exact ⟨_, .base (.int c), fin _ (by decide) (by cases t <;> cases hU <;> cases e <;> rfl)⟩
  | str c =>
    have q : x = _ := q
    subst q
    exact ⟨_, .base (.str c), fin _ (by decide) (by cases t <;> cases hU <;> cases e <;> rfl)⟩
  | tup xs =>
    obtain ⟨a, ys, rfl, q1, q2⟩ := q
    exact ⟨_, ty_tup q1, fin _ (by decide) (by cases t <;> cases hU <;> cases e <;> rfl)⟩
  | kls xs =>
    obtain ⟨a, ys, rfl, q1, q2⟩ := q
    exact ⟨_, ty_lst q1, fin _ (by decide) (by cases t <;> cases hU <;> cases e <;> rfl)⟩
  | err => cases e
  | act => cases e
  | kdc _ _ => cases e
  | ref i =>
    cases hc : h[i]? with
    | none => simp only [tyIV, hc] at e; cases e
    | some c =>
      cases c with
      | ins _ _ => simp only [tyIV, hc] at e; cases e
      | dct _ => simp only [tyIV, hc] at e; cases e
      | lst xs =>
        simp only [tyIV, hc] at e
        obtain ⟨a, ys, rfl, _, e1, q2⟩ := cell_lst r hc q
        exact ⟨_, .base (.lst e1), fin _ (by decide) (by cases t <;> cases hU <;> cases e <;> rfl)⟩
/-! ### built-ins -/
def biV : Bi → Value
  | .len => .builtin "len"
  | .abs => .builtin "abs"
  | .max => .builtin "max"
  | .min => .builtin "min"
  | .int => .type "int"
  | .all => .builtin "all"
  | .tuple => .type "tuple"
  | .list => .type "list"
  | .isi _ => .builtin "isinstance"
  | .divmod => .builtin "divmod"
  | .repr => .builtin "repr"
  | .sorted => .builtin "sorted"
def rBi (K : PySem.W.Frag) (G : PEnv) (b : Bi) : List V → Hp → VK → Prop := fun xs H Q => ∃ μ h vs v h', Rp K G μ h H ∧ RVs K G μ H vs xs ∧ biIV b vs h = some (v, h') ∧ Fin K G μ H v h' Q
theorem rvs1 {K : PySem.W.Frag} {μ : Emb} {H : Hp} {v : IV} {xs : List V} (q : RVs K G μ H [v] xs) : ∃ x, xs = [x] ∧ RV K G μ H v x := by
  obtain ⟨y, r, rfl, q1, q2⟩ := q
  have q2 : r = [] := q2
  subst q2
  exact ⟨y, rfl, q1⟩
theorem rvs2 {K : PySem.W.Frag} {μ : Emb} {H : Hp} {v w : IV} {xs : List V} (q : RVs K G μ H [v, w] xs) : ∃ x y, xs = [x, y] ∧ RV K G μ H v x ∧ RV K G μ H w y := by
  obtain ⟨y, r, rfl, q1, q2⟩ := q
  obtain ⟨z, rfl, q3⟩ := rvs1 q2
  exact ⟨y, z, rfl, q1, q3⟩
theorem allBl_ok {K : PySem.W.Frag} {μ : Emb} {H : Hp} : ∀ {xs : List IV} {ys : List V} {b : Bool}, allBl xs = some b → RVs K G μ H xs ys → ∃ bs : List Bool, ys = bs.map V.bl ∧ bs.all id = b
  | [], ys, _, e, q => by
    have q : ys = [] := q
    cases e
    exact ⟨[], q, rfl⟩
  | x :: xs, ys, b, e, q => by
    cases x with
    | bl c =>
      simp only [allBl] at e
      cases e2 : allBl xs with
      | none => rw [e2] at e; cases e
      | some d =>
        rw [e2] at e
        have e : (c && d) = b := Option.some.inj e
        obtain ⟨y, r, rfl, q1, q2⟩ := q
        have q1 : y = _ := q1
        subst q1
        obtain ⟨bs, rfl, e3⟩ := allBl_ok e2 q2
        exact ⟨c :: bs, rfl, by rw [← e, ← e3]; rfl⟩
    | _ => cases e
theorem len_ok {K : PySem.W.Frag} {μ : Emb} {h : Hpi} {H : Hp} (r : Rp K G μ h H) {v : IV} {x : V} {n : Nat} (e : lenIV v h = some n) (q : RV K G μ H v x) : L2.LenV K x H n := by
  cases v with
  | str y =>
    have q : x = _ := q
    subst q
    obtain ⟨hs, e⟩ := ite_some e
    exact ⟨sz hs, e.symm⟩
  | tup xs =>
    obtain ⟨a, ys, rfl, q1, q2⟩ := q
    cases e
    exact .inr ⟨ys, q1.sqt, q2.length⟩
  | kls xs =>
    obtain ⟨a, ys, rfl, q1, q2⟩ := q
    cases e
    exact .inl ⟨ys, q1.sql, q2.length⟩
  | ref i =>
    cases hc : h[i]? with
    | none => simp only [lenIV, hc] at e; cases e
    | some c =>
      cases c with
      | ins _ _ => simp only [lenIV, hc] at e; cases e
      | dct _ => simp only [lenIV, hc] at e; cases e
      | lst xs =>
        simp only [lenIV, hc] at e
        cases e
        obtain ⟨a, ys, rfl, _, e1, q2⟩ := cell_lst r hc q
        exact .inl ⟨ys, .inl (.inl e1), q2.length⟩
  | _ => cases e
theorem lstIV_ok {K : PySem.W.Frag} {μ : Emb} {h : Hpi} {H : Hp} (r : Rp K G μ h H) {v : IV} {x : V} {xs : List IV} (e : lstIV v h = some xs) (q : RV K G μ H v x) : ∃ a ys, x = .ref a ∧ RVs K G μ H xs ys ∧ SqL K H a ys := by
  cases v with
  | kls zs =>
    cases e
    obtain ⟨a, ys, rfl, q1, q2⟩ := q
    exact ⟨a, ys, rfl, q2, q1.sql⟩
  | ref i =>
    cases hc : h[i]? with
    | none => simp only [lstIV, hc] at e; cases e
    | some c =>
      cases c with
      | ins c fs => simp only [lstIV, hc] at e; cases e
      | dct _ => simp only [lstIV, hc] at e; cases e
      | lst zs =>
        simp only [lstIV, hc] at e
        cases e
        obtain ⟨a, ys, rfl, _, e1, q1⟩ := cell_lst r hc q
        exact ⟨a, ys, rfl, q1, .inl (.inl e1)⟩
  | _ => cases e
theorem repr_ok (hg : X.A.guards = some []) (hu : X.A.units + 64 < cLine) {pins : List (Addr × Obj)} {s : Shared} {σ : LSt} {H : Hp} {x : V} {u : Value} {d : PyData} {Q : VK} (I : L2.Inv X pins σ H s) (ru : RelV x u) (dp : Dp X.K H x d)
    (h1 : d.showable = true) (h2 : d.hasDict = false) (h3 : d.depth ≤ 60) (h4 : d.shown.length ≤ sizeLine) (q : Q (.str d.shown) H) : wpAny (model X.prog X.w) X.A (PySem.call (.builtin "repr") [u]) (L2.EP X pins σ Q) X.xe s := by
  obtain ⟨as, rd⟩ := L2.Dp.reads I d x u dp ru
  cases dp with
  | non =>
    cases ru
    exact PySem.call_repr_gives (T := "NoneType") rfl PySem.F.slot_NoneType_repr PySem.F.entry_NoneType_repr (PySem.F.args_NoneType_repr_1 _) gives_none_repr ⟨.str _, H, I.tok _, ⟨_, rfl⟩, q⟩ rfl h4
  | bl b =>
    cases ru
    exact PySem.call_repr_gives (T := "bool") rfl PySem.F.slot_bool_repr PySem.F.entry_bool_repr (PySem.F.args_bool_repr_1 _) (gives_bool_repr b) ⟨.str _, H, I.tok _, ⟨_, rfl⟩, q⟩ rfl h4
  | int i =>
    obtain ⟨t, rfl⟩ := ru
    exact PySem.P.repr_of_int (of_decide_eq_true h1) ⟨.str _, H, I.tok _, ⟨_, rfl⟩, q⟩
  | str y =>
    obtain ⟨t, rfl⟩ := ru
    exact PySem.call_repr_gives (T := "str") rfl PySem.F.slot_str_repr PySem.F.entry_str_repr (PySem.F.args_str_repr_1 _) (gives_str_repr y t) ⟨.str _, H, I.tok _, ⟨_, rfl⟩, q⟩ rfl h4
  | lst _ _ =>
    cases ru
    exact repr_of_reads' rd h1 (fun z => by rw [h2] at z; cases z) hg (by omega) (fun _ _ e => e) (fun h' u tk hk => ⟨.str _, H, I.kept (t' := tk) hk, ⟨_, rfl⟩, q⟩) h4
  | tup _ _ =>
    cases ru
    exact repr_of_reads' rd h1 (fun z => by rw [h2] at z; cases z) hg (by omega) (fun _ _ e => e) (fun h' u tk hk => ⟨.str _, H, I.kept (t' := tk) hk, ⟨_, rfl⟩, q⟩) h4
/-! sorted pairs of ints -/
theorem insII_perm (p : Int × Int) : ∀ l : List (Int × Int), (insII p l).Perm (p :: l)
  | [] => List.Perm.refl _
  | q :: r => by
    unfold insII
    by_cases h : leII p q = true
    · rw [if_pos h]
    · rw [if_neg h]
      exact ((insII_perm p r).cons q).trans (List.Perm.swap p q r)
theorem srtII_perm : ∀ l : List (Int × Int), (srtII l).Perm l
  | [] => List.Perm.refl _
  | p :: r => (insII_perm p (srtII r)).trans ((srtII_perm r).cons p)
theorem leII_iff {p q : Int × Int} : leII p q = true ↔ (p.1 < q.1 ∨ (p.1 = q.1 ∧ p.2 ≤ q.2)) := by
  simp [leII]
theorem insII_srt (p : Int × Int) : ∀ l : List (Int × Int), l.Pairwise (fun a b => leII a b = true) → (insII p l).Pairwise (fun a b => leII a b = true)
  | [], _ => by simp [insII]
  | q :: r, h => by
    unfold insII
    by_cases c : leII p q = true
    · rw [if_pos c]
      refine List.pairwise_cons.mpr ⟨fun a ha => ?_, h⟩
      rcases List.mem_cons.mp ha with e | e
      · rw [e]; exact c
      · have h2 := (List.pairwise_cons.mp h).1 a e
        rw [leII_iff] at c h2 ⊢
        omega
    · rw [if_neg c]
      obtain ⟨h1, h2⟩ := List.pairwise_cons.mp h
      refine List.pairwise_cons.mpr ⟨fun a ha => ?_, insII_srt p r h2⟩
      rcases List.mem_cons.mp ((insII_perm p r).mem_iff.mp ha) with e | e
      · rw [e]
        rw [leII_iff] at c ⊢
        omega
      · exact h1 a e
theorem srtII_srt : ∀ l : List (Int × Int), (srtII l).Pairwise (fun a b => leII a b = true)
  | [] => List.Pairwise.nil
  | p :: r => insII_srt p _ (srtII_srt r)
theorem srtII_uniq : ∀ {l m : List (Int × Int)}, l.Perm m → l.Pairwise (fun a b => leII a b = true) → m.Pairwise (fun a b => leII a b = true) → l = m
  | [], m, h, _, _ => (List.Perm.eq_nil h.symm).symm
  | a :: l, [], h, _, _ => absurd h.length_eq (by simp)
  | a :: l, b :: m, h, hl, hm => by
    obtain ⟨a1, a2⟩ := List.pairwise_cons.mp hl
    obtain ⟨b1, b2⟩ := List.pairwise_cons.mp hm
    have e : a = b := by
      rcases List.mem_cons.mp (h.mem_iff.mp (List.mem_cons_self (a := a) (l := l))) with e | e
      · exact e
      · rcases List.mem_cons.mp (h.mem_iff.mpr (List.mem_cons_self (a := b) (l := m))) with e2 | e2
        · exact e2.symm
        · have h1 := b1 a e
          have h2 := a1 b e2
          rw [leII_iff] at h1 h2
          exact Prod.ext (by omega) (by omega)
    subst e
    rw [srtII_uniq (List.Perm.cons_inv h) a2 b2]
theorem pairII_eq {v : IV} {p : Int × Int} (e : pairII v = some p) : v = ivII p := by
  unfold pairII at e
  split at e
  · cases e; rfl
  · cases e
theorem pairs_mem {f : IV → Option (Int × Int)} : ∀ {xs : List IV} {ps : List (Int × Int)} , optMap f xs = some ps → xs.length = ps.length ∧ ∀ (i : Nat) (v : IV), xs[i]? = some v → ∃ p, f v = some p ∧ ps[i]? = some p
  | [], _, e => by
    cases e
    exact ⟨rfl, fun i v h => by simp at h⟩
  | x :: xs, ps, e => by
    simp only [optMap] at e
    cases e1 : f x with
    | none => rw [e1] at e; cases e
    | some p =>
      rw [e1] at e
      dsimp only at e
      cases e2 : optMap f xs with
      | none => rw [e2] at e; cases e
      | some qs =>
        rw [e2] at e
        cases e
        obtain ⟨h1, h2⟩ := pairs_mem e2
        refine ⟨by simp [h1], fun i v h => ?_⟩
        cases i with
        | zero => cases h; exact ⟨p, e1, rfl⟩
        | succ i => exact h2 i v h
theorem rvs_of_get {K : PySem.W.Frag} {μ : Emb} {H : Hp} : ∀ {xs : List IV} {ys : List V}, xs.length = ys.length → (∀ (i : Nat) (x : IV) (y : V), xs[i]? = some x → ys[i]? = some y → RV K G μ H x y) → RVs K G μ H xs ys
  | [], [], _, _ => rfl
  | [], _ :: _, h, _ => by cases h
  | _ :: _, [], h, _ => by cases h
  | x :: xs, y :: ys, h, q => ⟨y, ys, rfl, q 0 x y rfl rfl, rvs_of_get (by simpa using h) fun i a b ha hb => q (i + 1) a b ha hb⟩
open Classical in
/-- the two ints of the pair at a -/
noncomputable def kPair (K : PySem.W.Frag) (H : Hp) (v : V) : Int × Int := if h : ∃ p : Int × Int × Addr, v = .ref p.2.2 ∧ SqT K H p.2.2 [.int p.1, .int p.2.1] then (h.choose.1, h.choose.2.1) else (0, 0)
theorem kPair_eq {pins : List (Addr × Obj)} {s : Shared} {σ : LSt} {H : Hp} (I : L2.Inv X pins σ H s) {a : Addr} {i j : Int} (h : SqT X.K H a [.int i, .int j]) : kPair X.K H (.ref a) = (i, j) := by
  unfold kPair
  have ex : ∃ p : Int × Int × Addr, V.ref a = .ref p.2.2 ∧ SqT X.K H p.2.2 [.int p.1, .int p.2.1] := ⟨(i, j, a), rfl, h⟩
  rw [dif_pos ex]
  obtain ⟨e1, e2⟩ := ex.choose_spec
  have e1 := V.ref.inj e1
  rw [← e1] at e2
  have := I.tuple_inj h e2
  injection this with q1 q2
  injection q2 with q2 _
  exact Prod.ext (V.int.inj q1).symm (V.int.inj q2).symm
theorem sorted_ok {pins : List (Addr × Obj)} {s : Shared} {σ : LSt} {H : Hp} {a : Addr} {xs : List V} {Q : VK} (I : L2.Inv X pins σ H s) (hs : SqL X.K H a xs) (hx : ∀ x ∈ xs, ∃ t, x = V.ref t ∧ SqT X.K H t [.int (kPair X.K H x).1, .int (kPair X.K H x).2])
    (q : ∀ ys p, SrtO.Srtd (L2.ltP (kPair X.K H)) ys → ys.Perm xs → H p = none → Q (.ref p) (upd H p (.lst ys))) : wpAny (model X.prog X.w) X.A (PySem.call (.builtin "sorted") [.ref a]) (L2.EP X pins σ Q) X.xe s := by
  obtain ⟨its, rv, hl, hz⟩ := I.list hs
  obtain ⟨e1, e2⟩ := L2.refs_back rv fun x m => by
    obtain ⟨t, e, _⟩ := hx x m
    exact ⟨t, e⟩
  refine SrtO.sorted_pairsO (k := fun u => kPair X.K H (L2.backV u)) hl.isList (by rw [← rv.length]; exact hz) (fun v hv => ?_) fun h' d out h1 h2 kp hd hn => ?_
  · obtain ⟨t, rfl⟩ := e2 v hv
    have hm : V.ref t ∈ xs := by rw [e1]; exact List.mem_map.mpr ⟨_, hv, rfl⟩
    obtain ⟨t', e, ht⟩ := hx _ hm
    cases e
    obtain ⟨its2, r2, ⟨o, ho, hc, n, hd⟩, _⟩ := I.tuple ht
    obtain ⟨u1, u2, rfl, ri, rj⟩ := L2.vals2 r2
    obtain ⟨t1, rfl⟩ := ri
    obtain ⟨t2, rfl⟩ := rj
    exact ⟨t, o, t1, t2, n, rfl, ho, hc, hd⟩
  · have h3 : ∀ u ∈ out, ∃ a, u = Value.ref a := fun u hu => e2 u (h2.perm.mem_iff.mp hu)
    obtain ⟨n, hn⟩ := hn
    have hb : (out.map L2.backV).Perm xs := by
      rw [e1]
      exact h2.perm.map _
    exact ⟨.ref d, upd H d (.lst (out.map L2.backV)), I.laid (t' := s.toks) kp hd ⟨by rw [hb.length_eq]; exact hz, out, n, L2.vals_back h3, hn⟩, rfl, q _ d (SrtO.srtd_map h1) hb (I.hok.fresh hd)⟩
theorem call_bi (b : Bi) (hg : needGd b = true → X.A.guards = some []) (hu : X.A.units + 64 < cLine) (hc : needCalm b = true → X.calm = true) (hb : ∀ t, b ≠ .isi t) : CallR X (biV b) (rBi X.K G b) := by
  intro pins s σ H xs us Q I rr h
  obtain ⟨μ, hh, vs, v, h', r, q, e, f⟩ := h
  cases b with
  | isi t => exact absurd rfl (hb t)
  | len =>
    rcases vs with _ | ⟨a, _ | ⟨b, t⟩⟩
    · cases e
    · simp only [biIV] at e
      cases e2 : lenIV a hh with
      | none => rw [e2] at e; cases e
      | some n =>
        rw [e2] at e
        cases e
        obtain ⟨x, rfl, q1⟩ := rvs1 q
        exact L2.call_len pins s σ H _ us Q I rr ⟨x, n, rfl, len_ok r e2 q1, f.here r rfl⟩
    · cases e
  | abs =>
    rcases vs with _ | ⟨a, _ | ⟨b, t⟩⟩
    · cases e
    · cases a with
      | int i =>
        cases e
        obtain ⟨x, rfl, q1⟩ := rvs1 q
        have q1 : x = _ := q1
        subst q1
        exact L2.call_abs pins s σ H _ us Q I rr ⟨i, rfl, f.here r rfl⟩
      | _ => cases e
    · cases a <;> cases e
  | max =>
    rcases vs with _ | ⟨a, _ | ⟨b, _ | ⟨c, t⟩⟩⟩
    · cases e
    · cases a <;> cases e
    · cases a with
      | int i =>
        cases b with
        | int j =>
          cases e
          obtain ⟨x, y, rfl, q1, q2⟩ := rvs2 q
          have q1 : x = _ := q1
          have q2 : y = _ := q2
          subst q1 q2
          exact L2.call_max2 (hc rfl) pins s σ H _ us Q I rr ⟨i, j, rfl, f.here r rfl⟩
        | _ => cases e
      | _ => cases b <;> cases e
    · cases a <;> cases b <;> cases e
  | min =>
    rcases vs with _ | ⟨a, _ | ⟨b, _ | ⟨c, t⟩⟩⟩
    · cases e
    · cases a <;> cases e
    · cases a with
      | int i =>
        cases b with
        | int j =>
          cases e
          obtain ⟨x, y, rfl, q1, q2⟩ := rvs2 q
          have q1 : x = _ := q1
          have q2 : y = _ := q2
          subst q1 q2
          exact L2.call_min2 (hc rfl) pins s σ H _ us Q I rr ⟨i, j, rfl, f.here r rfl⟩
        | _ => cases e
      | _ => cases b <;> cases e
    · cases a <;> cases b <;> cases e
  | int =>
    rcases vs with _ | ⟨a, _ | ⟨b, t⟩⟩
    · cases e
    · cases a with
      | int i =>
        cases e
        obtain ⟨x, rfl, q1⟩ := rvs1 q
        have q1 : x = _ := q1
        subst q1
        exact L2.call_int1 pins s σ H _ us Q I rr (.inl ⟨i, rfl, f.here r rfl⟩)
      | _ => cases e
    · cases a <;> cases e
  | divmod =>
    rcases vs with _ | ⟨a, _ | ⟨b, _ | ⟨c, t⟩⟩⟩
    · cases e
    · cases a <;> cases e
    · cases a with
      | int i =>
        cases b with
        | int j =>
          obtain ⟨hs, e⟩ := ite_some e
          cases e
          obtain ⟨x, y, rfl, q1, q2⟩ := rvs2 q
          have q1 : x = _ := q1
          have q2 : y = _ := q2
          subst q1 q2
          have dv : L2.CDivP i j := by
            obtain ⟨h0, c | c⟩ := okDiv_ok hs
            · exact ⟨h0, PyProof.noPylong_small (by omega)⟩
            · exact ⟨h0, PyProof.noPylong_of_log2 c⟩
          exact L2.call_divmodW pins s σ H _ us Q I rr ⟨i, j, rfl, dv, fun p hp => f.tup r ⟨_, _, rfl, rfl, _, _, rfl, rfl, rfl⟩ hp⟩
        | _ => cases e
      | _ => cases b <;> cases e
    · cases a <;> cases b <;> cases e
  | tuple =>
    rcases vs with _ | ⟨a, _ | ⟨b, t⟩⟩
    · cases e
    · simp only [biIV] at e
      cases e2 : itemsIV a hh with
      | none => rw [e2] at e; cases e
      | some zs =>
        rw [e2] at e
        cases e
        obtain ⟨x, rfl, q1⟩ := rvs1 q
        cases a with
        | tup ws =>
          cases e2
          obtain ⟨p, ys, rfl, q2, q3⟩ := q1
          exact L2.call_tuple_of pins s σ H _ us Q I rr ⟨p, ys, rfl, .inr ⟨q2.sqt, f.here r ⟨p, ys, rfl, q2, q3⟩⟩⟩
        | kls ws =>
          cases e2
          obtain ⟨p, ys, rfl, q2, q3⟩ := q1
          exact L2.call_tuple_of pins s σ H _ us Q I rr ⟨p, ys, rfl, .inl ⟨q2.sql, fun l hl => f.tup r q3 hl⟩⟩
        | ref i =>
          cases hc : hh[i]? with
          | none => simp only [itemsIV, hc] at e2; cases e2
          | some c =>
            cases c with
            | ins _ _ => simp only [itemsIV, hc] at e2; cases e2
            | dct _ => simp only [itemsIV, hc] at e2; cases e2
            | lst ws =>
              simp only [itemsIV, hc] at e2
              cases e2
              obtain ⟨p, ys, rfl, _, e1, q3⟩ := cell_lst r hc q1
              exact L2.call_tuple_of pins s σ H _ us Q I rr ⟨p, ys, rfl, .inl ⟨.inl (.inl e1), fun l hl => f.tup r q3 hl⟩⟩
        | _ => cases e2
    · cases e
  | list =>
    rcases vs with _ | ⟨a, _ | ⟨b, t⟩⟩
    · cases e
    · simp only [biIV] at e
      cases e2 : itemsIV a hh with
      | none => rw [e2] at e; cases e
      | some zs =>
        rw [e2] at e
        cases e
        obtain ⟨x, rfl, q1⟩ := rvs1 q
        obtain ⟨p, ys, rfl, q2, q3⟩ := items_of r e2 q1
        exact L2.call_list_of pins s σ H _ us Q I rr ⟨p, ys, rfl, q3, fun l hl => f.lst r q2 hl⟩
    · cases e
  | all =>
    rcases vs with _ | ⟨a, _ | ⟨b, t⟩⟩
    · cases e
    · simp only [biIV] at e
      cases e2 : lstIV a hh with
      | none => rw [e2] at e; cases e
      | some zs =>
        rw [e2] at e
        dsimp only at e
        cases e3 : allBl zs with
        | none => rw [e3] at e; cases e
        | some c =>
          rw [e3] at e
          cases e
          obtain ⟨x, rfl, q1⟩ := rvs1 q
          obtain ⟨p, ys, rfl, q2, q3⟩ := lstIV_ok r e2 q1
          obtain ⟨bs, rfl, eb⟩ := allBl_ok e3 q2
          exact L2.cr_all (hc rfl) pins s σ H _ us Q I rr ⟨p, bs, rfl, q3, by rw [eb]; exact f.here r rfl⟩
    · cases e
  | sorted =>
    rcases vs with _ | ⟨a, _ | ⟨b, t⟩⟩
    · cases e
    · simp only [biIV] at e
      cases e2 : lstIV a hh with
      | none => rw [e2] at e; cases e
      | some zs =>
        rw [e2] at e
        dsimp only at e
        cases e3 : optMap pairII zs with
        | none => rw [e3] at e; cases e
        | some ps =>
          rw [e3] at e
          cases e
          obtain ⟨x, rfl, q1⟩ := rvs1 q
          obtain ⟨p, ys, rfl, q2, q3⟩ := lstIV_ok r e2 q1
          obtain ⟨u, rfl, ru⟩ := rr.one
          obtain rfl : u = Value.ref p := ru
          obtain ⟨pl, pm⟩ := pairs_mem e3
          have at_ : ∀ (i : Nat) (y : V), ys[i]? = some y → ∃ t w, y = .ref t ∧ ps[i]? = some w ∧ RV X.K G μ H (ivII w) y ∧ SqT X.K H t [.int w.1, .int w.2] ∧ kPair X.K H y = w := fun i y hy => by
            have hi : i < zs.length := by rw [q2.length]; exact (List.getElem?_eq_some_iff.mp hy).1
            obtain ⟨w, w1, w2⟩ := pm i zs[i] (List.getElem?_eq_getElem hi)
            obtain ⟨y', y1, y2⟩ := q2.get (List.getElem?_eq_getElem hi)
            rw [hy] at y1
            cases y1
            rw [pairII_eq w1] at y2
            have y3 := y2
            obtain ⟨t, ws, rfl, z1, z2⟩ := y2
            obtain ⟨x1, x2, rfl, x3, x4⟩ := rvs2 z2
            have x3 : x1 = _ := x3
            have x4 : x2 = _ := x4
            subst x3 x4
            exact ⟨t, w, rfl, w2, y3, z1.sqt, kPair_eq I z1.sqt⟩
          have at_m : ∀ y ∈ ys, ∃ (t : Addr) (w : Int × Int), y = V.ref t ∧ RV X.K G μ H (ivII w) y ∧ SqT X.K H t [.int w.1, .int w.2] ∧ kPair X.K H y = w := fun y hy => by
            obtain ⟨i, hi, e⟩ := List.mem_iff_getElem.mp hy
            obtain ⟨t, w, a1, a2, a3, a4, a5⟩ := at_ i y (by rw [List.getElem?_eq_getElem hi, e])
            exact ⟨t, w, a1, a3, a4, a5⟩
          have km : ys.map (kPair X.K H) = ps := by
            apply List.ext_getElem?
            intro i
            rw [List.getElem?_map]
            cases hy : ys[i]? with
            | none =>
              rw [List.getElem?_eq_none_iff] at hy
              symm
              show ps[i]? = none
              rw [List.getElem?_eq_none_iff, ← pl, q2.length]
              exact hy
            | some y =>
              obtain ⟨t, w, a1, a2, a3, a4, a5⟩ := at_ i y hy
              rw [a2, Option.map_some, a5]
          refine sorted_ok I q3 (fun y hy => ?_) fun out d h1 h2 hd => ?_
          · obtain ⟨t, w, a1, a3, a4, a5⟩ := at_m y hy
            exact ⟨t, a1, by rw [a5]; exact a4⟩
          · have ko : out.map (kPair X.K H) = srtII ps := by
              refine srtII_uniq ((h2.map _).trans (by rw [km]; exact (srtII_perm ps).symm)) ?_ (srtII_srt ps)
              refine List.pairwise_map.mpr (h1.imp fun {a b} hab => ?_)
              rw [leII_iff]
              have := SrtO.lexB_no.mp hab
              omega
            refine f.lst r ?_ hd
            rw [← ko, List.map_map]
            refine rvs_of_get (by simp) fun i a b ha hb => ?_
            rw [List.getElem?_map, hb] at ha
            cases ha
            obtain ⟨t, w, a1, a3, a4, a5⟩ := at_m b (h2.mem_iff.mp (List.mem_of_getElem? hb))
            show RV X.K G μ H (ivII (kPair X.K H b)) b
            rw [a5]
            exact a3
    · cases e
  | repr =>
    rcases vs with _ | ⟨a, _ | ⟨b, t⟩⟩
    · cases e
    · simp only [biIV] at e
      cases e2 : toD hh 60 a with
      | none => rw [e2] at e; cases e
      | some d =>
        rw [e2] at e
        obtain ⟨hs, e⟩ := ite_some e
        cases e
        obtain ⟨k1, k2⟩ := two hs
        obtain ⟨k2, k3⟩ := two k2
        obtain ⟨k3, k4⟩ := two k3
        obtain ⟨x, rfl, q1⟩ := rvs1 q
        obtain ⟨u, rfl, ru⟩ := rr.one
        exact repr_ok (hg rfl) hu I ru (dp_of r 60 e2 q1) k1 (by simpa using k2) (of_decide_eq_true k3) (by rw [sizeLine_eq]; exact of_decide_eq_true k4) (f.here r rfl)
    · cases e
/-! ### subscripts, stores, methods -/
def rIdx (K : PySem.W.Frag) (G : PEnv) : R2 := fun x y H Q => ∃ μ h xv yv v, Rp K G μ h H ∧ RV K G μ H xv x ∧ RV K G μ H yv y ∧ idxIV xv yv h = some v ∧ ∀ z, RV K G μ H v z → Q z H
theorem ix_any (kd : KdOk G X.K X.prog X.w) : IxR X (rIdx X.K G) := by
  intro value slice pins s σ H x y v u Q I rx ry h hs
  obtain ⟨μ, hh, xv, yv, z, r, qx, qy, e, f⟩ := h
  cases e0 : dictIV xv hh with
  | some kvs =>
    obtain ⟨a, gs, rfl, q1, k1, vs, k3, k4⟩ := dict_of I kd r e0 qx
    simp only [idxIV, e0] at e
    cases ek : keyIV yv with
    | none => rw [ek] at e; cases e
    | some k =>
      rw [ek] at e
      obtain ⟨w, w1, w2⟩ := q1.look.1 z e
      cases (key_rv ek qy)
      cases (show v = Value.ref a from rx)
      have hm := k4.mapOf
      obtain ⟨w', hw, rw'⟩ := L2.RelO.some_of (v := w) (o := valueAt vs k) (by rw [← w1]; exact k3.val k)
      exact tail_any hm.typeIs PySem.F.slot_dict_getitem.lookup (wpAny_getItem_of (L2.kV_is ry) hm hw ⟨w, H, I.tok _, rw', f w w2⟩) hs
  | none =>
  cases yv with
  | int i =>
    have qy : y = _ := qy
    subst qy
    simp only [idxIV, e0] at e
    cases e2 : itemsIV xv hh with
    | none => rw [e2] at e; cases e
    | some zs =>
      rw [e2] at e
      dsimp only at e
      cases e3 : L2.ixN zs.length i with
      | none => rw [e3] at e; cases e
      | some k =>
        rw [e3] at e
        obtain ⟨a, ys, rfl, q1, q2⟩ := items_of r e2 qx
        obtain ⟨w, hw, qw⟩ := q1.get e
        have at_ : L2.atI ys i = some w := by
          unfold L2.atI
          rw [← q1.length, e3]
          exact hw
        rcases q2 with q2 | q2
        · exact L2.ix_list value slice pins s σ H _ _ v u Q I rx ry ⟨a, ys, i, w, rfl, rfl, q2, at_, f w qw⟩ hs
        · exact L2.ix_tup value slice pins s σ H _ _ v u Q I rx ry ⟨a, ys, i, w, rfl, rfl, q2, at_, f w qw⟩ hs
  | _ => simp only [idxIV, e0] at e; cases e
def rSet (K : PySem.W.Frag) (G : PEnv) : L2.TSet := fun o i v H Q => ∃ μ h ov iv vv h', Rp K G μ h H ∧ RV K G μ H ov o ∧ RV K G μ H iv i ∧ RV K G μ H vv v ∧ setIdxIV ov iv vv h = some h' ∧ ∀ H1, Stp μ H μ H1 → Rp K G μ h' H1 → Q H1
theorem set_any (hu : X.A.units + 1 < cLine) : PSet X (rSet X.K G) := by
  intro pins s σ H o i v ov iv u Q I ro ri rv h
  obtain ⟨μ, hh, o', i', v', h', r, qo, qi, qv, e, f⟩ := h
  cases o' with
  | ref a =>
    simp only [setIdxIV] at e
    cases hc : hh[a]? with
    | none => rw [hc] at e; cases e
    | some c =>
      rw [hc] at e
      cases c with
      | ins _ _ => cases e
      | dct kvs =>
        dsimp only at e
        cases ek : keyIV i' with
        | none => rw [ek] at e; cases e
        | some k =>
          rw [ek] at e
          obtain ⟨hz, e⟩ := ite_some e
          cases e
          obtain ⟨p, gs, rfl, hi, e1, q1⟩ := cell_dct r hc qo
          cases (key_rv ek qi)
          have st : Stp μ H μ (upd H p (.dK (L2.putK gs k v))) := Stp.write (List.mem_of_getElem? hi) e1 (fun _ z => by cases z)
          refine L2.set_dict hu pins s σ H _ _ v ov iv u Q I ro ri rv ⟨p, _, rfl, L2.DPut.k e1 (by rw [← q1.len, sizeLine_eq]; exact of_decide_eq_true hz), ?_⟩
          exact f _ st (r.write hi e1 (fun _ z => by cases z) (fun _ z => by cases z) (show RC X.K G μ _ p (.dct _) from ⟨_, upd_same, (st.rd q1).put (st.rv qv)⟩))
      | lst xs =>
        cases i' with
        | int k =>
          have qi : i = _ := qi
          subst qi
          dsimp only at e
          cases e3 : L2.ixN xs.length k with
          | none => rw [e3] at e; cases e
          | some j =>
            rw [e3] at e
            cases e
            obtain ⟨p, ys, rfl, hi, e1, q1⟩ := cell_lst r hc qo
            refine L2.set_list pins s σ H _ _ v ov iv u Q I ro ri rv ⟨p, ys, k, j, rfl, rfl, e1, by rw [← q1.length]; exact e3, ?_⟩
            have st : Stp μ H μ (upd H p (.lst (ys.set j v))) := Stp.write (List.mem_of_getElem? hi) e1 (fun _ z => by cases z)
            exact f _ st (r.write hi e1 (fun _ z => by cases z) (fun _ z => by cases z) ⟨_, upd_same, (st.rvs q1).set j (st.rv qv)⟩)
        | _ => cases e
  | _ => cases e
def rMt (K : PySem.W.Frag) (G : PEnv) (m : Mt) : V → List V → Hp → VK → Prop := fun x xs H Q => ∃ μ h xv vs v h', Rp K G μ h H ∧ RV K G μ H xv x ∧ RVs K G μ H vs xs ∧ mtIV m xv vs h = some (v, h') ∧ Fin K G μ H v h' Q
end
end MP
set_option maxRecDepth 100000
set_option maxHeartbeats 4000000
/-! MPj: readings of terms, one by one. -/
namespace MP
open PySem PySem.Spec PyProof.Rows
open L2 (V HO Hp upd SqL SqT Rd upd_same upd_ne RelV Vals ne_of_none R2 OpR VK CallR IxR PSet MtR Cx TruV TE TT TA WX PE PT PW PA tOp tC tVar tTup tLst tNil tCons tNotT tAndT tOrT tIf tChain tTest tCB tBM tAnd tOr tNot)
section
variable {K : PySem.W.Frag} {G : PEnv} {F : Cfg} {C : CSp} {W : WX} {n : Nat} {σ : LSt} {H : Hp} {Q : VK} {a b c : ME}
theorem tm_var {i : Nat} (h : TM K G C W (evE F (n + 1) (.var i)) σ H Q) : tVar i σ H Q := by
  obtain ⟨μ, ℓ, hh, k, kx, P, r, l, w, hk, hx⟩ := h
  obtain ⟨v, e, w⟩ := wp_opt (show Wp C (optT (getSl ℓ i) fun v => k v hh) P from w)
  have e2 : ℓ[i]? = some (some v) := by
    unfold getSl at e
    split at e
    · cases e; assumption
    · cases e
  obtain ⟨x, e3, q⟩ := l.2 i v e2
  exact ⟨x, e3, hk v hh μ H x Stp.refl r q w⟩
theorem tm_here {m : Loc → Hpi → KV → KX → Tree} {v : IV} {x : V} (hm : ∀ ℓ h k kx, m ℓ h k kx = k v h) (q : ∀ μ, RV K G μ H v x) (h : TM K G C W m σ H Q) : tC x σ H Q := by
  obtain ⟨μ, ℓ, hh, k, kx, P, r, l, w, hk, hx⟩ := h
  rw [hm] at w
  exact hk v hh μ H x Stp.refl r (q μ) w
theorem tm_glob {g : Nat} {iv : IV} {x : V} (e : F.ct[g]? = some iv) (q : ∀ μ, RV K G μ H iv x) (h : TM K G C W (evE F (n + 1) (.glob g)) σ H Q) : tC x σ H Q :=
  tm_here (m := evE F (n + 1) (.glob g)) (v := iv) (fun ℓ h k kx => by show optT (F.ct[g]?) _ = _; rw [e]; rfl) q h
theorem tm_bin {op : Bop} (h : TM K G C W (evE F (n + 1) (.bin op a b)) σ H Q) : tOp (rBin K G op) (TM K G C W (evE F n a)) (TM K G C W (evE F n b)) σ H Q := by
  obtain ⟨μ, ℓ, hh, k, kx, P, r, l, w, hk, hx⟩ := h
  refine TM.step r l w hx fun v h1 μ1 H1 x s1 r1 l1 q1 hx1 w1 => TM.step r1 l1 w1 hx1 fun u h2 μ2 H2 y s2 r2 l2 q2 hx2 w2 => ?_
  obtain ⟨⟨z, h3⟩, e, w3⟩ := wp_opt w2
  exact ⟨μ2, h2, v, u, z, h3, r2, s2.rv q1, q2, e, fun μ3 H3 z' s3 r3 q3 => hk _ _ μ3 H3 z' (s1.tr r1 (s2.tr r2 s3)) r3 q3 w3⟩
theorem tm_cmp {op : Cop} (h : TM K G C W (evE F (n + 1) (.cmp op a b)) σ H Q) : tOp (rCmp K G op) (TM K G C W (evE F n a)) (TM K G C W (evE F n b)) σ H Q := by
  obtain ⟨μ, ℓ, hh, k, kx, P, r, l, w, hk, hx⟩ := h
  refine TM.step r l w hx fun v h1 μ1 H1 x s1 r1 l1 q1 hx1 w1 => TM.step r1 l1 w1 hx1 fun u h2 μ2 H2 y s2 r2 l2 q2 hx2 w2 => ?_
  obtain ⟨t, e, w3⟩ := wp_opt w2
  exact ⟨μ2, h2, v, u, t, r2, s2.rv q1, q2, e, hk (.bl t) _ μ2 H2 _ (s1.tr r1 s2) r2 rfl w3⟩
theorem tm_neg (h : TM K G C W (evE F (n + 1) (.neg a)) σ H Q) : L2.tUn (L2.rU fun i => .int (-i)) (TM K G C W (evE F n a)) σ H Q := by
  obtain ⟨μ, ℓ, hh, k, kx, P, r, l, w, hk, hx⟩ := h
  refine TM.step r l w hx fun v h1 μ1 H1 x s1 r1 l1 q1 hx1 w1 => ?_
  cases v with
  | int i =>
    have q1 : x = _ := q1
    subst q1
    exact ⟨i, rfl, hk (.int (-i)) _ μ1 H1 _ s1 r1 rfl w1⟩
  | _ => exact False.elim w1
theorem tm_not (h : TM K G C W (evE F (n + 1) (.not a)) σ H Q) : tNotT K (TM K G C W (evE F n a)) σ H Q := by
  obtain ⟨μ, ℓ, hh, k, kx, P, r, l, w, hk, hx⟩ := h
  refine TM.step r l w hx fun v h1 μ1 H1 x s1 r1 l1 q1 hx1 w1 => ?_
  obtain ⟨t, e, w2⟩ := wp_opt w1
  exact ⟨t, tru_of r1 e q1, hk (.bl (!t)) _ μ1 H1 _ s1 r1 rfl w2⟩
theorem tm_and (h : TM K G C W (evE F (n + 1) (.and a b)) σ H Q) : tAndT K (TM K G C W (evE F n a)) (TM K G C W (evE F n b)) σ H Q := by
  obtain ⟨μ, ℓ, hh, k, kx, P, r, l, w, hk, hx⟩ := h
  refine TM.step r l w hx fun v h1 μ1 H1 x s1 r1 l1 q1 hx1 w1 => ?_
  obtain ⟨t, e, w2⟩ := wp_opt w1
  refine ⟨t, tru_of r1 e q1, ?_⟩
  cases t with
  | true =>
    rw [if_pos rfl]
    exact TM.step r1 l1 w2 hx1 fun u h2 μ2 H2 y s2 r2 l2 q2 hx2 w2 => hk _ _ μ2 H2 _ (s1.tr r1 s2) r2 q2 w2
  | false =>
    rw [if_neg Bool.false_ne_true]
    exact hk _ _ μ1 H1 _ s1 r1 q1 w2
theorem tm_or (h : TM K G C W (evE F (n + 1) (.or a b)) σ H Q) : tOrT K (TM K G C W (evE F n a)) (TM K G C W (evE F n b)) σ H Q := by
  obtain ⟨μ, ℓ, hh, k, kx, P, r, l, w, hk, hx⟩ := h
  refine TM.step r l w hx fun v h1 μ1 H1 x s1 r1 l1 q1 hx1 w1 => ?_
  obtain ⟨t, e, w2⟩ := wp_opt w1
  refine ⟨t, tru_of r1 e q1, ?_⟩
  cases t with
  | false =>
    rw [if_neg Bool.false_ne_true]
    exact TM.step r1 l1 w2 hx1 fun u h2 μ2 H2 y s2 r2 l2 q2 hx2 w2 => hk _ _ μ2 H2 _ (s1.tr r1 s2) r2 q2 w2
  | true =>
    rw [if_pos rfl]
    exact hk _ _ μ1 H1 _ s1 r1 q1 w2
theorem tm_chain {o1 o2 : Cop} (h : TM K G C W (evE F (n + 1) (.chain o1 o2 a b c)) σ H Q) : tChain (rCmp K G o1) (rCmp K G o2) (TM K G C W (evE F n a)) (TM K G C W (evE F n b)) (TM K G C W (evE F n c)) σ H Q := by
  obtain ⟨μ, ℓ, hh, k, kx, P, r, l, w, hk, hx⟩ := h
  refine TM.step r l w hx fun v h1 μ1 H1 x s1 r1 l1 q1 hx1 w1 => TM.step r1 l1 w1 hx1 fun u h2 μ2 H2 y s2 r2 l2 q2 hx2 w2 => ?_
  obtain ⟨t, e, w3⟩ := wp_opt w2
  refine ⟨μ2, h2, v, u, t, r2, s2.rv q1, q2, e, t, rfl, ?_⟩
  cases t with
  | true =>
    rw [if_pos rfl]
    refine TM.step r2 l2 w3 hx2 fun z h3 μ3 H3 z' s3 r3 l3 q3 hx3 w4 => ?_
    obtain ⟨t2, e2, w5⟩ := wp_opt w4
    exact ⟨μ3, h3, u, z, t2, r3, s3.rv q2, q3, e2, hk (.bl t2) _ μ3 H3 _ (s1.tr r1 (s2.tr r2 s3)) r3 rfl w5⟩
  | false =>
    rw [if_neg Bool.false_ne_true]
    exact hk (.bl false) _ μ2 H2 _ (s1.tr r1 s2) r2 rfl w3
theorem tm_ite (h : TM K G C W (evE F (n + 1) (.ite a b c)) σ H Q) : tIf (TMT K G C W (evE F n a)) (TM K G C W (evE F n b)) (TM K G C W (evE F n c)) σ H Q := by
  obtain ⟨μ, ℓ, hh, k, kx, P, r, l, w, hk, hx⟩ := h
  refine TMT.step (kt := fun t h1 => match t with
      | true => evE F n b ℓ h1 k kx
      | false => evE F n c ℓ h1 k kx) r l w hx fun t h1 μ1 H1 s1 r1 l1 hx1 w1 => ?_
  cases t with
  | true =>
    rw [if_pos rfl]
    exact TM.step r1 l1 w1 hx1 fun u h2 μ2 H2 y s2 r2 l2 q2 hx2 w2 => hk _ _ μ2 H2 _ (s1.tr r1 s2) r2 q2 w2
  | false =>
    rw [if_neg Bool.false_ne_true]
    exact TM.step r1 l1 w1 hx1 fun u h2 μ2 H2 y s2 r2 l2 q2 hx2 w2 => hk _ _ μ2 H2 _ (s1.tr r1 s2) r2 q2 w2
theorem tml_nil {Q : List V → Hp → Prop} (h : TML K G C W (evL F (n + 1) []) σ H Q) : tNil σ H Q := by
  obtain ⟨μ, ℓ, hh, k, kx, P, r, l, w, hk, hx⟩ := h
  exact hk [] hh μ H [] Stp.refl r rfl w
theorem tml_cons {Q : List V → Hp → Prop} {es : List ME} (h : TML K G C W (evL F (n + 1) (a :: es)) σ H Q) : tCons (TM K G C W (evE F n a)) (TML K G C W (evL F n es)) σ H Q := by
  obtain ⟨μ, ℓ, hh, k, kx, P, r, l, w, hk, hx⟩ := h
  exact TM.step r l w hx fun v h1 μ1 H1 x s1 r1 l1 q1 hx1 w1 => TML.step r1 l1 w1 hx1 fun u h2 μ2 H2 y s2 r2 l2 q2 hx2 w2 =>
    hk (v :: u) _ μ2 H2 _ (s1.tr r1 s2) r2 ⟨x, y, rfl, s2.rv q1, q2⟩ w2
theorem tm_tup {es : List ME} (h : TM K G C W (evE F (n + 1) (.tup es)) σ H Q) : tTup (TML K G C W (evL F n es)) σ H Q := by
  obtain ⟨μ, ℓ, hh, k, kx, P, r, l, w, hk, hx⟩ := h
  refine TML.step r l w hx fun v h1 μ1 H1 x s1 r1 l1 q1 hx1 w1 => ?_
  by_cases hz : sizeOk v.length = true
  · rw [if_pos hz] at w1
    exact ⟨by rw [← q1.length]; exact sz hz, fun p hp => hk _ _ μ1 _ _ (s1.tr r1 (Stp.fresh hp)) (r1.fresh hp) (tup_new r1 hp q1) w1⟩
  · rw [if_neg hz] at w1
    exact False.elim w1
theorem tm_lst {es : List ME} (h : TM K G C W (evE F (n + 1) (.lst es)) σ H Q) : tLst (TML K G C W (evL F n es)) σ H Q := by
  obtain ⟨μ, ℓ, hh, k, kx, P, r, l, w, hk, hx⟩ := h
  refine TML.step r l w hx fun v h1 μ1 H1 x s1 r1 l1 q1 hx1 w1 => ?_
  by_cases hz : sizeOk v.length = true
  · rw [if_pos hz] at w1
    exact ⟨by rw [← q1.length]; exact sz hz, fun p hp => hk _ _ (μ1 ++ [p]) _ _ (s1.tr r1 (Stp.cell hp)) (lst_new r1 hp q1) (ref_new r1) w1⟩
  · rw [if_neg hz] at w1
    exact False.elim w1
theorem tm_idx (h : TM K G C W (evE F (n + 1) (.idx a b)) σ H Q) : tOp (rIdx K G) (TM K G C W (evE F n a)) (TM K G C W (evE F n b)) σ H Q := by
  obtain ⟨μ, ℓ, hh, k, kx, P, r, l, w, hk, hx⟩ := h
  refine TM.step r l w hx fun v h1 μ1 H1 x s1 r1 l1 q1 hx1 w1 => TM.step r1 l1 w1 hx1 fun u h2 μ2 H2 y s2 r2 l2 q2 hx2 w2 => ?_
  obtain ⟨t, e, w3⟩ := wp_opt w2
  exact ⟨μ2, h2, v, u, t, r2, s2.rv q1, q2, e, fun z qz => hk _ _ μ2 H2 _ (s1.tr r1 s2) r2 qz w3⟩
theorem tm_bcall {bi : Bi} {es : List ME} (h : TM K G C W (evE F (n + 1) (.bcall bi es)) σ H Q) : tCB (rBi K G bi) (TML K G C W (evL F n es)) σ H Q := by
  obtain ⟨μ, ℓ, hh, k, kx, P, r, l, w, hk, hx⟩ := h
  refine TML.step r l w hx fun v h1 μ1 H1 x s1 r1 l1 q1 hx1 w1 => ?_
  obtain ⟨⟨z, h2⟩, e, w2⟩ := wp_opt w1
  exact ⟨μ1, h1, v, z, h2, r1, q1, e, fun μ3 H3 z' s3 r3 q3 => hk _ _ μ3 H3 z' (s1.tr r1 s3) r3 q3 w2⟩
/-- a part of a slice -/
def TMO (K : PySem.W.Frag) (G : PEnv) (C : CSp) (W : WX) (m : Loc → Hpi → (Option Int → Hpi → Tree) → KX → Tree) : L2.TO := fun σ H Q =>
  ∃ (μ : Emb) (ℓ : Loc) (h : Hpi) (k : Option Int → Hpi → Tree) (kx : KX) (P : Res → Prop), Rp K G μ h H ∧ RL K G μ H ℓ σ ∧ Wp C (m ℓ h k kx) P ∧
    (∀ v h1 μ1 H1, Stp μ H μ1 H1 → Rp K G μ1 h1 H1 → Wp C (k v h1) P → Q v H1) ∧
    (∀ e h1 μ1 H1 cls d, Stp μ H μ1 H1 → Rp K G μ1 h1 H1 → RX K G μ1 H1 e cls d → Wp C (kx e h1) P → W cls d σ H1)
theorem TMO.step {m : Loc → Hpi → (Option Int → Hpi → Tree) → KX → Tree} {σ : LSt} {H : Hp} {Q : Option Int → Hp → Prop} {μ : Emb} {ℓ : Loc} {h : Hpi} {k : Option Int → Hpi → Tree} {kx : KX} {P : Res → Prop} (r : Rp K G μ h H) (l : RL K G μ H ℓ σ) (w : Wp C (m ℓ h k kx) P)
    (hx : ∀ e h1 μ1 H1 cls d, Stp μ H μ1 H1 → Rp K G μ1 h1 H1 → RX K G μ1 H1 e cls d → Wp C (kx e h1) P → W cls d σ H1)
    (hk : ∀ v h1 μ1 H1, Stp μ H μ1 H1 → Rp K G μ1 h1 H1 → RL K G μ1 H1 ℓ σ → (∀ e h2 μ2 H2 cls d, Stp μ1 H1 μ2 H2 → Rp K G μ2 h2 H2 → RX K G μ2 H2 e cls d → Wp C (kx e h2) P → W cls d σ H2) → Wp C (k v h1) P → Q v H1) : TMO K G C W m σ H Q :=
  ⟨μ, ℓ, h, k, kx, P, r, l, w, fun v h1 μ1 H1 s r1 w1 => hk v h1 μ1 H1 s r1 (s.rl l) (fun e h2 μ2 H2 cls d t r2 q2 w2 => hx e h2 μ2 H2 cls d (s.tr r1 t) r2 q2 w2) w1, hx⟩
theorem tmo_none {Q : Option Int → Hp → Prop} (h : TMO K G C W (evO F (n + 1) none) σ H Q) : L2.tNoPart σ H Q := by
  obtain ⟨μ, ℓ, hh, k, kx, P, r, l, w, hk, hx⟩ := h
  exact hk none hh μ H Stp.refl r w
theorem tmo_some {Q : Option Int → Hp → Prop} (h : TMO K G C W (evO F (n + 1) (some a)) σ H Q) : L2.tPart (TM K G C W (evE F n a)) σ H Q := by
  obtain ⟨μ, ℓ, hh, k, kx, P, r, l, w, hk, hx⟩ := h
  refine TM.step r l w hx fun v h1 μ1 H1 x s1 r1 l1 q1 hx1 w1 => ?_
  cases v with
  | int i =>
    have q1 : x = _ := q1
    subst q1
    exact ⟨i, rfl, hk (some i) h1 μ1 H1 s1 r1 w1⟩
  | _ => exact False.elim w1
def rSli (K : PySem.W.Frag) (G : PEnv) : V → Option Int → Option Int → Hp → VK → Prop := fun x lo hi H Q => ∃ μ h xv v h', Rp K G μ h H ∧ RV K G μ H xv x ∧ sliIV xv lo hi h = some (v, h') ∧ Fin K G μ H v h' Q
theorem rvs_cut {μ : Emb} {xs : List IV} {ys : List V} (q : RVs K G μ H xs ys) (lo hi : Option Int) : RVs K G μ H (cutI xs lo hi) (L2.cutV ys lo hi) := by
  unfold cutI L2.cutV
  rw [q.length]
  exact (q.drop _).take _
theorem sl_any {X : Cx} : L2.SlR X (fun x lo hi H Q => L2.rSlL X.K x lo hi H Q ∨ L2.rSlA X.K x lo hi H Q) := L2.SlR.or L2.sl_list L2.sl_tupA
theorem sli_ok {x : V} {lo hi : Option Int} (h : rSli K G x lo hi H Q) : L2.rSlL K x lo hi H Q ∨ L2.rSlA K x lo hi H Q := by
  obtain ⟨μ, hh, xv, v, h', r, q, e, f⟩ := h
  cases xv with
  | tup xs =>
    cases e
    obtain ⟨p, ys, rfl, q1, q2⟩ := q
    refine .inr ⟨p, ys, rfl, q1.sqt, fun hw => f.here r ⟨p, ys, rfl, q1, ?_⟩, fun _ w hw => f.tup r (rvs_cut q2 lo hi) hw⟩
    have e1 : cutI xs lo hi = xs := by
      unfold cutI
      rw [q2.length, hw.1, hw.2, List.drop_zero, Nat.sub_zero, ← q2.length, List.take_length]
    rw [e1]
    exact q2
  | kls xs =>
    cases e
    obtain ⟨p, ys, rfl, q1, q2⟩ := q
    exact .inl ⟨p, ys, rfl, q1.sql, fun w hw => f.lst r (rvs_cut q2 lo hi) hw⟩
  | ref i =>
    cases hc : hh[i]? with
    | none => simp only [sliIV, hc] at e; cases e
    | some c =>
      cases c with
      | ins _ _ => simp only [sliIV, hc] at e; cases e
      | dct _ => simp only [sliIV, hc] at e; cases e
      | lst xs =>
        simp only [sliIV, hc] at e
        cases e
        obtain ⟨p, ys, rfl, _, e1, q2⟩ := cell_lst r hc q
        exact .inl ⟨p, ys, rfl, .inl (.inl e1), fun w hw => f.lst r (rvs_cut q2 lo hi) hw⟩
  | _ => cases e
theorem tm_slice {lo hi : Option ME} (h : TM K G C W (evE F (n + 1) (.slice a lo hi)) σ H Q) :
    L2.tSl (fun x lo hi H Q => L2.rSlL K x lo hi H Q ∨ L2.rSlA K x lo hi H Q) (TM K G C W (evE F n a)) (TMO K G C W (evO F n lo)) (TMO K G C W (evO F n hi)) σ H Q := by
  obtain ⟨μ, ℓ, hh, k, kx, P, r, l, w, hk, hx⟩ := h
  refine TM.step r l w hx fun v h1 μ1 H1 x s1 r1 l1 q1 hx1 w1 => TMO.step r1 l1 w1 hx1 fun lo h2 μ2 H2 s2 r2 l2 hx2 w2 => TMO.step r2 l2 w2 hx2 fun hi h3 μ3 H3 s3 r3 l3 hx3 w3 => ?_
  obtain ⟨⟨z, h4⟩, e, w4⟩ := wp_opt w3
  exact sli_ok ⟨μ3, h3, v, z, h4, r3, s3.rv (s2.rv q1), e, fun μ4 H4 z' s4 r4 q4 => hk _ _ μ4 H4 z' (s1.tr r1 (s2.tr r2 (s3.tr r3 s4))) r4 q4 w4⟩
end
end MP
set_option maxRecDepth 100000
set_option maxHeartbeats 4000000
/-! MPk: calls; a test's reading. -/
namespace MP
open PySem PySem.Spec PyProof.Rows
open L2 (V HO Hp upd SqL SqT Rd upd_same upd_ne RelV Vals ne_of_none R2 OpR VK XK CallR IxR PSet MtR Cx TruV TE TT TA WX PE PT PW PA PK tOp tC tVar tTup tLst tNil tCons tNotT tAndT tOrT tIf tChain tTest tCB tBM tAnd tOr tNot Gl Inv EP thn ld_glob WE passAt Takes)
section
variable {S : SI} {G : PEnv} {F : Cfg} {C : CSp} {W : WX} {d : Nat} {fA : Nat → Addr} {fdF : Nat → FuncData} {psF : Nat → List Str} {X : Cx}
theorem gl_of {x : Str} (h : glo X.env.scope x = true) : Gl X x ∧ (x == ("__debug__" : Str)) = false := by
  unfold glo at h
  split at h
  · rename_i h1
    refine ⟨?_, by simpa using h⟩
    unfold Gl Env.kindOf
    rw [h1]
  · cases h
theorem star_cons {e : Expr} (es : List Expr) (h : noStar e = true) : starEach (e :: es) X.env = (false, eval e X.env) :: starEach es X.env := by
  cases e <;> first | rfl | cases h
def noStars : List Expr → Bool
  | [] => true
  | e :: es => noStar e && noStars es
theorem star_any : ∀ {es : List Expr} {pos : Pos}, noStars es = true → (backTo pos (starEach es X.env)).any (·.1) = false
  | [], _, _ => rfl
  | e :: es, pos, h => by
    obtain ⟨h1, h2⟩ := two h
    rw [star_cons es h1]
    show (false || (backTo pos (starEach es X.env)).any (·.1)) = false
    rw [star_any h2]
    rfl
theorem star_all : ∀ {es : List Expr} {pos : Pos}, noStars es = true → (backTo pos (starEach es X.env)).all (fun x => !x.1) = true
  | [], _, _ => rfl
  | e :: es, pos, h => by
    obtain ⟨h1, h2⟩ := two h
    rw [star_cons es h1]
    show (true && (backTo pos (starEach es X.env)).all (fun x => !x.1)) = true
    rw [star_all h2]
    rfl
theorem kw_names : ∀ {kws : List Keyword} {ns : List Str} {pos : Pos}, kwNames kws = some ns → (backToKw pos (keywordEach kws X.env)).all (·.1.isSome) = true ∧ (backToKw pos (keywordEach kws X.env)).filterMap (·.1) = ns ∧ (backToKw pos (keywordEach kws X.env)).any (·.1.isNone) = false
  | [], _, _, h => by cases h; exact ⟨rfl, rfl, rfl⟩
  | ⟨some n, v, p⟩ :: r, ns, pos, h => by
    simp only [kwNames] at h
    cases e : kwNames r with
    | none => rw [e] at h; cases h
    | some ms =>
      rw [e] at h
      cases h
      obtain ⟨a, b, c⟩ := kw_names (pos := pos) e
      refine ⟨?_, ?_, ?_⟩
      · show (true && (backToKw pos (keywordEach r X.env)).all (·.1.isSome)) = true
        rw [a]; rfl
      · show n :: (backToKw pos (keywordEach r X.env)).filterMap (·.1) = _
        rw [b]
      · show (false || (backToKw pos (keywordEach r X.env)).any (·.1.isNone)) = false
        rw [c]; rfl
  | ⟨none, v, p⟩ :: r, ns, pos, h => by cases h
theorem tml_nil' {n : Nat} {σ : LSt} {H : Hp} {Q : List V → Hp → Prop} (h : TML X.K G C W (evL F n []) σ H Q) : Q [] H := by
  cases n with
  | zero => obtain ⟨_, _, _, _, _, _, _, _, w, _⟩ := h; exact w.elim
  | succ n => exact tml_nil h
/-- what stands ready to be called -/
def Ready (X : Cx) (G : PEnv) (C : CSp) (W : WX) (σ : LSt) (Q : VK) (f : Nat) (perm : List Nat) (m n : Nat) (xs zs : List V) (H : Hp) : Prop :=
  ∃ (μ : Emb) (h : Hpi) (vs ws us : List IV) (R : Res → Prop), Rp X.K G μ h H ∧ RVs X.K G μ H vs xs ∧ RVs X.K G μ H ws zs ∧ vs.length = m ∧ ws.length = n ∧ permL (vs ++ ws) perm = some us ∧ C f us h R ∧
    (∀ v h1 μ1 H1 x, R (.ok v h1) → Stp μ H μ1 H1 → Rp X.K G μ1 h1 H1 → RV X.K G μ1 H1 v x → Q x H1) ∧
    (∀ e h1 μ1 H1 cls d, R (.ex e h1) → Stp μ H μ1 H1 → Rp X.K G μ1 h1 H1 → RX X.K G μ1 H1 e cls d → W cls d σ H1)
theorem tm_call {n : Nat} {σ : LSt} {H : Hp} {Q : VK} {f : Nat} {ms kms : List ME} {perm : List Nat} (h : TM X.K G C W (evE F (n + 1) (.call f ms kms perm)) σ H Q) :
    TML X.K G C W (evL F n ms) σ H fun xs H1 => TML X.K G C W (evL F n kms) σ H1 fun zs H2 => Ready X G C W σ Q f perm ms.length kms.length xs zs H2 := by
  obtain ⟨μ, ℓ, hh, k, kx, P, r, l, w, hk, hx⟩ := h
  refine TML.step r l w hx fun vs h1 μ1 H1 xs s1 r1 l1 q1 hx1 w1 => TML.step r1 l1 w1 hx1 fun zs h2 μ2 H2 ys s2 r2 l2 q2 hx2 w2 => ?_
  cases hb : Nat.beq vs.length ms.length && Nat.beq zs.length kms.length with
  | false =>
    rw [hb] at w2
    exact w2.elim
  | true =>
    rw [hb] at w2
    obtain ⟨b1, b2⟩ := two hb
    obtain ⟨us, e, w3⟩ := wp_opt w2
    obtain ⟨R, c, w4⟩ := w3
    exact ⟨μ2, h2, vs, zs, us, R, r2, s2.rvs q1, q2, Nat.eq_of_beq_eq_true b1, Nat.eq_of_beq_eq_true b2, e, c, fun v h3 μ3 H3 x hr s3 r3 q3 => hk _ _ μ3 H3 x (s1.tr r1 (s2.tr r2 s3)) r3 q3 (w4 _ hr),
      fun e h3 μ3 H3 cls d hr s3 r3 q3 => hx2 e h3 μ3 H3 cls d s3 r3 q3 (w4 _ hr)⟩
theorem run_M (g : GX S G F C W d fA fdF psF X) (hS : S.calm = true) {f : Nat} {x : Str} (hf : S.fn[f]? = some (some x)) {n : Nat} {ks : List Str} {perm : List Nat} {pins : List (Addr × Obj)} {s : Shared} {σ : LSt} {H : Hp} {Q : VK} {us zs : List Value} {xs ys : List V}
    (hp : (f, n, ks, perm) ∈ S.pats) (I : Inv X pins σ H s) (r1 : Vals xs us) (r2 : Vals ys zs) (h : Ready X G C W σ Q f perm n ks.length xs ys H) :
    wpAny (model X.prog X.w) X.A (call (.ref (fA f)) us (ks.zip zs)) (EP X pins σ Q) X.xe s := by
  obtain ⟨μ, hh, vs, ws, ts, R, r, q1, q2, l1, l2, e, c, h1, h2⟩ := h
  obtain ⟨vts, e1, q3⟩ := RVs.perm e (q1.append q2)
  obtain ⟨uts, e2, q4⟩ := Vals.perm e1 (r1.append r2)
  have b := g.pat f n ks perm hp s us zs uts I.kIn (by rw [← r1.length, ← q1.length]; exact l1) (by rw [← r2.length, ← q2.length]; exact l2) e2
  refine wpAny_call (codeAny_mono ((g.call hS f x hf ts hh R c).run X.A X.stack s H ⟨us, ks.zip zs⟩ uts vts Q (WE W σ) (g.room hS) I.env0 b q4 ⟨μ, r, q3, h1, h2⟩) fun r s' hq => ?_)
  cases r with
  | error e => exact passAt g.takes σ pins H s e s' I hq
  | ok fl =>
    cases fl with
    | ret u => exact I.after hq
    | next => exact False.elim hq
    | brk => exact False.elim hq
    | cont => exact False.elim hq
theorem pe_callM (g : GX S G F C W d fA fdF psF X) (hS : S.calm = true) {n : Nat} {f : Nat} {x : Str} {ks : List Str} {perm : List Nat} {ms kms : List ME} {es : List Expr} {kws : List Keyword} {p pos : Pos}
    (hf : S.fn[f]? = some (some x)) (hg : Gl X x) (hdb : (x == ("__debug__" : Str)) = false) (hl : kms.length = ks.length) (hp : (f, ms.length, ks, perm) ∈ S.pats) (hs : noStars es = true) (hk : kwNames kws = some ks)
    (ha : PA X es (TML X.K G C W (evL F n ms))) (hw : PK X kws (TML X.K G C W (evL F n kms))) (n1 : es = [] → ms = []) (n2 : kws = [] → kms = []) :
    PE X (.Call (.Name x p) es kws pos) (TM X.K G C W (evE F (n + 1) (.call f ms kms perm))) := by
  refine ⟨fun pins s σ H Q I h => ?_⟩
  obtain ⟨hm, hkp⟩ := g.fn f x hf
  have h0 := tm_call h
  rw [hl] at h0
  refine wpAny_Call_Name_kw (ld_glob I hg hm ?_ hdb)
  cases es with
  | nil =>
    cases n1 rfl
    have h1 := tml_nil' h0
    cases kws with
    | nil =>
      cases n2 rfl
      cases hk
      exact PySem.W.callWith_K0 I.kIn hkp (run_M g hS hf hp I .nil .nil (tml_nil' h1))
    | cons kw kws =>
      obtain ⟨a1, a2, a3⟩ := kw_names (X := X) (pos := pos) hk
      refine PySem.W.callWith_KW0 (h₀ := X.base) I.ok.mod.kin hkp a1 (thn (hw.run pos pins s σ H _ I h1) fun ws s2 ⟨zs, H2, I2, rz, q2⟩ => ⟨I2.kIn, ?_⟩) (by
        show (false || _) = false
        rw [a3]; rfl)
      rw [a2]
      exact run_M g hS hf hp I2 .nil rz q2
  | cons e es =>
    obtain ⟨hs1, hs2⟩ := two hs
    cases kws with
    | nil =>
      cases n2 rfl
      cases hk
      refine PySem.W.callWith_K (h₀ := X.base) I.ok.mod.kin hkp (thn (ha.run pos pins s σ H _ I h0) fun us s1 ⟨vs, H1, I1, r, q⟩ => ⟨I1.kIn, ?_⟩) (star_cons es hs1) (star_any hs2)
      exact run_M g hS hf hp I1 r .nil (tml_nil' q)
    | cons kw kws =>
      obtain ⟨a1, a2, a3⟩ := kw_names (X := X) (pos := pos) hk
      refine PySem.W.callWith_KW (h₀ := X.base) I.ok.mod.kin hkp a1 (thn (ha.run pos pins s σ H _ I h0) fun us s1 ⟨vs, H1, I1, r, q⟩ => ?_) (by
        rw [star_cons es hs1]
        show ((false || (backTo pos (starEach es X.env)).any (·.1)) || _) = false
        rw [star_any hs2, a3]; rfl) (star_cons es hs1)
      refine thn (hw.run pos pins s1 σ H1 _ I1 q) fun ws s2 ⟨zs, H2, I2, rz, q2⟩ => ⟨I2.kIn, ?_⟩
      rw [a2]
      exact run_M g hS hf hp I2 r rz q2
/-! ### fields -/
theorem rf_look {K : PySem.W.Frag} {μ : Emb} {H : Hp} {f : Nat} {v : IV} (inj : ∀ f g, G.fN f = G.fN g → f = g) : ∀ {fs : List (Nat × IV)} {gs : List (Str × V)}, RF K G μ H fs gs → lookF f fs = some v → ∃ x, gs.lookup (G.fN f) = some x ∧ RV K G μ H v x
  | [], _, _, e => by cases e
  | (h, w) :: fs, _, q, e => by
    obtain ⟨y, r, rfl, q1, q2⟩ := q
    simp only [lookF] at e
    by_cases hh : h = f
    · rw [if_pos hh] at e
      cases e
      exact ⟨y, by rw [hh]; simp [List.lookup], q1⟩
    · rw [if_neg hh] at e
      obtain ⟨x, e1, e2⟩ := rf_look inj q2 e
      refine ⟨x, ?_, e2⟩
      rw [List.lookup]
      have : (G.fN f == G.fN h) = false := by
        rw [beq_eq_false_iff_ne]
        exact fun z => hh (inj f h z).symm
      rw [this]
      exact e1
theorem tm_attr (g : GX S G F C W d fA fdF psF X) {n : Nat} {σ : LSt} {H : Hp} {Q : VK} {a : ME} {f : Nat} (h : TM X.K G C W (evE F (n + 1) (.attr a f)) σ H Q) : L2.tFld X.K (TM X.K G C W (evE F n a)) (G.fN f) σ H Q := by
  obtain ⟨μ, ℓ, hh, k, kx, P, r, l, w, hk, hx⟩ := h
  refine TM.step r l w hx fun v h1 μ1 H1 x s1 r1 l1 q1 hx1 w1 => ?_
  obtain ⟨z, e, w2⟩ := wp_opt w1
  cases v with
  | ref i =>
    cases hc : h1[i]? with
    | none => simp only [attrIV, hc] at e; cases e
    | some c =>
      cases c with
      | lst xs => simp only [attrIV, hc] at e; cases e
      | dct _ => simp only [attrIV, hc] at e; cases e
      | ins c fs =>
        simp only [attrIV, hc] at e
        by_cases ho : F.oka c f = true
        · rw [if_pos ho] at e
          obtain ⟨p, rfl, hi⟩ := q1
          obtain ⟨dx, gs, e1, q2⟩ := r1.at_ i p _ hi hc
          obtain ⟨y, e2, q3⟩ := rf_look g.inj q2 e
          obtain ⟨c1, c2⟩ := g.attr c f ho
          exact ⟨p, _, dx, gs, y, rfl, e1, c1, c2, e2, hk z h1 μ1 H1 y s1 r1 q3 w2⟩
        · rw [if_neg ho] at e
          cases e
  | _ => cases e
/-! ### methods -/
def mtId : Mt → String
  | .append => "list.append"
  | .pop => "list.pop"
  | .popAt => "list.pop"
  | .extend => "list.extend"
  | .lindex => "list.index"
  | .tindex => "tuple.index"
  | .lcount => "list.count"
  | .split => "str.split"
  | .join => "str.join"
theorem rcv_ty {K : PySem.W.Frag} {μ : Emb} {h : Hpi} {H : Hp} {m : Mt} {v : IV} {x : V} (r : Rp K G μ h H) (e : rcv m v h = true) (q : RV K G μ H v x) : L2.tyV K (mtTy m) x H := by
  cases v with
  | str z =>
    have q : x = _ := q
    subst q
    have e : decide (mtTy m = "str") = true := e
    exact (of_decide_eq_true e : mtTy m = "str")
  | kls xs =>
    obtain ⟨a, ys, rfl, q1, q2⟩ := q
    have e : decide (mtTy m = "list") = true := e
    exact .inl ⟨of_decide_eq_true e, ys, q1.sql⟩
  | ref i =>
    cases hc : h[i]? with
    | none => simp only [rcv, hc] at e; cases e
    | some c =>
      cases c with
      | ins _ _ => simp only [rcv, hc] at e; cases e
      | dct _ => simp only [rcv, hc] at e; cases e
      | lst xs =>
        simp only [rcv, hc] at e
        obtain ⟨a, ys, rfl, _, e1, q2⟩ := cell_lst r hc q
        exact .inl ⟨of_decide_eq_true e, ys, .inl (.inl e1)⟩
  | _ => cases e
theorem lst_wr {K : PySem.W.Frag} {μ : Emb} {h : Hpi} {H : Hp} {Q : VK} {i : Nat} {a : Addr} {v : IV} {z : V} {xs : List IV} {ys ys0 : List V} (r : Rp K G μ h H) (f : Fin K G μ H v (h.set i (.lst xs)) Q) (hi : μ[i]? = some a) (e : H a = some (.lst ys0)) (q : RVs K G μ H xs ys) (qz : RV K G μ H v z) :
    Q z (upd H a (.lst ys)) := by
  have st : Stp μ H μ (upd H a (.lst ys)) := Stp.write (List.mem_of_getElem? hi) e (fun _ z => by cases z)
  exact f μ _ z st (r.write hi e (fun _ z => by cases z) (fun _ z => by cases z) ⟨_, upd_same, st.rvs q⟩) (st.rv qz)
theorem RVs.nil {K : PySem.W.Frag} {μ : Emb} {H : Hp} {xs : List V} (q : RVs K G μ H [] xs) : xs = [] := q
theorem RVs.dropLast {K : PySem.W.Frag} {μ : Emb} {H : Hp} {xs : List IV} {ys : List V} (q : RVs K G μ H xs ys) : RVs K G μ H xs.dropLast ys.dropLast := by
  rw [List.dropLast_eq_take, List.dropLast_eq_take, q.length]
  exact q.take _
theorem RVs.erase {K : PySem.W.Frag} {μ : Emb} {H : Hp} {xs : List IV} {ys : List V} (k : Nat) (q : RVs K G μ H xs ys) : RVs K G μ H (xs.eraseIdx k) (ys.eraseIdx k) := by
  rw [List.eraseIdx_eq_take_drop_succ, List.eraseIdx_eq_take_drop_succ]
  exact (q.take k).append (q.drop (k + 1))
theorem mt_any (hu : X.A.units + 65 < cLine) (m : Mt) : MtR X (mtId m) (rMt X.K G m) := by
  intro pins s σ H x xs v us Q I rr rs h
  obtain ⟨μ, hh, xv, vs, w, h', r, qx, qs, e, f⟩ := h
  cases m with
  | append =>
    cases xv with
    | ref i =>
      rcases vs with _ | ⟨a, _ | ⟨b, t⟩⟩
      · cases e
      · cases hc : hh[i]? with
        | none => simp only [mtIV, hc] at e; cases e
        | some c =>
          cases c with
          | ins _ _ => simp only [mtIV, hc] at e; cases e
          | dct _ => simp only [mtIV, hc] at e; cases e
          | lst zs =>
            simp only [mtIV, hc] at e
            obtain ⟨hs, e⟩ := ite_some e
            cases e
            obtain ⟨p, ys, rfl, hi, e1, q2⟩ := cell_lst r hc qx
            obtain ⟨y, rfl, q3⟩ := rvs1 qs
            refine L2.mt_append pins s σ H _ _ v us Q I rr rs ⟨p, ys, y, rfl, rfl, e1, ?_, ?_⟩
            · have := sz hs
              rw [← q2.length]
              omega
            · exact lst_wr r f hi e1 (q2.append (RVs.one q3)) rfl
      · cases e
    | _ => cases e
  | pop =>
    cases xv with
    | ref i =>
      rcases vs with _ | ⟨a, t⟩
      · cases hc : hh[i]? with
        | none => simp only [mtIV, hc] at e; cases e
        | some c =>
          cases c with
          | ins _ _ => simp only [mtIV, hc] at e; cases e
          | dct _ => simp only [mtIV, hc] at e; cases e
          | lst zs =>
            simp only [mtIV, hc] at e
            cases e2 : zs[zs.length - 1]? with
            | none => rw [e2] at e; cases e
            | some u =>
              rw [e2] at e
              cases e
              obtain ⟨p, ys, rfl, hi, e1, q2⟩ := cell_lst r hc qx
              obtain ⟨y, hy, q3⟩ := q2.get e2
              refine L2.mt_pop pins s σ H _ _ v us Q I rr rs ⟨p, ys, y, rfl, qs.nil, e1, by rw [← q2.length]; exact hy, ?_⟩
              exact lst_wr r f hi e1 q2.dropLast q3
      · cases e
    | _ => cases e
  | popAt =>
    cases xv with
    | ref i =>
      rcases vs with _ | ⟨a, _ | ⟨b, t⟩⟩
      · cases e
      · cases a with
        | int j =>
          cases hc : hh[i]? with
          | none => simp only [mtIV, hc] at e; cases e
          | some c =>
            cases c with
            | ins _ _ => simp only [mtIV, hc] at e; cases e
            | dct _ => simp only [mtIV, hc] at e; cases e
            | lst zs =>
              simp only [mtIV, hc] at e
              by_cases hb : (decide (-(2 ^ 63) ≤ j) && decide (j < 2 ^ 63)) = true
              · rw [if_pos hb] at e
                obtain ⟨b1, b2⟩ := two hb
                cases e3 : seqIndex? j zs.length with
                | none => rw [e3] at e; cases e
                | some k =>
                  rw [e3] at e
                  dsimp only at e
                  cases e2 : zs[k]? with
                  | none => rw [e2] at e; cases e
                  | some u =>
                    rw [e2] at e
                    cases e
                    obtain ⟨p, ys, rfl, hi, e1, q2⟩ := cell_lst r hc qx
                    obtain ⟨y, hy, q3⟩ := q2.get e2
                    obtain ⟨z, rfl, q4⟩ := rvs1 qs
                    have q4 : z = _ := q4
                    subst q4
                    refine L2.mt_popAt pins s σ H _ _ v us Q I rr rs ⟨p, ys, j, k, y, rfl, rfl, e1, of_decide_eq_true b1, of_decide_eq_true b2, by rw [← q2.length]; exact e3, hy, ?_⟩
                    exact lst_wr r f hi e1 (q2.erase k) q3
              · rw [if_neg hb] at e
                cases e
        | _ => cases e
      · cases a <;> cases e
    | _ => rcases vs with _ | ⟨a, _ | ⟨b, t⟩⟩ <;> first | cases e | (cases a <;> cases e)
  | extend =>
    cases xv with
    | ref i =>
      rcases vs with _ | ⟨a, _ | ⟨b, t⟩⟩
      · cases e
      · cases a with
        | ref j =>
          cases hc : hh[i]? with
          | none => simp only [mtIV, hc] at e; cases e
          | some c =>
            cases hd : hh[j]? with
            | none => simp only [mtIV, hc, hd] at e; cases c <;> cases e
            | some c2 =>
              cases c with
              | ins _ _ => simp only [mtIV, hc, hd] at e; cases e
              | dct _ => simp only [mtIV, hc, hd] at e; cases e
              | lst zs =>
                cases c2 with
                | ins _ _ => simp only [mtIV, hc, hd] at e; cases e
                | dct _ => simp only [mtIV, hc, hd] at e; cases e
                | lst ws =>
                  simp only [mtIV, hc, hd] at e
                  obtain ⟨hs, e⟩ := ite_some e
                  cases e
                  obtain ⟨p, ys, rfl, hi, e1, q2⟩ := cell_lst r hc qx
                  obtain ⟨z, rfl, q4⟩ := rvs1 qs
                  obtain ⟨p2, ys2, rfl, hi2, e2, q5⟩ := cell_lst r hd q4
                  refine L2.mt_extend pins s σ H _ _ v us Q I rr rs ⟨p, p2, ys, ys2, rfl, rfl, e1, e2, by have := sz hs; rw [← q2.length, ← q5.length]; exact this, ?_⟩
                  exact lst_wr r f hi e1 (q2.append q5) rfl
        | _ => cases e
      · cases a <;> cases e
    | _ => rcases vs with _ | ⟨a, _ | ⟨b, t⟩⟩ <;> first | cases e | (cases a <;> cases e)
  | lindex =>
    rcases vs with _ | ⟨a, _ | ⟨b, t⟩⟩
    · cases xv <;> cases e
    · simp only [mtIV] at e
      cases e1 : toD hh 60 xv with
      | none => rw [e1] at e; cases e
      | some d1 =>
        cases e2 : toD hh 60 a with
        | none => rw [e1, e2] at e; cases d1 <;> cases e
        | some d =>
          rw [e1, e2] at e
          cases d1 with
          | list ds =>
            dsimp only at e
            by_cases hb : (SeqAt.shaped (.list ds) && SeqAt.shaped d) = true
            · rw [if_pos hb] at e
              obtain ⟨b1, b2⟩ := two hb
              cases e3 : ds.findIdx? (fun z => PyData.eqv z d) with
              | none => rw [e3] at e; cases e
              | some j =>
                rw [e3] at e
                cases e
                obtain ⟨y, rfl, q3⟩ := rvs1 qs
                have dl := dp_of r 60 e1 qx
                obtain ⟨p, rfl⟩ : ∃ p, x = .ref p := by
                  cases dl
                  exact ⟨_, rfl⟩
                obtain ⟨hj, hz, hno⟩ := List.findIdx?_eq_some_iff_getElem.mp e3
                exact L2.mt_indexD hu pins s σ H _ _ v us Q I rr rs ⟨p, y, d, ds, j, ds[j], rfl, rfl, dl, dp_of r 60 e2 q3, b1, b2, List.getElem?_eq_getElem hj, hz, fun m z' hm hz' => by
                  have hlt : m < ds.length := Nat.lt_trans hm hj
                  rw [List.getElem?_eq_getElem hlt] at hz'
                  cases hz'
                  simpa using hno m hm, f.here r rfl⟩
            · rw [if_neg hb] at e
              cases e
          | _ => cases e
    · cases xv <;> cases e
  | _ => cases xv <;> cases e
theorem tm_meth {n : Nat} {σ : LSt} {H : Hp} {Q : VK} {o : ME} {m : Mt} {es : List ME} (h : TM X.K G C W (evE F (n + 1) (.meth o m es)) σ H Q) :
    tBM X.K (mtTy m) (rMt X.K G m) (TM X.K G C W (evE F n o)) (TML X.K G C W (evL F n es)) σ H Q := by
  obtain ⟨μ, ℓ, hh, k, kx, P, r, l, w, hk, hx⟩ := h
  refine TM.step r l w hx fun v h1 μ1 H1 x s1 r1 l1 q1 hx1 w1 => ?_
  cases hb : rcv m v h1 with
  | false => rw [hb] at w1; exact w1.elim
  | true =>
    rw [hb] at w1
    refine ⟨rcv_ty r1 hb q1, TML.step r1 l1 w1 hx1 fun vs h2 μ2 H2 xs s2 r2 l2 q2 hx2 w2 => ?_⟩
    obtain ⟨⟨z, h3⟩, e, w3⟩ := wp_opt w2
    exact ⟨μ2, h2, v, vs, z, h3, r2, s2.rv q1, q2, e, fun μ3 H3 z' s3 r3 q3 => hk _ _ μ3 H3 z' (s1.tr r1 (s2.tr r2 s3)) r3 q3 w3⟩
theorem tm_meth0 {n : Nat} {σ : LSt} {H : Hp} {Q : VK} {o : ME} {m : Mt} (h : TM X.K G C W (evE F (n + 1) (.meth o m [])) σ H Q) :
    L2.tBM0 X.K (mtTy m) (rMt X.K G m) (TM X.K G C W (evE F n o)) σ H Q := by
  obtain ⟨μ, ℓ, hh, k, kx, P, r, l, w, hk, hx⟩ := h
  refine TM.step r l w hx fun v h1 μ1 H1 x s1 r1 l1 q1 hx1 w1 => ?_
  cases hb : rcv m v h1 with
  | false => rw [hb] at w1; exact w1.elim
  | true =>
    rw [hb] at w1
    refine ⟨rcv_ty r1 hb q1, ?_⟩
    have t : TML X.K G C W (evL F n []) σ H1 fun xs H2 => rMt X.K G m x xs H2 Q := TML.step r1 l1 w1 hx1 fun vs h2 μ2 H2 xs s2 r2 l2 q2 hx2 w2 => by
      obtain ⟨⟨z, h3⟩, e, w3⟩ := wp_opt w2
      exact ⟨μ2, h2, v, vs, z, h3, r2, s2.rv q1, q2, e, fun μ3 H3 z' s3 r3 q3 => hk _ _ μ3 H3 z' (s1.tr r1 (s2.tr r2 s3)) r3 q3 w3⟩
    exact tml_nil' t
end
end MP
set_option maxRecDepth 100000
set_option maxHeartbeats 4000000
/-! MPl: what is walked, targets, comprehensions. -/
namespace MP
open PySem PySem.Spec PyProof.Rows
open L2 (V HO Hp upd SqL SqT Rd upd_same upd_ne RelV Vals ne_of_none R2 OpR VK XK CallR IxR PSet MtR Cx TruV TE TT TA TI TG WX PE PT PW PA PK PI PG PTs It Itl Itt Itr tOp tC tVar tTup tLst tNil tCons Gl Inv EP thn wipe)
section
variable {K : PySem.W.Frag} {G : PEnv} {F : Cfg} {C : CSp} {W : WX} {X : Cx}
/-! ### walking -/
/-- what is left of what is walked -/
inductive SR (K : PySem.W.Frag) (G : PEnv) (μ : Emb) (H : Hp) : Src → It → Nat → Prop where
  | lst {a : Addr} {ys : List V} {xs : List IV} {i : Nat} (h : SqF K μ H a ys) (q : RVs K G μ H xs (ys.drop i)) : SR K G μ H (.its xs) (Itl K a) i
  | tup {a : Addr} {ys : List V} {xs : List IV} {i : Nat} (h : SqU K μ H a ys) (q : RVs K G μ H xs (ys.drop i)) : SR K G μ H (.its xs) (Itt K a) i
  | rng {lo : Int} {n i : Nat} : SR K G μ H (.its (rngL (lo + i) (n - i))) (Itr lo n) i
  | live {c : Nat} {a : Addr} {i : Nat} (h : μ[c]? = some a) : SR K G μ H (.live c i) (Itl K a) i
theorem Stp.sr {μ μ1 : Emb} {H H1 : Hp} (s : Stp μ H μ1 H1) {sr : Src} {J : It} {i : Nat} (h : SR K G μ H sr J i) : SR K G μ1 H1 sr J i := by
  cases h with
  | lst h q => exact .lst (s.sqf h) (s.rvs q)
  | tup h q => exact .tup (s.squ h) (s.rvs q)
  | rng => exact .rng
  | live h => exact .live (s.get h)
theorem SqF.uniq {μ : Emb} {H : Hp} {a : Addr} {ys zs : List V} (h : SqF K μ H a ys) : SqL K H a zs → ∃ xs : List V, True := fun _ => ⟨[], trivial⟩
theorem sr_none {μ : Emb} {h : Hpi} {H : Hp} (r : Rp K G μ h H) {s : Src} {J : It} {i : Nat} (q : SR K G μ H s J i) (e : nextS s h = some none) : J.stop i H := by
  cases q with
  | lst hq q =>
    rename_i a ys xs
    cases xs with
    | nil =>
      refine ⟨ys, hq.sql, ?_⟩
      have q : ys.drop i = [] := q
      exact List.drop_eq_nil_iff.mp q
    | cons x xs => cases e
  | tup hq q =>
    rename_i a ys xs
    cases xs with
    | nil =>
      refine ⟨ys, hq.sqt, ?_⟩
      have q : ys.drop i = [] := q
      exact List.drop_eq_nil_iff.mp q
    | cons x xs => cases e
  | rng =>
    rename_i lo n
    show n ≤ i
    cases hn : n - i with
    | zero => omega
    | succ k => rw [hn] at e; cases e
  | live hi =>
    rename_i c a
    simp only [nextS] at e
    cases hc : h[c]? with
    | none => rw [hc] at e; cases e
    | some cc =>
      rw [hc] at e
      cases cc with
      | ins _ _ => cases e
      | dct _ => cases e
      | lst xs =>
        obtain ⟨a', ys, e0, hi', e1, q2⟩ := cell_lst r hc ⟨a, rfl, hi⟩
        cases e0
        dsimp only at e
        cases hx : xs[i]? with
        | some x => rw [hx] at e; cases e
        | none =>
          refine ⟨ys, .inl (.inl e1), ?_⟩
          rw [← q2.length]
          exact List.getElem?_eq_none_iff.mp hx
/-- at H, a list's items are these -/
def Uq (K : PySem.W.Frag) (H : Hp) (J : It) (i : Nat) (y : V) : Prop := J.go i H ∧ ∀ z H', J.yld i H z H' → H' = H ∧ ((∃ a xs, J = Itl K a ∧ SqL K H a xs ∧ xs[i]? = some y) ∨ (∃ a xs, J = Itt K a ∧ SqT K H a xs ∧ xs[i]? = some y) ∨ z = y) ∧ (z = y)
theorem drop_cons {α : Type} {ys : List α} {i : Nat} {y : α} {r : List α} (h : ys.drop i = y :: r) : ys[i]? = some y ∧ ys.drop (i + 1) = r := by
  constructor
  · rw [← List.head?_drop, h]; rfl
  · rw [← List.drop_drop, h]; rfl
theorem sr_some {μ : Emb} {h : Hpi} {H : Hp} (r : Rp K G μ h H) {s s' : Src} {J : It} {i : Nat} {x : IV} (q : SR K G μ H s J i) (e : nextS s h = some (some (x, s'))) :
    J.go i H ∧ ∀ z H', J.yld i H z H' → H' = H ∧ RV K G μ H x z ∧ SR K G μ H s' J (i + 1) := by
  cases q with
  | lst hq q =>
    rename_i a ys xs
    cases xs with
    | nil => cases e
    | cons w xs =>
      cases e
      obtain ⟨y, r', e1, q1, q2⟩ := q
      obtain ⟨e2, e3⟩ := drop_cons e1
      refine ⟨⟨ys, y, hq.sql, e2⟩, fun z H' hy => ?_⟩
      obtain ⟨rfl, hy⟩ := hy
      have := hy ys hq.sql
      rw [e2] at this
      cases this
      exact ⟨rfl, q1, .lst hq (by rw [e3]; exact q2)⟩
  | tup hq q =>
    rename_i a ys xs
    cases xs with
    | nil => cases e
    | cons w xs =>
      cases e
      obtain ⟨y, r', e1, q1, q2⟩ := q
      obtain ⟨e2, e3⟩ := drop_cons e1
      refine ⟨⟨ys, y, hq.sqt, e2⟩, fun z H' hy => ?_⟩
      obtain ⟨rfl, hy⟩ := hy
      have := hy ys hq.sqt
      rw [e2] at this
      cases this
      exact ⟨rfl, q1, .tup hq (by rw [e3]; exact q2)⟩
  | rng =>
    rename_i lo n
    cases hn : n - i with
    | zero => rw [hn] at e; cases e
    | succ k =>
      rw [hn] at e
      cases e
      refine ⟨(by show i < n; omega), fun z H' hy => ?_⟩
      obtain ⟨rfl, rfl⟩ := hy
      refine ⟨rfl, rfl, ?_⟩
      have e1 : k = n - (i + 1) := by omega
      have e2 : lo + (i : Int) + 1 = lo + ((i + 1 : Nat) : Int) := by push_cast; omega
      rw [e1, e2]
      exact .rng
  | live hi =>
    rename_i c a
    simp only [nextS] at e
    cases hc : h[c]? with
    | none => rw [hc] at e; cases e
    | some cc =>
      rw [hc] at e
      cases cc with
      | ins _ _ => cases e
      | dct _ => cases e
      | lst xs =>
        obtain ⟨a', ys, e0, hi', e1, q2⟩ := cell_lst r hc ⟨a, rfl, hi⟩
        cases e0
        dsimp only at e
        cases hx : xs[i]? with
        | none => rw [hx] at e; cases e
        | some w =>
          rw [hx] at e
          cases e
          obtain ⟨y, e2, q3⟩ := q2.get hx
          refine ⟨⟨ys, y, .inl (.inl e1), e2⟩, fun z H' hy => ?_⟩
          obtain ⟨rfl, hy⟩ := hy
          have := hy ys (.inl (.inl e1))
          rw [e2] at this
          cases this
          exact ⟨rfl, q3, .live hi⟩
/-- what is walked, told -/
def TMI (K : PySem.W.Frag) (G : PEnv) (C : CSp) (W : WX) (m : Loc → Hpi → (Src → Hpi → Tree) → KX → Tree) : TI := fun σ H R =>
  ∃ (μ : Emb) (ℓ : Loc) (h : Hpi) (k : Src → Hpi → Tree) (kx : KX) (P : Res → Prop), Rp K G μ h H ∧ RL K G μ H ℓ σ ∧ Wp C (m ℓ h k kx) P ∧
    (∀ v h1 μ1 H1 J, Stp μ H μ1 H1 → Rp K G μ1 h1 H1 → SR K G μ1 H1 v J 0 → Wp C (k v h1) P → R J H1) ∧
    (∀ e h1 μ1 H1 cls d, Stp μ H μ1 H1 → Rp K G μ1 h1 H1 → RX K G μ1 H1 e cls d → Wp C (kx e h1) P → W cls d σ H1)
theorem TMI.step {m : Loc → Hpi → (Src → Hpi → Tree) → KX → Tree} {σ : LSt} {H : Hp} {Q : It → Hp → Prop} {μ : Emb} {ℓ : Loc} {h : Hpi} {k : Src → Hpi → Tree} {kx : KX} {P : Res → Prop} (r : Rp K G μ h H) (l : RL K G μ H ℓ σ) (w : Wp C (m ℓ h k kx) P)
    (hx : ∀ e h1 μ1 H1 cls d, Stp μ H μ1 H1 → Rp K G μ1 h1 H1 → RX K G μ1 H1 e cls d → Wp C (kx e h1) P → W cls d σ H1)
    (hk : ∀ v h1 μ1 H1 J, Stp μ H μ1 H1 → Rp K G μ1 h1 H1 → RL K G μ1 H1 ℓ σ → SR K G μ1 H1 v J 0 → (∀ e h2 μ2 H2 cls d, Stp μ1 H1 μ2 H2 → Rp K G μ2 h2 H2 → RX K G μ2 H2 e cls d → Wp C (kx e h2) P → W cls d σ H2) → Wp C (k v h1) P → Q J H1) : TMI K G C W m σ H Q :=
  ⟨μ, ℓ, h, k, kx, P, r, l, w, fun v h1 μ1 H1 J s r1 q w1 => hk v h1 μ1 H1 J s r1 (s.rl l) q (fun e h2 μ2 H2 cls d t r2 q2 w2 => hx e h2 μ2 H2 cls d (s.tr r1 t) r2 q2 w2) w1, hx⟩
def iAny (K : PySem.W.Frag) (tl : TE) : TI := fun σ H R => tl σ H fun x H1 => ∃ a, x = .ref a ∧ (((∃ xs, SqL K H1 a xs) ∧ R (Itl K a) H1) ∨ ((∃ xs, SqT K H1 a xs) ∧ R (Itt K a) H1))
theorem pi_any {tg : Expr} {l : Expr} {tl : TE} (hl : PE X l tl) : PI X tg l (iAny X.K tl) := by
  refine ⟨fun pins s σ H R I h => ?_⟩
  refine thn (hl.run pins s σ H _ I h) fun v s1 ⟨x, H1, I1, r1, q1⟩ => ?_
  obtain ⟨a, rfl, q⟩ := q1
  cases r1
  rcases q with ⟨⟨xs, hq⟩, q⟩ | ⟨⟨xs, hq⟩, q⟩
  · obtain ⟨its, rv, p, hz⟩ := I1.list hq
    refine wpAny_pyIter_list p.isList ?_
    refine ⟨s1.heap.objs.size, [s1.heap.objs.size], _, _, H1, rfl, I1.kept (t' := s1.toks) fun b o e => Heap.get?_push_of_some _ e, L2.turn_list a _, ⟨_, Heap.get?_push_size _ rfl, rfl, rfl⟩, fun b hb => ?_, q⟩
    have e : b = s1.heap.objs.size := by simpa using hb
    subst e
    exact I1.fpOk (Nat.le_refl _) (I1.hok.fresh (Nat.le_refl _))
  · obtain ⟨its, rv, p, hz⟩ := I1.tuple hq
    refine wpAny_pyIter_tuple (show s1.heap.IsTuple a its.toArray from p) ?_
    refine ⟨s1.heap.objs.size, [s1.heap.objs.size], _, _, H1, rfl, I1.kept (t' := s1.toks) fun b o e => Heap.get?_push_of_some _ e, L2.turn_tuple a _, ⟨_, Heap.get?_push_size _ rfl, rfl, rfl⟩, fun b hb => ?_, q⟩
    have e : b = s1.heap.objs.size := by simpa using hb
    subst e
    exact I1.fpOk (Nat.le_refl _) (I1.hok.fresh (Nat.le_refl _))
theorem tmi_val {n : Nat} {a : ME} {σ : LSt} {H : Hp} {R : It → Hp → Prop} (h : TMI K G C W (evI F (n + 1) (.val a)) σ H R) : iAny K (TM K G C W (evE F n a)) σ H R := by
  obtain ⟨μ, ℓ, hh, k, kx, P, r, l, w, hk, hx⟩ := h
  refine TM.step r l w hx fun v h1 μ1 H1 x s1 r1 l1 q1 hx1 w1 => ?_
  obtain ⟨s, e, w2⟩ := wp_opt w1
  cases v with
  | tup xs =>
    cases e
    obtain ⟨a, ys, rfl, q2, q3⟩ := q1
    exact ⟨a, rfl, .inr ⟨⟨ys, q2.sqt⟩, hk _ h1 μ1 H1 _ s1 r1 (.tup q2 (i := 0) (by rw [List.drop_zero]; exact q3)) w2⟩⟩
  | kls xs =>
    cases e
    obtain ⟨a, ys, rfl, q2, q3⟩ := q1
    exact ⟨a, rfl, .inl ⟨⟨ys, q2.sql⟩, hk _ h1 μ1 H1 _ s1 r1 (.lst q2 (i := 0) (by rw [List.drop_zero]; exact q3)) w2⟩⟩
  | ref i =>
    cases hc : h1[i]? with
    | none => simp only [srcIV, hc] at e; cases e
    | some c =>
      cases c with
      | ins _ _ => simp only [srcIV, hc] at e; cases e
      | dct _ => simp only [srcIV, hc] at e; cases e
      | lst xs =>
        simp only [srcIV, hc] at e
        cases e
        obtain ⟨a, ys, rfl, hi, e1, q2⟩ := cell_lst r1 hc q1
        exact ⟨a, rfl, .inl ⟨⟨ys, .inl (.inl e1)⟩, hk _ h1 μ1 H1 _ s1 r1 (.live hi) w2⟩⟩
  | _ => cases e
theorem rng_ok {x y : IV} {s : Src} (e : rngIV x y = some s) : ∃ i j, x = .int i ∧ y = .int j ∧ -(2 ^ 62) ≤ i ∧ i < 2 ^ 62 ∧ -(2 ^ 62) ≤ j ∧ j < 2 ^ 62 ∧ s = .its (rngL i (j - i).toNat) := by
  cases x with
  | int i =>
    cases y with
    | int j =>
      simp only [rngIV] at e
      obtain ⟨hs, e⟩ := ite_some e
      obtain ⟨h1, h2⟩ := two hs
      obtain ⟨a, b⟩ := two h1
      obtain ⟨c, d⟩ := two h2
      exact ⟨i, j, rfl, rfl, of_decide_eq_true a, of_decide_eq_true b, of_decide_eq_true c, of_decide_eq_true d, e.symm⟩
    | _ => cases e
  | _ => cases y <;> cases e
theorem tmi_rng1 {n : Nat} {a : ME} {σ : LSt} {H : Hp} {R : It → Hp → Prop} (h : TMI K G C W (evI F (n + 1) (.rng1 a)) σ H R) : L2.iRng1 (tCons (TM K G C W (evE F n a)) tNil) σ H R := by
  obtain ⟨μ, ℓ, hh, k, kx, P, r, l, w, hk, hx⟩ := h
  refine TM.step r l w hx fun v h1 μ1 H1 x s1 r1 l1 q1 hx1 w1 => ?_
  obtain ⟨s, e, w2⟩ := wp_opt w1
  obtain ⟨i, j, e0, rfl, a1, a2, a3, a4, rfl⟩ := rng_ok e
  cases e0
  have q1 : x = _ := q1
  subst q1
  refine ⟨j, rfl, a3, a4, hk _ h1 μ1 H1 _ s1 r1 ?_ w2⟩
  have := SR.rng (K := K) (G := G) (μ := μ1) (H := H1) (lo := 0) (n := j.toNat) (i := 0)
  simpa using this
theorem tmi_rng2 {n : Nat} {a b : ME} {σ : LSt} {H : Hp} {R : It → Hp → Prop} (h : TMI K G C W (evI F (n + 1) (.rng2 a b)) σ H R) : L2.iRng2 (tCons (TM K G C W (evE F n a)) (tCons (TM K G C W (evE F n b)) tNil)) σ H R := by
  obtain ⟨μ, ℓ, hh, k, kx, P, r, l, w, hk, hx⟩ := h
  refine TM.step r l w hx fun v h1 μ1 H1 x s1 r1 l1 q1 hx1 w1 => TM.step r1 l1 w1 hx1 fun v2 h2 μ2 H2 y s2 r2 l2 q2 hx2 w2 => ?_
  obtain ⟨s, e, w3⟩ := wp_opt w2
  obtain ⟨i, j, rfl, rfl, a1, a2, a3, a4, rfl⟩ := rng_ok e
  have q1 : x = _ := q1
  have q2 : y = _ := q2
  subst q1 q2
  refine ⟨i, j, rfl, ⟨a1, a2, a3, a4⟩, hk _ h2 μ2 H2 _ (s1.tr r1 s2) r2 ?_ w3⟩
  have := SR.rng (K := K) (G := G) (μ := μ2) (H := H2) (lo := i) (n := (j - i).toNat) (i := 0)
  simpa using this
/-! ### targets -/
/-- after the store: what is behind -/
def Stored (K : PySem.W.Frag) (G : PEnv) (C : CSp) (ok : List Nat → Bool) (σ : LSt) (μ : Emb) (H : Hp) (k : Loc → Hpi → Tree) (P : Res → Prop) (Q : LSt → Hp → Prop) : Prop :=
  ∀ ℓ1 h1 μ1 H1 σ1, Stp μ H μ1 H1 → Rp K G μ1 h1 H1 → RL K G μ1 H1 ℓ1 σ1 → (∀ vs, ok vs = true → wipe σ1 vs = wipe σ vs) → Wp C (k ℓ1 h1) P → Q σ1 H1
/-- a target's reading -/
def TMG (K : PySem.W.Frag) (G : PEnv) (C : CSp) (ok : List Nat → Bool) (m : IV → Loc → Hpi → (Loc → Hpi → Tree) → KX → Tree) : TG := fun v σ H Q =>
  ∃ (μ : Emb) (ℓ : Loc) (h : Hpi) (iv : IV) (k : Loc → Hpi → Tree) (P : Res → Prop), Rp K G μ h H ∧ RL K G μ H ℓ σ ∧ RV K G μ H iv v ∧ Wp C (m iv ℓ h k (fun _ _ => .stuck)) P ∧ Stored K G C ok σ μ H k P Q
def TMGs (K : PySem.W.Frag) (G : PEnv) (C : CSp) (ok : List Nat → Bool) (m : List IV → Loc → Hpi → (Loc → Hpi → Tree) → KX → Tree) : L2.TGs := fun v σ H Q =>
  ∃ (μ : Emb) (ℓ : Loc) (h : Hpi) (iv : List IV) (k : Loc → Hpi → Tree) (P : Res → Prop), Rp K G μ h H ∧ RL K G μ H ℓ σ ∧ RVs K G μ H iv v ∧ Wp C (m iv ℓ h k (fun _ _ => .stuck)) P ∧ Stored K G C ok σ μ H k P Q
theorem wipe_set {σ : LSt} {i : Nat} {x : Option V} : ∀ {vs : List Nat}, i ∈ vs → wipe (σ.set i x) vs = wipe σ vs
  | [], h => by simp at h
  | v :: vs, h => by
    show (wipe (σ.set i x) vs).set v none = (wipe σ vs).set v none
    by_cases hm : i ∈ vs
    · rw [wipe_set hm]
    · have e : i = v := by
        rcases List.mem_cons.mp h with e | e
        · exact e
        · exact absurd e hm
      subst e
      apply List.ext_getElem?
      intro j
      by_cases hj : j = i
      · subst hj
        simp [List.getElem?_set, L2.wipe_length]
      · rw [List.getElem?_set_ne (Ne.symm hj), List.getElem?_set_ne (Ne.symm hj)]
        have : ∀ {us : List Nat}, (wipe (σ.set i x) us)[j]? = (wipe σ us)[j]? := by
          intro us
          induction us with
          | nil => exact List.getElem?_set_ne (Ne.symm hj)
          | cons u us ih =>
            show ((wipe (σ.set i x) us).set u none)[j]? = ((wipe σ us).set u none)[j]?
            by_cases hu : u = j
            · subst hu
              simp [List.getElem?_set, L2.wipe_length]
            · rw [List.getElem?_set_ne hu, List.getElem?_set_ne hu]
              exact ih
        exact this
theorem RL.set {μ : Emb} {H : Hp} {ℓ : Loc} {σ : LSt} {i : Nat} {x : IV} {v : V} (l : RL K G μ H ℓ σ) (q : RV K G μ H x v) : RL K G μ H (ℓ.set i (some x)) (σ.set i (some v)) := by
  refine ⟨by simp [l.1], fun j y e => ?_⟩
  by_cases hj : j = i
  · subst hj
    have hlt : j < (ℓ.set j (some x)).length := (List.getElem?_eq_some_iff.mp e).1
    have hlt1 : j < ℓ.length := by simpa using hlt
    rw [List.getElem?_set_self hlt1] at e
    cases e
    exact ⟨v, List.getElem?_set_self (by rw [← l.1]; exact hlt1), q⟩
  · rw [List.getElem?_set_ne (Ne.symm hj)] at e ⊢
    exact l.2 j y e
theorem RL.setN {μ : Emb} {H : Hp} {ℓ : Loc} {σ : LSt} {i : Nat} (l : RL K G μ H ℓ σ) : RL K G μ H (ℓ.set i none) (σ.set i none) := by
  refine ⟨by simp [l.1], fun j y e => ?_⟩
  by_cases hj : j = i
  · subst hj
    have hlt : j < (ℓ.set j none).length := (List.getElem?_eq_some_iff.mp e).1
    rw [List.getElem?_set_self (by simpa using hlt)] at e
    cases e
  · rw [List.getElem?_set_ne (Ne.symm hj)] at e ⊢
    exact l.2 j y e
theorem RL.wipe {μ : Emb} {H : Hp} {ℓ : Loc} {σ : LSt} (l : RL K G μ H ℓ σ) : ∀ vs : List Nat, RL K G μ H (wipeL ℓ vs) (L2.wipe σ vs)
  | [] => l
  | v :: vs => (RL.wipe l vs).setN
theorem tmg_name {n i : Nat} {v : V} {σ : LSt} {H : Hp} {Q : LSt → Hp → Prop} (h : TMG K G C (fun vs => nmInE vs (.name i)) (evG F (n + 1) (.name i)) v σ H Q) : L2.gName i v σ H Q := by
  obtain ⟨μ, ℓ, hh, iv, k, P, r, l, q, w, hk⟩ := h
  exact hk (ℓ.set i (some iv)) hh μ H _ Stp.refl r (l.set q) (fun vs hv => wipe_set (of_decide_eq_true hv)) w
theorem tmgs_nil {n : Nat} {v : List V} {σ : LSt} {H : Hp} {Q : LSt → Hp → Prop} (h : TMGs K G C (fun vs => nmInEs vs []) (evGs F (n + 1) []) v σ H Q) : L2.gNil v σ H Q := by
  obtain ⟨μ, ℓ, hh, iv, k, P, r, l, q, w, hk⟩ := h
  cases iv with
  | nil =>
    have q : v = [] := q
    exact ⟨q, hk ℓ hh μ H σ Stp.refl r l (fun _ _ => rfl) w⟩
  | cons x xs => exact w.elim
theorem tmgs_cons {n : Nat} {t : MT} {ts : List MT} {v : List V} {σ : LSt} {H : Hp} {Q : LSt → Hp → Prop} (h : TMGs K G C (fun vs => nmInEs vs (t :: ts)) (evGs F (n + 1) (t :: ts)) v σ H Q) :
    L2.gCons (TMG K G C (fun vs => nmInE vs t) (evG F n t)) (TMGs K G C (fun vs => nmInEs vs ts) (evGs F n ts)) v σ H Q := by
  obtain ⟨μ, ℓ, hh, iv, k, P, r, l, q, w, hk⟩ := h
  cases iv with
  | nil => exact w.elim
  | cons x xs =>
    obtain ⟨y, ys, rfl, q1, q2⟩ := q
    refine ⟨y, ys, rfl, μ, ℓ, hh, x, _, P, r, l, q1, w, ?_⟩
    intro ℓ1 h1 μ1 H1 σ1 s1 r1 l1 o1 w1
    refine ⟨μ1, ℓ1, h1, xs, _, P, r1, l1, s1.rvs q2, w1, ?_⟩
    intro ℓ2 h2 μ2 H2 σ2 s2 r2 l2 o2 w2
    refine hk ℓ2 h2 μ2 H2 σ2 (s1.tr r1 s2) r2 l2 (fun vs hv => ?_) w2
    obtain ⟨a, b⟩ := two (show (nmInE vs t && nmInEs vs ts) = true from hv)
    rw [o2 vs b, o1 vs a]
theorem tmg_tup {n : Nat} {ts : List MT} {v : V} {σ : LSt} {H : Hp} {Q : LSt → Hp → Prop} (h : TMG K G C (fun vs => nmInE vs (.tup ts)) (evG F (n + 1) (.tup ts)) v σ H Q) :
    L2.gTup K ts.length (TMGs K G C (fun vs => nmInEs vs ts) (evGs F n ts)) v σ H Q := by
  obtain ⟨μ, ℓ, hh, iv, k, P, r, l, q, w, hk⟩ := h
  cases iv with
  | tup xs =>
    obtain ⟨a, ys, rfl, q1, q2⟩ := q
    have w : Wp C (if xs.length = ts.length then evGs F n ts xs ℓ hh k (fun _ _ => .stuck) else .stuck) P := w
    by_cases he : xs.length = ts.length
    · rw [if_pos he] at w
      exact ⟨a, ys, rfl, q1.sqt, by rw [← q2.length]; exact he, μ, ℓ, hh, xs, k, P, r, l, q2, w, hk⟩
    · rw [if_neg he] at w
      exact w.elim
  | _ => exact w.elim
theorem tmg_idx {n : Nat} {o i : ME} {v : V} {σ : LSt} {H : Hp} {Q : LSt → Hp → Prop} (h : TMG K G C (fun vs => nmInE vs (.idx o i)) (evG F (n + 1) (.idx o i)) v σ H Q) :
    L2.gSub (TM K G C W (evE F n o)) (TM K G C W (evE F n i)) (rSet K G) v σ H Q := by
  obtain ⟨μ, ℓ, hh, iv, k, P, r, l, q, w, hk⟩ := h
  refine TM.step r l w (fun e h1 μ1 H1 cls d s1 r1 q1 w1 => w1.elim) fun ov h1 μ1 H1 o s1 r1 l1 q1 hx1 w1 => TM.step r1 l1 w1 (fun e h1 μ1 H1 cls d s1 r1 q1 w1 => w1.elim) fun yv h2 μ2 H2 y s2 r2 l2 q2 hx2 w2 => ?_
  obtain ⟨h3, e, w3⟩ := wp_opt w2
  exact ⟨μ2, h2, ov, yv, iv, h3, r2, s2.rv q1, q2, s2.rv (s1.rv q), e, fun H3 s3 r3 => hk ℓ h3 μ2 H3 σ (s1.tr r1 (s2.tr r2 s3)) r3 (s3.rl l2) (fun _ _ => rfl) w3⟩
/-! ### comprehensions -/
def TMQ (K : PySem.W.Frag) (G : PEnv) (C : CSp) (m : Loc → Hpi → (Bool → Hpi → Tree) → Tree) : TT := fun σ H Q =>
  ∃ (μ : Emb) (ℓ : Loc) (h : Hpi) (k : Bool → Hpi → Tree) (P : Res → Prop), Rp K G μ h H ∧ RL K G μ H ℓ σ ∧ Wp C (m ℓ h k) P ∧ ∀ b h1 μ1 H1, Stp μ H μ1 H1 → Rp K G μ1 h1 H1 → Wp C (k b h1) P → Q b H1
theorem tmq_nil {n : Nat} {σ : LSt} {H : Hp} {Q : Bool → Hp → Prop} (h : TMQ K G C (evQ F (n + 1) []) σ H Q) : L2.tYes σ H Q := by
  obtain ⟨μ, ℓ, hh, k, P, r, l, w, hk⟩ := h
  exact hk true hh μ H Stp.refl r w
theorem tmq_one {n : Nat} {c : ME} {σ : LSt} {H : Hp} {Q : Bool → Hp → Prop} (h : TMQ K G C (evQ F (n + 2) [c]) σ H Q) : TMT K G C (fun _ _ _ _ => False) (evE F (n + 1) c) σ H Q := by
  obtain ⟨μ, ℓ, hh, k, P, r, l, w, hk⟩ := h
  refine ⟨μ, ℓ, hh, _, _, P, r, l, w, fun t h1 μ1 H1 s1 r1 w1 => ?_, fun e h1 μ1 H1 cls d s1 r1 q1 w1 => w1.elim⟩
  cases t with
  | true => exact hk true h1 μ1 H1 s1 r1 w1
  | false => exact hk false h1 μ1 H1 s1 r1 w1
/-- the turns of a comprehension -/
def CTurn (K : PySem.W.Frag) (G : PEnv) (C : CSp) (F : Cfg) (elt : ME) (tg : MT) (ifs : List ME) (own : List Nat) (k : KV) (P : Res → Prop) (μ0 : Emb) (H0 : Hp) (σ : LSt) (D : Addr) (c : Nat) (ℓ : Loc) (J : It) : Nat → Nat → Hp → Prop := fun i m H =>
  ∃ (μ : Emb) (h : Hpi) (s : Src), Rp K G μ h H ∧ RL K G μ H ℓ (wipe σ own) ∧ SR K G μ H s J i ∧ Stp μ0 H0 μ H ∧ μ[c]? = some D ∧ Wp C (evC F m elt tg s ifs own ℓ c h k) P
def AnyE (K : PySem.W.Frag) (G : PEnv) (C : CSp) (W : WX) (F : Cfg) (m : ME) : TE := fun σ H Q => ∃ n, TM K G C W (evE F n m) σ H Q
def AnyG (K : PySem.W.Frag) (G : PEnv) (C : CSp) (F : Cfg) (t : MT) : TG := fun v σ H Q => ∃ n, TMG K G C (fun vs => nmInE vs t) (evG F n t) v σ H Q
def AnyQ (K : PySem.W.Frag) (G : PEnv) (C : CSp) (F : Cfg) (cs : List ME) : TT := fun σ H Q => ∃ n, TMQ K G C (evQ F n cs) σ H Q
theorem wipe_wipe {σ : LSt} {vs : List Nat} : wipe (wipe σ vs) vs = wipe σ vs := by
  have key : ∀ us : List Nat, (∀ v ∈ us, v ∈ vs) → wipe (wipe σ us) vs = wipe σ vs := by
    intro us
    induction us with
    | nil => intro _; rfl
    | cons u us ih =>
      intro h
      show wipe ((wipe σ us).set u none) vs = wipe σ vs
      rw [wipe_set (h u (by simp)), ih fun v hv => h v (by simp [hv])]
  exact key vs fun v hv => hv
theorem tm_comp {n : Nat} {elt : ME} {tg : MT} {it : MI} {ifs : List ME} {own : List Nat} {σ : LSt} {H : Hp} {Q : VK} (h : TM K G C W (evE F (n + 1) (.comp elt tg it ifs own)) σ H Q) (ho : nmInE own tg = true) :
    L2.tLc (TMI K G C W (evI F n it)) (AnyG K G C F tg) (AnyQ K G C F ifs) (AnyE K G C (fun _ _ _ _ => False) F elt) own σ H Q := by
  obtain ⟨μ, ℓ, hh, k, kx, P, r, l, w, hk, hx⟩ := h
  refine TMI.step r l w hx fun s h1 μ1 H1 J s1 r1 l1 q1 hx1 w1 => fun D hD => ?_
  have sD : Stp μ1 H1 (μ1 ++ [D]) (upd H1 D (.lst [])) := Stp.cell hD
  refine ⟨CTurn K G C F elt tg ifs own k P μ1 H1 σ D h1.length (wipeL ℓ own) J, ⟨n, μ1 ++ [D], h1 ++ [.lst []], s, lst_new (xs := []) (ys := []) r1 hD rfl, sD.rl (l1.wipe own), sD.sr q1, sD, by rw [← r1.len]; simp, w1⟩, fun i m H' turn => ?_⟩
  obtain ⟨μ', h', s', r', l', q', st, hD', w'⟩ := turn
  cases m with
  | zero => exact w'.elim
  | succ m =>
    obtain ⟨o, e, w2⟩ := wp_opt (show Wp C (optT (nextS s' h') _) P from w')
    cases o with
    | none => exact .inl ⟨sr_none r' q' e, hk (.ref h1.length) h' μ' H' (.ref D) (s1.tr r1 st) r' ⟨D, rfl, hD'⟩ w2⟩
    | some p =>
      obtain ⟨x, s''⟩ := p
      obtain ⟨go, ny⟩ := sr_some r' q' e
      refine .inr ⟨go, fun H'' => ∃ m', m' < m + 1 ∧ CTurn K G C F elt tg ifs own k P μ1 H1 σ D h1.length (wipeL ℓ own) J (i + 1) m' H'', fun _ z => z, fun y Hy hy => ?_⟩
      obtain ⟨eH, qx, qs⟩ := ny y Hy hy
      subst eH
      refine ⟨m, μ', wipeL ℓ own, h', x, _, P, r', l', qx, w2, ?_⟩
      intro ℓ2 h2 μ2 H2 σ2 s2 r2 l2 o2 w3
      refine ⟨by rw [o2 own ho, wipe_wipe], m, μ2, ℓ2, h2, _, P, r2, l2, w3, fun b h3 μ3 H3 s3 r3 w4 => ?_⟩
      cases b with
      | false =>
        rw [if_neg Bool.false_ne_true]
        have t : Stp μ' Hy μ3 H3 := s2.tr r2 s3
        exact ⟨m, Nat.lt_succ_self _, μ3, h3, s'', r3, t.rl l', t.sr qs, st.tr r' t, t.get hD', w4⟩
      | true =>
        rw [if_pos rfl]
        refine ⟨m, TM.step r3 (s3.rl l2) w4 (fun e h1 μ1 H1 cls d s1 r1 q1 w1 => w1.elim) fun yv h4 μ4 H4 y4 s4 r4 l4 q4 hx4 w5 => ?_⟩
        have t : Stp μ' Hy μ4 H4 := s2.tr r2 (s3.tr r3 s4)
        cases hc : h4[h1.length]? with
        | none => simp only [hc] at w5; exact w5.elim
        | some cc =>
          cases cc with
          | ins _ _ => simp only [hc] at w5; exact w5.elim
          | dct _ => simp only [hc] at w5; exact w5.elim
          | lst acc =>
            simp only [hc] at w5
            obtain ⟨D', ys, e0, hi, e1, qa⟩ := cell_lst r4 hc ⟨D, rfl, t.get hD'⟩
            cases e0
            by_cases hz : sizeOk (acc.length + 1) = true
            · rw [if_pos hz] at w5
              have sw : Stp μ4 H4 μ4 (upd H4 D (.lst (ys ++ [y4]))) := Stp.write (List.mem_of_getElem? hi) e1 (fun _ z => by cases z)
              refine ⟨ys, e1, by have := sz hz; rw [← qa.length]; omega, m, Nat.lt_succ_self _, μ4, h4.set h1.length (.lst (acc ++ [yv])), s'', r4.write hi e1 (fun _ z => by cases z) (fun _ z => by cases z) (show RC K G μ4 _ D (.lst (acc ++ [yv])) from ⟨_, upd_same, sw.rvs (qa.append (RVs.one q4))⟩), (t.tr r4 sw).rl l', (t.tr r4 sw).sr qs, st.tr r' (t.tr r4 sw), (t.tr r4 sw).get hD', w5⟩
            · rw [if_neg hz] at w5
              exact w5.elim
end
end MP
set_option maxRecDepth 100000
set_option maxHeartbeats 4000000
/-! MPl2: dict displays, list(range(n)). -/
namespace MP
open PySem PySem.Spec PyProof.Rows
open L2 (V HO Hp upd SqL SqT Rd upd_same upd_ne RelV Vals ne_of_none VK Cx TE TA WX PE PA tC tNil tCons)
section
variable {K : PySem.W.Frag} {G : PEnv} {μ : Emb} {h : Hpi} {H : Hp}
/-- a dict in the making taken off the heap -/
def rmH (H : Hp) (p : Addr) : Hp := fun b => if b = p then none else H b
theorem rmH_ne {p b : Addr} (hb : b ≠ p) : rmH H p b = H b := if_neg hb
theorem rmH_upd {p : Addr} {o : HO} : upd (rmH H p) p o = upd H p o := funext fun b => by
  by_cases e : b = p
  · subst e; rw [upd_same, upd_same]
  · rw [upd_ne e, upd_ne e]; exact rmH_ne e
section
variable {p : Addr} {gs : List (L2.Key × V)} (hp : H p = some (.dK gs))
include hp
theorem rm_keep {b : Addr} {o : HO} (e : H b = some o) (n : o ≠ .dK gs) : rmH H p b = some o := by
  rw [rmH_ne]
  · exact e
  · intro z
    rw [z, hp] at e
    exact n (Option.some.inj e).symm
theorem rm_rd {b : Addr} {o : HO} (e : Rd H b o) (n : o ≠ .dK gs) : Rd (rmH H p) b o := by
  rcases e with e | ⟨u, e⟩
  · exact .inl (rm_keep hp e n)
  · exact .inr ⟨u, rm_keep hp e (fun z => by cases z)⟩
theorem rm_squ {a : Addr} {ys : List V} (q : SqU K μ H a ys) : SqU K μ (rmH H p) a ys := by
  rcases q with q | ⟨q, hm⟩
  · exact .inl q
  · exact .inr ⟨rm_rd hp q (fun z => by cases z), hm⟩
theorem rm_sqf {a : Addr} {ys : List V} (q : SqF K μ H a ys) : SqF K μ (rmH H p) a ys := by
  rcases q with q | ⟨q, hm⟩
  · exact .inl q
  · exact .inr ⟨rm_rd hp q (fun z => by cases z), hm⟩
mutual
theorem rm_rv : ∀ {x : IV} {v : V}, RV K G μ H x v → RV K G μ (rmH H p) x v
  | .non, _, q => q
  | .bl _, _, q => q
  | .int _, _, q => q
  | .str _, _, q => q
  | .tup _, _, q => by
    obtain ⟨a, ys, e, q1, q2⟩ := q
    exact ⟨a, ys, e, rm_squ hp q1, rm_rvs q2⟩
  | .kls _, _, q => by
    obtain ⟨a, ys, e, q1, q2⟩ := q
    exact ⟨a, ys, e, rm_sqf hp q1, rm_rvs q2⟩
  | .kdc _ _, _, q => by
    obtain ⟨a, ys, e, q1, q2⟩ := q
    exact ⟨a, ys, e, q1, rm_rvs q2⟩
  | .ref _, _, q => q
  | .err, _, q => q
  | .act, _, q => q
theorem rm_rvs : ∀ {xs : List IV} {ys : List V}, RVs K G μ H xs ys → RVs K G μ (rmH H p) xs ys
  | [], _, q => q
  | _ :: _, _, q => by
    obtain ⟨y, r, e, q1, q2⟩ := q
    exact ⟨y, r, e, rm_rv q1, rm_rvs q2⟩
end
theorem rm_rf : ∀ {fs : List (Nat × IV)} {gs : List (Str × V)}, RF K G μ H fs gs → RF K G μ (rmH H p) fs gs
  | [], _, q => q
  | (_, _) :: _, _, q => by
    obtain ⟨y, r, e, q1, q2⟩ := q
    exact ⟨y, r, e, rm_rv hp q1, rm_rf q2⟩
theorem rm_rdd : ∀ {fs : List (L2.Key × IV)} {gs : List (L2.Key × V)}, RD K G μ H fs gs → RD K G μ (rmH H p) fs gs
  | [], _, q => q
  | (_, _) :: _, _, q => by
    obtain ⟨y, r, e, q1, q2⟩ := q
    exact ⟨y, r, e, rm_rv hp q1, rm_rdd q2⟩
theorem rm_rp (r : Rp K G μ h H) (hm : p ∉ μ) : Rp K G μ h (rmH H p) := by
  refine ⟨r.len, r.nd, fun i a c e1 e2 => ?_, fun q hq => ?_, fun e dd hx => ?_, fun i hx => ?_⟩
  · have q := r.at_ i a c e1 e2
    have ha : a ≠ p := fun z => hm (by rw [← z]; exact List.mem_of_getElem? e1)
    cases c with
    | lst xs => obtain ⟨ys, h1, h2⟩ := q; exact ⟨ys, by rw [rmH_ne ha]; exact h1, rm_rvs hp h2⟩
    | ins c fs => obtain ⟨dx, gs, h1, h2⟩ := q; exact ⟨dx, gs, by rw [rmH_ne ha]; exact h1, rm_rf hp h2⟩
    | dct kvs => obtain ⟨gs, h1, h2⟩ := q; exact ⟨gs, by rw [rmH_ne ha]; exact h1, rm_rdd hp h2⟩
  · obtain ⟨ps, h1, h2, h3⟩ := r.tabs q hq
    refine ⟨ps, rm_keep hp h1 (fun z => by cases z), h2, fun pos cv hc => ?_⟩
    obtain ⟨c, c1, c2⟩ := h3 pos cv hc
    exact ⟨c, c1, rm_keep hp c2 (fun z => by cases z)⟩
  · obtain ⟨u, h1, h2, h3⟩ := r.exq e dd hx
    exact ⟨u, rm_keep hp h1 (fun z => by cases z), h2, rm_rv hp h3⟩
  · obtain ⟨h1, h2, h3⟩ := r.lamq i hx
    exact ⟨rm_keep hp h1 (fun z => by cases z), h2, h3.1, fun j x e => let ⟨v, e1, q⟩ := h3.2 j x e; ⟨v, e1, rm_rv hp q⟩⟩
end
/-- a dict that was made is a cell from now on -/
theorem dct_cell {μ1 : Emb} {h1 : Hpi} {H1 : Hp} {p : Addr} {kvs : List (L2.Key × IV)} {gs : List (L2.Key × V)} (hp : H p = none) (hm : p ∉ μ) (s : Stp μ (upd H p (.dK [])) μ1 H1) (r : Rp K G μ1 h1 H1) (q : RD K G μ1 H1 kvs gs) :
    Stp μ H (μ1 ++ [p]) (upd H1 p (.dK gs)) ∧ Rp K G (μ1 ++ [p]) (h1 ++ [.dct kvs]) (upd H1 p (.dK gs)) := by
  have e0 : upd H p (.dK []) p = some (.dK []) := upd_same
  have e1 : H1 p = some (.dK []) := s.keep p _ e0 hm (fun _ z => by cases z)
  have m1 : p ∉ μ1 := s.notin e0 hm
  have r0 := rm_rp e1 r m1
  have z0 : rmH H1 p p = none := if_pos rfl
  have key := r0.cell_new (c := .dct kvs) (o := .dK gs) z0 ⟨gs, upd_same, (Stp.cell z0).rd (rm_rdd e1 q)⟩
  rw [rmH_upd] at key
  refine ⟨⟨?_, fun b o hb nb nt => ?_⟩, key⟩
  · obtain ⟨ext, rfl, he⟩ := s.pre
    refine ⟨ext ++ [p], by rw [List.append_assoc], fun b hb o ho => ?_⟩
    have bp : b ≠ p := fun z => by rw [z, hp] at ho; cases ho
    rcases List.mem_append.mp hb with z | z
    · exact he b z o (by rw [upd_ne bp]; exact ho)
    · exact absurd (by simpa using z) bp
  · have bp : b ≠ p := fun z => by rw [z, hp] at hb; cases hb
    rw [upd_ne bp]
    exact s.keep b o (by rw [upd_ne bp]; exact hb) nb nt
end
section
variable {K : PySem.W.Frag} {G : PEnv} {F : Cfg} {C : CSp} {W : WX} {X : Cx}
theorem TM.mono {m : Loc → Hpi → KV → KX → Tree} {σ : LSt} {H : Hp} {Q Q' : VK} (h : TM K G C W m σ H Q) (w : ∀ v H, Q v H → Q' v H) : TM K G C W m σ H Q' := by
  obtain ⟨μ, ℓ, hh, k, kx, P, r, l, wp, hk, hx⟩ := h
  exact ⟨μ, ℓ, hh, k, kx, P, r, l, wp, fun v h1 μ1 H1 x s r q e => w _ _ (hk v h1 μ1 H1 x s r q e), hx⟩
/-- the parts of a display, in turn -/
def trs2 (K : PySem.W.Frag) (G : PEnv) (C : CSp) (W : WX) (F : Cfg) : List ME → List (TE × TE)
  | k :: v :: r => (AnyE K G C W F k, AnyE K G C W F v) :: trs2 K G C W F r
  | _ => []
def flat2 : List (V × V) → List V
  | [] => []
  | (a, b) :: r => a :: b :: flat2 r
def even2 : List ME → Bool
  | [] => true
  | _ :: _ :: r => even2 r
  | _ => false
theorem tpairs_of : ∀ (n : Nat) {es : List ME} {σ : LSt} {H : Hp} {Q : List (V × V) → Hp → Prop}, even2 es = true → TML K G C W (evL F n es) σ H (fun xs H2 => ∀ ps, flat2 ps = xs → Q ps H2) → L2.tPairs (trs2 K G C W F es) σ H Q
  | 0, _, _, _, _, _, h => by obtain ⟨_, _, _, _, _, _, _, _, w, _⟩ := h; exact w.elim
  | n + 1, [], _, _, _, _, h => tml_nil h [] rfl
  | n + 1, [_], _, _, _, he, _ => by cases he
  | 1, k :: v :: r, _, _, _, _, h => by
    obtain ⟨_, _, _, _, _, _, _, _, w, _⟩ := TM.mono (tml_cons h) fun _ _ z => z
    exact w.elim
  | n + 2, k :: v :: r, _, _, _, he, h => by
    refine ⟨n + 1, TM.mono (tml_cons h) fun x H1 h1 => ⟨n, TM.mono (tml_cons h1) fun y H2 h2 => tpairs_of n (show even2 r = true from he) ?_⟩⟩
    obtain ⟨μ, ℓ, hh, kk, kx, P, r', l, wp, hk, hx⟩ := h2
    exact ⟨μ, ℓ, hh, kk, kx, P, r', l, wp, fun v h1 μ1 H1 xs s r q e ps hp => hk v h1 μ1 H1 xs s r q e ((_, _) :: ps) (by rw [← hp]; rfl), hx⟩
theorem pairs_rd {μ : Emb} {H : Hp} : ∀ {vs : List IV} {ps : List (V × V)} {kvi : List (L2.Key × IV)}, pairsK vs = some kvi → RVs K G μ H vs (flat2 ps) → ∃ kvs : List (L2.Key × V), ps = kvs.map (fun kv => (L2.kV kv.1, kv.2)) ∧ RD K G μ H kvi kvs
  | [], [], _, e, _ => by
    cases e
    exact ⟨[], rfl, rfl⟩
  | [], (a, b) :: ps, _, _, q => by
    have q : _ = [] := q
    cases q
  | _ :: _, [], _, _, q => by
    obtain ⟨y, r, e1, _, _⟩ := q
    cases e1
  | [_], (_, _) :: _, _, e, _ => by cases e
  | k :: v :: r, (a, b) :: ps, _, e, q => by
    obtain ⟨y, t, e1, q1, q2⟩ := q
    obtain ⟨y2, t2, e2, q3, q4⟩ := q2
    subst e2
    cases e1
    simp only [pairsK] at e
    cases ek : keyIV k with
    | none => rw [ek] at e; cases e
    | some g =>
      rw [ek] at e
      dsimp only at e
      cases er : pairsK r with
      | none => rw [er] at e; cases e
      | some kr =>
        rw [er] at e
        cases e
        obtain ⟨kvs, rfl, q5⟩ := pairs_rd er q4
        exact ⟨(g, b) :: kvs, by rw [List.map_cons, ← key_rv ek q1], b, kvs, rfl, q3, q5⟩
theorem tm_dct {n : Nat} {es : List ME} {σ : LSt} {H : Hp} {Q : VK} (he : even2 es = true) (h : TM K G C W (evE F (n + 1) (.dct es)) σ H Q) : L2.tDisp (trs2 K G C W F es) σ H Q := by
  obtain ⟨μ, ℓ, hh, k, kx, P, r, l, w, hk, hx⟩ := h
  intro p hp
  have hm := r.free hp
  refine tpairs_of n he ?_
  refine TML.step (r.fresh hp) ((Stp.fresh hp).rl l) w (fun e h1 μ1 H1 cls d s1 r1 q1 w1 => hx e h1 μ1 H1 cls d ((Stp.fresh hp).tr (r.fresh hp) s1) r1 q1 w1) fun vs h1 μ1 H1 xs s1 r1 l1 q1 hx1 w1 => ?_
  intro ps hps
  obtain ⟨kvi, e1, w2⟩ := wp_opt w1
  subst hps
  obtain ⟨kvs, rfl, q2⟩ := pairs_rd e1 q1
  by_cases hz : decide (kvi.length ≤ 15) = true
  · rw [if_pos hz] at w2
    have z2 := hz
    obtain ⟨s2, r2⟩ := dct_cell hp hm s1 r1 (RD.merge q2 (show RD K G μ1 H1 [] [] from rfl))
    refine ⟨s1.keep p _ upd_same hm (fun _ z => by cases z), kvs, rfl, by rw [← q2.len]; exact of_decide_eq_true z2, ?_⟩
    exact hk _ _ (μ1 ++ [p]) _ _ s2 r2 (ref_new r1) w2
  · rw [if_neg hz] at w2
    exact w2.elim
theorem tm_dct0 {n : Nat} {σ : LSt} {H : Hp} {Q : VK} (h : TM K G C W (evE F (n + 1) (.dct [])) σ H Q) : L2.tDNewK σ H Q := by
  obtain ⟨μ, ℓ, hh, k, kx, P, r, l, w, hk, hx⟩ := h
  intro p hp
  cases n with
  | zero => exact w.elim
  | succ n => exact hk _ _ (μ ++ [p]) _ _ (Stp.cell hp) (r.cell_new (c := .dct []) hp ⟨[], upd_same, rfl⟩) (ref_new r) w
theorem rng_rvs {μ : Emb} {H : Hp} : ∀ (n : Nat) (lo : Int), RVs K G μ H (rngL lo n) ((List.range n).map fun i => V.int (lo + (i : Nat)))
  | 0, _ => rfl
  | n + 1, lo => by
    rw [List.range_succ_eq_map, List.map_cons, List.map_map]
    refine ⟨_, _, rfl, by simp; rfl, ?_⟩
    have := rng_rvs (μ := μ) (H := H) n (lo + 1)
    have e : ((fun i : Nat => V.int (lo + (i : Nat))) ∘ Nat.succ) = fun i : Nat => V.int (lo + 1 + (i : Nat)) := funext fun i => by
      show V.int _ = V.int _
      congr 1
      push_cast
      omega
    rw [e]
    exact this
theorem tm_lrng {n : Nat} {b : ME} {σ : LSt} {H : Hp} {Q : VK} (h : TM K G C W (evE F (n + 1) (.lrng b)) σ H Q) : L2.tLstRg (L2.tRg1 (TM K G C W (evE F n b))) σ H Q := by
  obtain ⟨μ, ℓ, hh, k, kx, P, r, l, w, hk, hx⟩ := h
  refine TM.step r l w hx fun v h1 μ1 H1 x s1 r1 l1 q1 hx1 w1 => ?_
  cases v with
  | int i =>
    have q1 : x = _ := q1
    subst q1
    dsimp only at w1
    by_cases hz : (decide (0 ≤ i) && decide (i ≤ 16777216)) = true
    · rw [if_pos hz] at w1
      obtain ⟨z1, z2⟩ := two hz
      have z1 := of_decide_eq_true z1
      have z2 := of_decide_eq_true z2
      refine ⟨i, rfl, L2.RgOk.of_le (by omega) z2 (by omega) z1, fun p hp => ?_⟩
      have q := rng_rvs (K := K) (G := G) (μ := μ1) (H := H1) i.toNat 0
      have e : L2.rgV 0 i = (List.range i.toNat).map fun j => V.int (0 + (j : Nat)) := by
        unfold L2.rgV
        rw [Int.sub_zero]
      rw [e]
      exact hk _ _ (μ1 ++ [p]) _ _ (s1.tr r1 (Stp.cell hp)) (lst_new r1 hp q) (ref_new r1) w1
    · rw [if_neg hz] at w1
      exact w1.elim
  | _ => exact w1.elim
end
end MP
set_option maxRecDepth 100000
set_option maxHeartbeats 4000000
/-! MPm: terms that are a text's are read as the text runs. -/
namespace MP
open PySem PySem.Spec PyProof.Rows
open L2 (V HO Hp upd SqL SqT Rd upd_same upd_ne RelV Vals ne_of_none R2 OpR VK XK CallR IxR PSet MtR Cx TruV TE TT TA TI TG WX PE PT PW PA PK PI PG PGs PTs It Itl Itt Itr tOp tC tVar tTup tLst tNil tCons tCB tBM tNotT tAndT tOrT tIf tChain tTest tAnd tOr tNot Gl Inv EP TP thn wipe Vis Loc BlkOk Takes)
theorem b_len : bootBuiltins "len" = some (.builtin "len") := by decide +kernel
theorem b_abs : bootBuiltins "abs" = some (.builtin "abs") := by decide +kernel
theorem b_max : bootBuiltins "max" = some (.builtin "max") := by decide +kernel
theorem b_min : bootBuiltins "min" = some (.builtin "min") := by decide +kernel
theorem b_all : bootBuiltins "all" = some (.builtin "all") := by decide +kernel
theorem b_repr : bootBuiltins "repr" = some (.builtin "repr") := by decide +kernel
theorem b_sorted : bootBuiltins "sorted" = some (.builtin "sorted") := by decide +kernel
theorem b_range : bootBuiltins "range" = some (.type "range") := by decide +kernel
theorem b_divmod : bootBuiltins "divmod" = some (.builtin "divmod") := by decide +kernel
theorem b_isi : bootBuiltins "isinstance" = some (.builtin "isinstance") := by decide +kernel
theorem b_int : bootBuiltins "int" = some (.type "int") := by decide +kernel
theorem b_tuple : bootBuiltins "tuple" = some (.type "tuple") := by decide +kernel
theorem b_list : bootBuiltins "list" = some (.type "list") := by decide +kernel
theorem b_bool : bootBuiltins "bool" = some (.type "bool") := by decide +kernel
theorem b_str : bootBuiltins "str" = some (.type "str") := by decide +kernel
theorem b_dict : bootBuiltins "dict" = some (.type "dict") := by decide +kernel
section
variable {S : SI} {G : PEnv} {F : Cfg} {C : CSp} {W : WX} {d : Nat} {fA : Nat → Addr} {fdF : Nat → FuncData} {psF : Nat → List Str} {X : Cx}
def F0 : WX := fun _ _ _ _ => False
/-- a cell variable may be stored to -/
def TopOk (top : Bool) (X : Cx) : Prop := top = true → ∀ x, X.env.scope.names.lookup x = some .cell → X.fn x = true
theorem pe_zero {e : Expr} {m : ME} : PE X e (TM X.K G C W (evE F 0 m)) := ⟨fun pins s σ H Q I h => by obtain ⟨_, _, _, _, _, _, _, _, w, _⟩ := h; exact w.elim⟩
theorem pt_zero {e : Expr} {m : ME} : PT X e (TMT X.K G C W (evE F 0 m)) := ⟨fun pins s σ H Q I h => by obtain ⟨_, _, _, _, _, _, _, _, w, _⟩ := h; exact w.elim⟩
theorem pa_zero {es : List Expr} {ms : List ME} : PA X es (TML X.K G C W (evL F 0 ms)) := ⟨fun pos pins s σ H Q I h => by obtain ⟨_, _, _, _, _, _, _, _, w, _⟩ := h; exact w.elim⟩
theorem pk_zero {es : List Keyword} {ms : List ME} : PK X es (TML X.K G C W (evL F 0 ms)) := ⟨fun pos pins s σ H Q I h => by obtain ⟨_, _, _, _, _, _, _, _, w, _⟩ := h; exact w.elim⟩
theorem pi_zero {tg e : Expr} {m : MI} : PI X tg e (TMI X.K G C W (evI F 0 m)) := ⟨fun pins s σ H Q I h => by obtain ⟨_, _, _, _, _, _, _, _, w, _⟩ := h; exact w.elim⟩
theorem pg_zero {e : Expr} {t : MT} {ok : List Nat → Bool} : PG X e (TMG X.K G C ok (evG F 0 t)) := ⟨fun pins s σ H v u Q I rv h => by obtain ⟨_, _, _, _, _, _, _, _, _, w, _⟩ := h; exact w.elim⟩
theorem pgs_zero {es : List Expr} {ts : List MT} {ok : List Nat → Bool} : PGs X es (TMGs X.K G C ok (evGs F 0 ts)) := ⟨fun pins s σ H v u Q I rv h => by obtain ⟨_, _, _, _, _, _, _, _, _, w, _⟩ := h; exact w.elim⟩
theorem PI.imp {tg e : Expr} {t t' : TI} (h : PI X tg e t) (w : ∀ σ H Q, t' σ H Q → t σ H Q) : PI X tg e t' := ⟨fun pins s σ H Q I q => h.run pins s σ H Q I (w σ H Q q)⟩
theorem PG.imp {e : Expr} {t t' : TG} (h : PG X e t) (w : ∀ v σ H Q, t' v σ H Q → t v σ H Q) : PG X e t' := ⟨fun pins s σ H v u Q I r q => h.run pins s σ H v u Q I r (w v σ H Q q)⟩
theorem PGs.imp {e : List Expr} {t t' : L2.TGs} (h : PGs X e t) (w : ∀ v σ H Q, t' v σ H Q → t v σ H Q) : PGs X e t' := ⟨fun pins s σ H v u Q I r q => h.run pins s σ H v u Q I r (w v σ H Q q)⟩
theorem PK.imp {e : List Keyword} {t t' : TA} (h : PK X e t) (w : ∀ σ H Q, t' σ H Q → t σ H Q) : PK X e t' := ⟨fun pos pins s σ H Q I q => h.run pos pins s σ H Q I (w σ H Q q)⟩
theorem PTs.imp {e : List Expr} {t t' : TT} (h : PTs X e t) (w : ∀ σ H Q, t' σ H Q → t σ H Q) : PTs X e t' := ⟨fun pins s σ H Q I q => h.run pins s σ H Q I (w σ H Q q)⟩
theorem pt_of {e : Expr} {m : Loc → Hpi → KV → KX → Tree} (h : PE X e (TM X.K G C W m)) (he : ∀ whole, isTrue e X.env whole = (do let v ← whole; standAt e.pos; holding [v] (truthy v))) : PT X e (TMT X.K G C W m) :=
  PT.imp (L2.pt_truth h he) fun σ H Q q => by
    obtain ⟨μ, ℓ, hh, kt, kx, P, r, l, w, hk, hx⟩ := q
    refine TM.step r l w hx fun v h1 μ1 H1 x s1 r1 l1 q1 hx1 w1 => ?_
    obtain ⟨t, e, w2⟩ := wp_opt w1
    exact ⟨t, tru_of r1 e q1, hk t h1 μ1 H1 s1 r1 w2⟩
theorem blk_fit (g : GX S G F C W d fA fdF psF X) (hS0 : (S.calm && !S.act) = true) (s : Shared) (H : Hp) (scope : Scope) (A : Addr) (cl : List (Str × Addr)) (fp : List Addr) (hk : scope.kind = .function) :
    GX S G F C F0 d fA fdF psF (X.blk s H scope (compEnvC scope cl A X.env) fp) where
  calm := g.calm
  takes := fun u s' ⟨a, B, sI, pins, σ, H, cls, d, e, I, nb, up, sky, na, os, ag, w⟩ => w.elim
  passes := PassesOwn.never
  room := g.room
  nd := g.nd
  call := g.call
  fn := g.fn
  pat := g.pat
  cts := g.cts
  free := g.free
  attr := g.attr
  fld := g.fld
  inj := g.inj
  fnk := hk
  un := g.un
  gds := g.gds
  xfn := g.xfn
  subq := g.subq
  clq := g.clq
  exn := g.exn
  callP := g.callP
  lamq := g.lamq
  kdq := g.kdq
  hlp := g.hlp
  errq := fun z => by rw [(two hS0).1] at z; cases z
  actq := fun z => by
    have := (two hS0).2
    rw [z] at this
    cases this
theorem vis_ok {sc : Scope} {x : Str} (h : vis sc x = true) : Vis sc x := by
  unfold vis at h
  unfold L2.Vis
  split at h
  · exact .inl (by assumption)
  · exact .inr (.inl (by assumption))
  · exact .inr (.inr (by assumption))
  · cases h
theorem nodbg_ok {x : Str} (h : nodbg x = true) : (x == Str.ofString "__debug__") = false ∧ (x == Str.ofString "__classdict__") = false := by
  obtain ⟨a, b⟩ := two h
  exact ⟨by simpa using a, by simpa using b⟩
theorem cop_nb {o : CmpOp} (b : Expr) (h : (!(isSet b)) = true) : behindInMarks o b = false := by
  cases b <;> first | rfl | cases h
theorem noSlice_ok {e : Expr} (h : noSlice e = true) : L2.PlainIx e := by
  cases e <;> first | (intro o i; rfl) | cases h
theorem mt_facts (m : Mt) : PlainAttrs (mtTy m) ∧ Slot (mtTy m) (mtNm m) (mtId m) ∧ typeOf (.builtin (mtId m)) = pure (.type "method_descriptor") := by
  cases m
  · exact ⟨PySem.F.plainAttrs_list, PySem.F.slot_list_append, PySem.F.type_list_append⟩
  · exact ⟨PySem.F.plainAttrs_list, PySem.F.slot_list_pop, PySem.F.type_list_pop⟩
  · exact ⟨PySem.F.plainAttrs_list, PySem.F.slot_list_pop, PySem.F.type_list_pop⟩
  · exact ⟨PySem.F.plainAttrs_list, PySem.F.slot_list_extend, PySem.F.type_list_extend⟩
  · exact ⟨PySem.F.plainAttrs_list, PySem.F.slot_list_index, PySem.F.type_list_index⟩
  · exact ⟨PySem.F.plainAttrs_list, PySem.F.slot_list_count, PySem.F.type_list_count⟩
  · exact ⟨PySem.F.plainAttrs_tuple, PySem.F.slot_tuple_index, PySem.F.type_tuple_index⟩
  · exact ⟨PySem.F.plainAttrs_str, PySem.F.slot_str_split, PySem.F.type_str_split⟩
  · exact ⟨PySem.F.plainAttrs_str, PySem.F.slot_str_join, PySem.F.type_str_join⟩
theorem name_base {e : Expr} {n : Str} (h : isName e = true) : attributeBase e n X.env (eval e X.env) = eval e X.env := by
  cases e <;> first | rfl | cases h
def ctE (G : PEnv) (C : CSp) (F : Cfg) (d : Nat) (fA : Nat → Addr) (fdF : Nat → FuncData) (psF : Nat → List Str) (S : SI) (j : Nat) : Prop :=
  ∀ {X : Cx} {W : WX} {top : Bool}, GX S G F C W d fA fdF psF X → TopOk top X → ∀ {m : ME} {e : Expr}, okE S X.N top j X.env.scope m e = true → (∀ n, PE X e (TM X.K G C W (evE F n m))) ∧ (∀ n, PT X e (TMT X.K G C W (evE F n m)))
def LamH (G : PEnv) (C : CSp) (F : Cfg) (d : Nat) (fA : Nat → Addr) (fdF : Nat → FuncData) (psF : Nat → List Str) (S : SI) : Prop :=
  S.lam = true → S.calm = true → ∀ {X : Cx} {W : WX}, GX S G F C W d fA fdF psF X → ∀ {f j : Nat} {x : Str} {b : ME} {params : Arguments} {body : Expr} {scope : Scope} {p lpos pos : Pos}, S.hn[f]? = some x → Gl X x → LamX.lamSB X.env.scope scope = true → noPar params = true →
    (∀ d', ctE G C F d' fA fdF psF S.pkg j) → okE S.pkg X.N false j scope b body = true → ∀ n, PE X (.Call (.Name x p) [.Lambda params body scope lpos] [] pos) (TM X.K G C W (evE F n (.lam f b)))
def ctL (G : PEnv) (C : CSp) (F : Cfg) (d : Nat) (fA : Nat → Addr) (fdF : Nat → FuncData) (psF : Nat → List Str) (S : SI) (j : Nat) : Prop :=
  ∀ {X : Cx} {W : WX} {top : Bool}, GX S G F C W d fA fdF psF X → TopOk top X → ∀ {m : List ME} {e : List Expr}, okL S X.N top j X.env.scope m e = true → noStars e = true ∧ (e = [] → m = []) ∧ (∀ n, PA X e (TML X.K G C W (evL F n m)))
def ctK (G : PEnv) (C : CSp) (F : Cfg) (d : Nat) (fA : Nat → Addr) (fdF : Nat → FuncData) (psF : Nat → List Str) (S : SI) (j : Nat) : Prop :=
  ∀ {X : Cx} {W : WX} {top : Bool}, GX S G F C W d fA fdF psF X → TopOk top X → ∀ {m : List ME} {e : List Keyword}, okK S X.N top j X.env.scope m e = true → (e = [] → m = []) ∧ (∀ n, PK X e (TML X.K G C W (evL F n m)))
def ctI (G : PEnv) (C : CSp) (F : Cfg) (d : Nat) (fA : Nat → Addr) (fdF : Nat → FuncData) (psF : Nat → List Str) (S : SI) (j : Nat) : Prop :=
  ∀ {X : Cx} {W : WX} {top : Bool}, GX S G F C W d fA fdF psF X → TopOk top X → ∀ {m : MI} {e : Expr}, okI S X.N top j X.env.scope m e = true → (∀ x, foldedSetIterable e X.env x = pure x) ∧ ∀ tg n, PI X tg e (TMI X.K G C W (evI F n m))
def ctG (G : PEnv) (C : CSp) (F : Cfg) (d : Nat) (fA : Nat → Addr) (fdF : Nat → FuncData) (psF : Nat → List Str) (S : SI) (j : Nat) : Prop :=
  ∀ {X : Cx} {W : WX} {top : Bool}, GX S G F C W d fA fdF psF X → TopOk top X → ∀ {m : MT} {e : Expr}, okG S X.N top j X.env.scope m e = true → ∀ n, PG X e (TMG X.K G C (fun vs => nmInE vs m) (evG F n m))
def ctGs (G : PEnv) (C : CSp) (F : Cfg) (d : Nat) (fA : Nat → Addr) (fdF : Nat → FuncData) (psF : Nat → List Str) (S : SI) (j : Nat) : Prop :=
  ∀ {X : Cx} {W : WX} {top : Bool}, GX S G F C W d fA fdF psF X → TopOk top X → ∀ {m : List MT} {e : List Expr}, okGs S X.N top j X.env.scope m e = true → noStars e = true ∧ e.length = m.length ∧ ∀ n, PGs X e (TMGs X.K G C (fun vs => nmInEs vs m) (evGs F n m))
def ctQ (G : PEnv) (C : CSp) (F : Cfg) (d : Nat) (fA : Nat → Addr) (fdF : Nat → FuncData) (psF : Nat → List Str) (S : SI) (j : Nat) : Prop :=
  ∀ {X : Cx}, GX S G F C F0 d fA fdF psF X → ∀ {m : List ME} {e : List Expr}, okQ S X.N j X.env.scope m e = true → PTs X e (AnyQ X.K G C F m)
def ctO (G : PEnv) (C : CSp) (F : Cfg) (d : Nat) (fA : Nat → Addr) (fdF : Nat → FuncData) (psF : Nat → List Str) (S : SI) (j : Nat) : Prop :=
  ∀ {X : Cx} {W : WX} {top : Bool}, GX S G F C W d fA fdF psF X → TopOk top X → ∀ {m : Option ME} {e : Option Expr}, okO S X.N top j X.env.scope m e = true → ∀ n, L2.PO X e (TMO X.K G C W (evO F n m))
def ctD (G : PEnv) (C : CSp) (F : Cfg) (d : Nat) (fA : Nat → Addr) (fdF : Nat → FuncData) (psF : Nat → List Str) (S : SI) (j : Nat) : Prop :=
  ∀ {X : Cx} {W : WX} {top : Bool}, GX S G F C W d fA fdF psF X → TopOk top X → ∀ {m : List ME} {ks : List (Option Expr)} {vs : List Expr}, okD S X.N top j X.env.scope m ks vs = true → even2 m = true ∧ ks.length = vs.length ∧ ks.all (·.isSome) = true ∧ (ks = [] → m = []) ∧ ∀ pos, L2.PPs X pos ks vs (trs2 X.K G C W F m)
section
variable {j : Nat}
theorem ct_l (E : ctE G C F d fA fdF psF S j) (L : ctL G C F d fA fdF psF S j) : ctL G C F d fA fdF psF S (j + 1) := fun {X} {W} {top} g t {m} {e} h => by
  cases m with
  | nil =>
    cases e with
    | nil => exact ⟨rfl, fun _ => rfl, fun n => by
        cases n with
        | zero => exact pa_zero
        | succ n => exact PA.imp L2.pa_nil fun σ H Q q => tml_nil q⟩
    | cons e es => exact absurd h Bool.false_ne_true
  | cons m ms =>
    cases e with
    | nil => exact absurd h Bool.false_ne_true
    | cons e es =>
      obtain ⟨h1, h2⟩ := two h
      obtain ⟨h2, h3⟩ := two h2
      obtain ⟨l1, l2, l3⟩ := L g t h3
      refine ⟨Bool.and_eq_true_iff.mpr ⟨h1, l1⟩, (fun z => by cases z), fun n => ?_⟩
      cases n with
      | zero => exact pa_zero
      | succ n => exact PA.imp (L2.pa_cons ((E g t h2).1 n) (l3 n) (star_cons es h1)) fun σ H Q q => tml_cons q
theorem po_imp {X : Cx} {e : Option Expr} {t t' : L2.TO} (h : L2.PO X e t) (w : ∀ σ H Q, t' σ H Q → t σ H Q) : L2.PO X e t' := ⟨fun pins s σ H Q I q => h.run pins s σ H Q I (w σ H Q q)⟩
theorem ct_o (E : ctE G C F d fA fdF psF S j) : ctO G C F d fA fdF psF S (j + 1) := fun {X} {W} {top} g t {m} {e} h n => by
  cases n with
  | zero => exact ⟨fun pins s σ H Q I h => by obtain ⟨_, _, _, _, _, _, _, _, w, _⟩ := h; exact w.elim⟩
  | succ n =>
    cases m with
    | none =>
      cases e with
      | none => exact po_imp L2.po_none fun σ H Q q => tmo_none q
      | some e => exact absurd h Bool.false_ne_true
    | some m =>
      cases e with
      | none => exact absurd h Bool.false_ne_true
      | some e => exact po_imp (L2.po_some ((E g t h).1 n)) fun σ H Q q => tmo_some q
theorem ct_k (E : ctE G C F d fA fdF psF S j) (L : ctK G C F d fA fdF psF S j) : ctK G C F d fA fdF psF S (j + 1) := fun {X} {W} {top} g t {m} {e} h => by
  cases m with
  | nil =>
    cases e with
    | nil => exact ⟨fun _ => rfl, fun n => by
        cases n with
        | zero => exact pk_zero
        | succ n => exact PK.imp L2.pk_nil fun σ H Q q => tml_nil q⟩
    | cons e es => exact absurd h Bool.false_ne_true
  | cons m ms =>
    cases e with
    | nil => exact absurd h Bool.false_ne_true
    | cons e es =>
      obtain ⟨nm, e, p⟩ := e
      obtain ⟨h2, h3⟩ := two h
      obtain ⟨l2, l3⟩ := L g t h3
      refine ⟨(fun z => by cases z), fun n => ?_⟩
      cases n with
      | zero => exact pk_zero
      | succ n => exact PK.imp (L2.pk_cons ((E g t h2).1 n) (l3 n)) fun σ H Q q => tml_cons q
theorem ct_d (E : ctE G C F d fA fdF psF S j) (D : ctD G C F d fA fdF psF S j) : ctD G C F d fA fdF psF S (j + 1) := fun {X} {W} {top} g t {m} {ks} {vs} h => by
  unfold okD at h
  split at h
  · cases h
  · exact ⟨rfl, rfl, rfl, fun _ => rfl, fun pos => L2.pps_nil⟩
  · rename_i j' sc' m1 m2 ms k ks v vs hj
    cases hj
    obtain ⟨h1, h2⟩ := two h
    obtain ⟨h2, h3⟩ := two h2
    obtain ⟨d1, d2, d3, d4, d5⟩ := D g t h3
    exact ⟨d1, by simp [d2], by simpa using d3, (fun z => by cases z), fun pos => L2.pps_cons ⟨fun pins s σ H Q I ⟨n, q⟩ => ((E g t h1).1 n).run pins s σ H Q I q⟩ ⟨fun pins s σ H Q I ⟨n, q⟩ => ((E g t h2).1 n).run pins s σ H Q I q⟩ (d5 pos)⟩
  · cases h
theorem free_of (g : GX S G F C W d fA fdF psF X) {x : Str} (h : x ∈ freeNm := by decide) : X.mg x = none := g.free x h
theorem fold_of {e : Expr} (h : ∀ es k p, e ≠ .Set es k p) : ∀ x, foldedSetIterable e X.env x = pure x := by
  intro x
  cases e <;> first | rfl | exact absurd rfl (h _ _ _)
theorem ok_noset {N : List Str} {top : Bool} {sc : Scope} {m : ME} {e : Expr} (h : okE S N top j sc m e = true) : ∀ es k p, e ≠ .Set es k p := by
  intro es k p z
  subst z
  cases j with
  | zero => cases h
  | succ j =>
    unfold okE at h
    split at h <;> first | contradiction | (cases h; done) | (cases h; contradiction) | (revert h; simp [noStar, isSet])
theorem okE_nostar {N : List Str} {top : Bool} {sc : Scope} {m : ME} {e : Expr} (h : okE S N top j sc m e = true) : noStar e = true := by
  cases e <;> first | rfl | skip
  cases j with
  | zero => cases h
  | succ j =>
    unfold okE at h
    split at h <;> first | contradiction | (cases h; done) | (cases h; contradiction) | (revert h; simp [noStar, isSet])
theorem ct_i (E : ctE G C F d fA fdF psF S j) : ctI G C F d fA fdF psF S (j + 1) := fun {X} {W} {top} g t {m} {e} h => by
  unfold okI at h
  split at h
  · obtain ⟨h1, h2⟩ := two h
    obtain ⟨h2, h3⟩ := two h2
    obtain ⟨h3, h4⟩ := two h3
    cases of_decide_eq_true h1
    refine ⟨fold_of (fun _ _ _ z => by cases z), fun tg n => ?_⟩
    cases n with
    | zero => exact pi_zero
    | succ n => exact PI.imp (L2.pi_range1 (gl_of h2).1 (free_of g) (L2.pa_cons ((E g t h4).1 n) L2.pa_nil (star_cons [] h3)) (star_cons [] h3)) fun σ H Q q => tmi_rng1 q
  · obtain ⟨h1, h2⟩ := two h
    obtain ⟨h2, h3⟩ := two h2
    obtain ⟨h3, h4⟩ := two h3
    obtain ⟨h4, h5⟩ := two h4
    obtain ⟨h5, h6⟩ := two h5
    cases of_decide_eq_true h1
    refine ⟨fold_of (fun _ _ _ z => by cases z), fun tg n => ?_⟩
    cases n with
    | zero => exact pi_zero
    | succ n =>
      refine PI.imp (L2.pi_range2 (gl_of h2).1 (free_of g) (L2.pa_cons ((E g t h5).1 n) (L2.pa_cons ((E g t h6).1 n) L2.pa_nil (star_cons [] h4)) (star_cons _ h3)) ?_ (star_cons [] h4)) fun σ H Q q => tmi_rng2 q
      rw [star_cons _ h3, star_cons [] h4]; rfl
  · refine ⟨fold_of (ok_noset h), fun tg n => ?_⟩
    cases n with
    | zero => exact pi_zero
    | succ n => exact PI.imp (pi_any ((E g t h).1 n)) fun σ H Q q => tmi_val q
  · cases h
theorem asg_each {e : Expr} {es : List Expr} (h : noStar e = true) : assignEach (e :: es) X.env = (false, assign e X.env) :: assignEach es X.env := by
  cases e <;> first | rfl | cases h
theorem asg_len : ∀ {es : List Expr}, noStars es = true → (assignEach es X.env).length = es.length ∧ (assignEach es X.env).findIdx? (·.1) = none
  | [], _ => ⟨rfl, rfl⟩
  | e :: es, h => by
    obtain ⟨h1, h2⟩ := two h
    obtain ⟨a, b⟩ := asg_len (es := es) h2
    rw [asg_each h1]
    exact ⟨by simp [a], by rw [List.findIdx?_cons, b]; rfl⟩
theorem ct_gs (E : ctG G C F d fA fdF psF S j) (L : ctGs G C F d fA fdF psF S j) : ctGs G C F d fA fdF psF S (j + 1) := fun {X} {W} {top} g t {m} {e} h => by
  cases m with
  | nil =>
    cases e with
    | nil => exact ⟨rfl, rfl, fun n => by
        cases n with
        | zero => exact pgs_zero
        | succ n => exact PGs.imp L2.pgs_nil fun v σ H Q q => tmgs_nil q⟩
    | cons e es => exact absurd h Bool.false_ne_true
  | cons m ms =>
    cases e with
    | nil => exact absurd h Bool.false_ne_true
    | cons e es =>
      obtain ⟨h1, h2⟩ := two h
      obtain ⟨h2, h3⟩ := two h2
      obtain ⟨l1, l2, l3⟩ := L g t h3
      refine ⟨Bool.and_eq_true_iff.mpr ⟨h1, l1⟩, by simp [l2], fun n => ?_⟩
      cases n with
      | zero => exact pgs_zero
      | succ n => exact PGs.imp (L2.pgs_cons (E g t h2 n) (l3 n) (by rw [asg_each h1]; rfl)) fun v σ H Q q => tmgs_cons q
theorem asg_sub {o i : Expr} {pos : Pos} (h : noSlice i = true) : ∀ v, assign (.Subscript o i pos) X.env v = (do
      let ov ← holding [v] (eval o X.env)
      let iv ← holding [v, ov] (eval i X.env)
      standAt pos
      holding [v, ov, iv] (setItem ov iv v)
      release [v, ov, iv] []) := by
  cases i <;> first | (intro v; rfl) | cases h
theorem ct_g (E : ctE G C F d fA fdF psF S j) (L : ctGs G C F d fA fdF psF S j) : ctG G C F d fA fdF psF S (j + 1) := fun {X} {W} {top} g t {m} {e} h n => by
  cases n with
  | zero => exact pg_zero
  | succ n =>
    unfold okG at h
    split at h
    · obtain ⟨h1, h2⟩ := two h
      have hi := of_decide_eq_true h1
      refine PG.imp ?_ fun v σ H Q q => tmg_name q
      split at h2
      · rename_i hl
        exact L2.pg_name g.nd hi (.inl hl) (.inr hl)
      · rename_i hl
        exact L2.pg_name g.nd hi (.inr hl) (.inl (t h2 _ hl))
      · cases h2
    · obtain ⟨hS, h⟩ := two h
      obtain ⟨l1, l2, l3⟩ := L g t h
      obtain ⟨a, b⟩ := asg_len (X := X) l1
      exact PG.imp (L2.pg_tup (g.calm hS) (l3 n) (a.trans l2) b) fun v σ H Q q => tmg_tup q
    · obtain ⟨h1, h2⟩ := two h
      obtain ⟨h2, h3⟩ := two h2
      exact PG.imp (L2.pg_sub ((E g t h2).1 n) ((E g t h3).1 n) (set_any (by have := g.un; omega)) (asg_sub h1)) fun v σ H Q q => tmg_idx q
    · cases h
theorem pw_of {o : BoolOp} {vs : List Expr} {p : Pos} {t : TT} (h : PT X (.BoolOp o vs p) t) : PW X (.BoolOp o vs p) t := ⟨fun wh pins s σ H Q I q => h.run pins s σ H Q I q⟩
theorem pt_pw {o : BoolOp} {vs : List Expr} {p : Pos} {t : TT} (h : PW X (.BoolOp o vs p) t) : PT X (.BoolOp o vs p) t := ⟨fun pins s σ H Q I q => h.run _ pins s σ H Q I q⟩
theorem pt_cmpM {e : Expr} {m : Loc → Hpi → KV → KX → Tree} {t : TE} (h : PT X e (L2.tTest t)) (w : ∀ σ H Q, TM X.K G C W m σ H Q → t σ H Q) (hb : ∀ ℓ h k kx, m ℓ h k kx = m ℓ h (fun v h1 => match v with | .bl b => k (.bl b) h1 | _ => .stuck) kx) : PT X e (TMT X.K G C W m) :=
  PT.imp h fun σ H Q q => by
    obtain ⟨μ, ℓ, hh, kt, kx, P, r, l, wp, hk, hx⟩ := q
    rw [hb] at wp
    refine w σ H _ (TM.step r l wp hx fun v h1 μ1 H1 x s1 r1 l1 q1 hx1 w1 => ?_)
    cases v with
    | bl b =>
      have q1 : x = _ := q1
      exact ⟨b, q1, hk b h1 μ1 H1 s1 r1 w1⟩
    | _ => exact w1.elim
theorem pt_ifE {c a b : Expr} {tA t1 t2 : TT} {pos : Pos} (hc : PT X c tA) (ha : PT X a t1) (hb : PT X b t2) : PT X (.IfExp c a b pos) (fun σ H Q => tA σ H fun k H1 => if k = true then t1 σ H1 Q else t2 σ H1 Q) := by
  refine ⟨fun pins s σ H Q I h => ?_⟩
  refine isTrue_IfExp (thn (hc.run pins s σ H _ I h) fun c s1 ⟨H1, I1, q1⟩ => ?_)
  cases c with
  | true =>
    rw [if_pos rfl] at q1 ⊢
    exact ha.run pins s1 σ H1 Q I1 q1
  | false =>
    rw [if_neg Bool.false_ne_true] at q1 ⊢
    exact hb.run pins s1 σ H1 Q I1 q1
theorem pe_b (g : GX S G F C W d fA fdF psF X) {b : Bi} (hgd : needGd b = true → X.A.guards = some []) (hc : needCalm b = true → X.calm = true) {x : Str} {p pos : Pos} {e : Expr} {es : List Expr} {t : TA} (hn : biNm b = some x) (hg : Gl X x) (hd : (x == Str.ofString "__debug__") = false) (ha : PA X (e :: es) t) (hs : noStars (e :: es) = true) : PE X (.Call (.Name x p) (e :: es) [] pos) (tCB (rBi X.K G b) t) := by
  obtain ⟨hs1, hs2⟩ := two hs
  cases b <;> cases hn
  · exact L2.pe_callB (call_bi _ hgd (by have := g.un; omega) hc (fun _ z => by cases z)) hg (free_of g) b_len ha (by decide) hd (star_cons es hs1) (star_any hs2)
  · exact L2.pe_callB (call_bi _ hgd (by have := g.un; omega) hc (fun _ z => by cases z)) hg (free_of g) b_abs ha (by decide) hd (star_cons es hs1) (star_any hs2)
  · exact L2.pe_callB (call_bi _ hgd (by have := g.un; omega) hc (fun _ z => by cases z)) hg (free_of g) b_max ha (by decide) hd (star_cons es hs1) (star_any hs2)
  · exact L2.pe_callB (call_bi _ hgd (by have := g.un; omega) hc (fun _ z => by cases z)) hg (free_of g) b_min ha (by decide) hd (star_cons es hs1) (star_any hs2)
  · exact L2.pe_callTy (call_bi _ hgd (by have := g.un; omega) hc (fun _ z => by cases z)) hg (free_of g) b_int ha (by decide) hd (star_cons es hs1) (star_any hs2)
  · exact L2.pe_callB (call_bi _ hgd (by have := g.un; omega) hc (fun _ z => by cases z)) hg (free_of g) b_all ha (by decide) hd (star_cons es hs1) (star_any hs2)
  · exact L2.pe_callTy (call_bi _ hgd (by have := g.un; omega) hc (fun _ z => by cases z)) hg (free_of g) b_tuple ha (by decide) hd (star_cons es hs1) (star_any hs2)
  · exact L2.pe_callTy (call_bi _ hgd (by have := g.un; omega) hc (fun _ z => by cases z)) hg (free_of g) b_list ha (by decide) hd (star_cons es hs1) (star_any hs2)
  · exact L2.pe_callB (call_bi _ hgd (by have := g.un; omega) hc (fun _ z => by cases z)) hg (free_of g) b_divmod ha (by decide) hd (star_cons es hs1) (star_any hs2)
  · exact L2.pe_callB (call_bi _ hgd (by have := g.un; omega) hc (fun _ z => by cases z)) hg (free_of g) b_repr ha (by decide) hd (star_cons es hs1) (star_any hs2)
  · exact L2.pe_callB (call_bi _ hgd (by have := g.un; omega) hc (fun _ z => by cases z)) hg (free_of g) b_sorted ha (by decide) hd (star_cons es hs1) (star_any hs2)
theorem ty_boot (g : GX S G F C W d fA fdF psF X) {t : Ty} {y : Str} (h : tyNm S t = some y) : ∃ U, tyS t = some U ∧ X.mg y = none ∧ bootBuiltins y = some (.type U) ∧ y ≠ Str.ofString "__name__" := by
  cases t <;> cases h
  · exact ⟨_, rfl, free_of g, b_int, by decide⟩
  · exact ⟨_, rfl, free_of g, b_bool, by decide⟩
  · exact ⟨_, rfl, free_of g, b_str, by decide⟩
  · exact ⟨_, rfl, free_of g, b_tuple, by decide⟩
  · exact ⟨_, rfl, free_of g, b_list, by decide⟩
  · exact ⟨_, rfl, free_of g, b_dict, by decide⟩
theorem tm_isi {n : Nat} {t : Ty} {a : ME} {U : String} {σ : LSt} {H : Hp} {Q : VK} (hU : tyS t = some U) (h : TM X.K G C W (evE F (n + 1) (.bcall (.isi t) [a])) σ H Q) :
    tCB (L2.rIsi X.K) (tCons (fun σ H Q => ∃ n, TM X.K G C W (evE F n a) σ H Q) (tCons (tC (.ty U)) tNil)) σ H Q := by
  obtain ⟨μ, ℓ, hh, k, kx, P, r, l, w, hk, hx⟩ := h
  cases n with
  | zero => exact w.elim
  | succ n =>
    refine ⟨n, TM.step r l w hx fun v h1 μ1 H1 x s1 r1 l1 q1 hx1 w1 => ?_⟩
    cases n with
    | zero => exact w1.elim
    | succ n =>
      obtain ⟨⟨z, h2⟩, e, w2⟩ := wp_opt (show Wp C (optT (biIV (.isi t) [v] h1) fun r => k r.1 r.2) P from w1)
      simp only [biIV] at e
      cases e2 : tyIV t v h1 with
      | none => rw [e2] at e; cases e
      | some b =>
        rw [e2] at e
        cases e
        obtain ⟨T, ty, ek⟩ := ty_of r1 e2 hU q1
        exact ⟨x, .ty U, .type T, .type U, b, rfl, .ty U, ty, ek, hk (.bl b) _ μ1 H1 (.bl b) s1 r1 rfl w2⟩
theorem pe_ex {e : Expr} {m : ME} (h : ∀ n, PE X e (TM X.K G C W (evE F n m))) : PE X e (fun σ H Q => ∃ n, TM X.K G C W (evE F n m) σ H Q) := ⟨fun pins s σ H Q I ⟨n, q⟩ => (h n).run pins s σ H Q I q⟩
theorem pg_ex {e : Expr} {t : MT} (h : ∀ n, PG X e (TMG X.K G C (fun vs => nmInE vs t) (evG F n t))) : PG X e (AnyG X.K G C F t) := ⟨fun pins s σ H v u Q I r ⟨n, q⟩ => (h n).run pins s σ H v u Q I r q⟩
theorem zip_names {N : List Str} : ∀ {own : List Nat}, (zipN N own).map (·.2) = own → True := fun _ => trivial
theorem ct_q (E : ctE G C F d fA fdF psF S j) : ctQ G C F d fA fdF psF S (j + 1) := fun {X} g {m} {e} h => by
  unfold okQ at h
  split at h
  · cases h
  · exact PTs.imp L2.pts_nil fun σ H Q ⟨n, q⟩ => by
      cases n with
      | zero => obtain ⟨_, _, _, _, _, _, _, w, _⟩ := q; exact w.elim
      | succ n => exact tmq_nil q
  · rename_i j' sc' m' e' hj
    cases hj
    refine ⟨fun pins s σ H Q I ⟨n, q⟩ => ?_⟩
    cases n with
    | zero => obtain ⟨_, _, _, _, _, _, _, w, _⟩ := q; exact w.elim
    | succ n =>
      cases n with
      | zero =>
        obtain ⟨_, _, _, _, _, _, _, w, _⟩ := q
        exact w.elim
      | succ n => exact (L2.pts_one ((E (top := false) g (fun z => by cases z) h).2 (n + 1))).run pins s σ H Q I (tmq_one q)
  · cases h
theorem pt_notE {n : Nat} {a : ME} {σ : LSt} {H : Hp} {Q : Bool → Hp → Prop} (h : TMT X.K G C W (evE F (n + 1) (.not a)) σ H Q) : tNot (TMT X.K G C W (evE F n a)) σ H Q := by
  obtain ⟨μ, ℓ, hh, kt, kx, P, r, l, w, hk, hx⟩ := h
  exact ⟨μ, ℓ, hh, fun t h1 => kt (!t) h1, kx, P, r, l, w, fun t h1 μ1 H1 s1 r1 w1 => hk (!t) h1 μ1 H1 s1 r1 w1, hx⟩
theorem pt_andE {n : Nat} {a b : ME} {σ : LSt} {H : Hp} {Q : Bool → Hp → Prop} (h : TMT X.K G C W (evE F (n + 1) (.and a b)) σ H Q) : tAnd (TMT X.K G C W (evE F n a)) (TMT X.K G C W (evE F n b)) σ H Q := by
  obtain ⟨μ, ℓ, hh, kt, kx, P, r, l, w, hk, hx⟩ := h
  have e : evE F (n + 1) (.and a b) ℓ hh (fun x h1 => optT (truIV x h1) fun t => kt t h1) kx = evE F n a ℓ hh (fun x h1 => optT (truIV x h1) fun t => (match t with
      | true => evE F n b ℓ h1 (fun x h1 => optT (truIV x h1) fun t => kt t h1) kx
      | false => kt false h1)) kx := by
    show evE F n a ℓ hh (fun x h1 => optT (truIV x h1) fun t => match t with
      | true => evE F n b ℓ h1 (fun x h1 => optT (truIV x h1) fun t => kt t h1) kx
      | false => optT (truIV x h1) fun t => kt t h1) kx = _
    congr 1
    funext x h1
    cases truIV x h1 with
    | none => rfl
    | some t => cases t <;> rfl
  rw [e] at w
  refine TMT.step (kt := fun t h1 => match t with
      | true => evE F n b ℓ h1 (fun x h1 => optT (truIV x h1) fun t => kt t h1) kx
      | false => kt false h1) r l w hx fun t h1 μ1 H1 s1 r1 l1 hx1 w1 => ?_
  cases t with
  | true =>
    rw [if_pos rfl]
    exact ⟨μ1, ℓ, h1, kt, kx, P, r1, l1, w1, fun t h2 μ2 H2 s2 r2 w2 => hk t h2 μ2 H2 (s1.tr r1 s2) r2 w2, hx1⟩
  | false =>
    rw [if_neg Bool.false_ne_true]
    exact hk false h1 μ1 H1 s1 r1 w1
theorem pt_orE {n : Nat} {a b : ME} {σ : LSt} {H : Hp} {Q : Bool → Hp → Prop} (h : TMT X.K G C W (evE F (n + 1) (.or a b)) σ H Q) : tOr (TMT X.K G C W (evE F n a)) (TMT X.K G C W (evE F n b)) σ H Q := by
  obtain ⟨μ, ℓ, hh, kt, kx, P, r, l, w, hk, hx⟩ := h
  have e : evE F (n + 1) (.or a b) ℓ hh (fun x h1 => optT (truIV x h1) fun t => kt t h1) kx = evE F n a ℓ hh (fun x h1 => optT (truIV x h1) fun t => (match t with
      | true => kt true h1
      | false => evE F n b ℓ h1 (fun x h1 => optT (truIV x h1) fun t => kt t h1) kx)) kx := by
    show evE F n a ℓ hh (fun x h1 => optT (truIV x h1) fun t => match t with
      | true => optT (truIV x h1) fun t => kt t h1
      | false => evE F n b ℓ h1 (fun x h1 => optT (truIV x h1) fun t => kt t h1) kx) kx = _
    congr 1
    funext x h1
    cases truIV x h1 with
    | none => rfl
    | some t => cases t <;> rfl
  rw [e] at w
  refine TMT.step (kt := fun t h1 => match t with
      | true => kt true h1
      | false => evE F n b ℓ h1 (fun x h1 => optT (truIV x h1) fun t => kt t h1) kx) r l w hx fun t h1 μ1 H1 s1 r1 l1 hx1 w1 => ?_
  cases t with
  | false =>
    rw [if_neg Bool.false_ne_true]
    exact ⟨μ1, ℓ, h1, kt, kx, P, r1, l1, w1, fun t h2 μ2 H2 s2 r2 w2 => hk t h2 μ2 H2 (s1.tr r1 s2) r2 w2, hx1⟩
  | true =>
    rw [if_pos rfl]
    exact hk true h1 μ1 H1 s1 r1 w1
theorem pt_iteE {n : Nat} {c a b : ME} {σ : LSt} {H : Hp} {Q : Bool → Hp → Prop} (h : TMT X.K G C W (evE F (n + 1) (.ite c a b)) σ H Q) :
    TMT X.K G C W (evE F n c) σ H fun k H1 => if k = true then TMT X.K G C W (evE F n a) σ H1 Q else TMT X.K G C W (evE F n b) σ H1 Q := by
  obtain ⟨μ, ℓ, hh, kt, kx, P, r, l, w, hk, hx⟩ := h
  refine TMT.step (kt := fun t h1 => match t with
      | true => evE F n a ℓ h1 (fun x h1 => optT (truIV x h1) fun t => kt t h1) kx
      | false => evE F n b ℓ h1 (fun x h1 => optT (truIV x h1) fun t => kt t h1) kx) r l w hx fun t h1 μ1 H1 s1 r1 l1 hx1 w1 => ?_
  cases t with
  | true =>
    rw [if_pos rfl]
    exact ⟨μ1, ℓ, h1, kt, kx, P, r1, l1, w1, fun t h2 μ2 H2 s2 r2 w2 => hk t h2 μ2 H2 (s1.tr r1 s2) r2 w2, hx1⟩
  | false =>
    rw [if_neg Bool.false_ne_true]
    exact ⟨μ1, ℓ, h1, kt, kx, P, r1, l1, w1, fun t h2 μ2 H2 s2 r2 w2 => hk t h2 μ2 H2 (s1.tr r1 s2) r2 w2, hx1⟩
theorem both {e : Expr} {m : ME} (h : ∀ n, PE X e (TM X.K G C W (evE F (n + 1) m))) (he : ∀ whole, isTrue e X.env whole = (do let v ← whole; standAt e.pos; holding [v] (truthy v))) :
    (∀ n, PE X e (TM X.K G C W (evE F n m))) ∧ (∀ n, PT X e (TMT X.K G C W (evE F n m))) := by
  have k : ∀ n, PE X e (TM X.K G C W (evE F n m)) := fun n => by
    cases n with
    | zero => exact pe_zero
    | succ n => exact h n
  exact ⟨k, fun n => pt_of (k n) he⟩
theorem both2 {e : Expr} {m : ME} (h : ∀ n, PE X e (TM X.K G C W (evE F (n + 1) m))) (ht : ∀ n, PT X e (TMT X.K G C W (evE F (n + 1) m))) :
    (∀ n, PE X e (TM X.K G C W (evE F n m))) ∧ (∀ n, PT X e (TMT X.K G C W (evE F n m))) := by
  refine ⟨fun n => ?_, fun n => ?_⟩
  · cases n with
    | zero => exact pe_zero
    | succ n => exact h n
  · cases n with
    | zero => exact pt_zero
    | succ n => exact ht n
theorem hu_of (g : GX S G F C W d fA fdF psF X) : X.A.units + 65 < cLine := by have := g.un; omega
theorem ct_e (DD : ctD G C F d fA fdF psF S j) (LM : LamH G C F d fA fdF psF S) (EP : ∀ d', ctE G C F d' fA fdF psF S.pkg j) (OO : ctO G C F d fA fdF psF S j) (E : ctE G C F d fA fdF psF S j) (L : ctL G C F d fA fdF psF S j) (KK : ctK G C F d fA fdF psF S j) (I : ctI G C F d fA fdF psF S j) (GG : ctG G C F d fA fdF psF S j) (QQ : ctQ G C F d fA fdF psF S j) : ctE G C F d fA fdF psF S (j + 1) := fun {X} {W} {top} g t {m} {e} h => by
  unfold okE at h
  split at h
  · -- one operand
    rename_i op e1 pos
    obtain ⟨a, b⟩ := E g t h
    refine ⟨fun n => L2.pe_one (a n), fun n => ?_⟩
    cases op with
    | And => exact pt_pw (L2.pw_and1 (b n))
    | Or => exact pt_pw (L2.pw_or1 (b n))
  · obtain ⟨h1, h2⟩ := two h
    obtain ⟨h2, h3⟩ := two h2
    obtain ⟨d1, d2⟩ := nodbg_ok h3
    exact both (fun n => PE.imp (L2.pe_var (of_decide_eq_true h1) (vis_ok h2) d1 d2) fun σ H Q q => tm_var q) fun _ => rfl
  · obtain ⟨h1, h2⟩ := two h
    obtain ⟨hg, hd⟩ := gl_of h2
    obtain ⟨u, iv, v, e1, e2, e3, e4⟩ := g.cts _ _ (of_decide_eq_true h1)
    exact both (fun n => PE.imp (L2.pe_glob hg e1 e3 hd) fun σ H Q q => tm_glob e2 (fun μ => e4 μ H) q) fun _ => rfl
  · cases of_decide_eq_true h
    exact both (fun n => PE.imp L2.pe_int fun σ H Q q => tm_here (m := evE F (n + 1) (.cint _)) (v := .int _) (fun _ _ _ _ => rfl) (fun _ => rfl) q) fun _ => rfl
  · cases of_decide_eq_true h
    exact both (fun n => PE.imp L2.pe_str fun σ H Q q => tm_here (m := evE F (n + 1) (.cstr _)) (v := .str _) (fun _ _ _ _ => rfl) (fun _ => rfl) q) fun _ => rfl
  · cases (beq_iff_eq.mp h)
    exact both (fun n => PE.imp L2.pe_bl fun σ H Q q => tm_here (m := evE F (n + 1) (.cbool _)) (v := .bl _) (fun _ _ _ _ => rfl) (fun _ => rfl) q) fun _ => rfl
  · exact both (fun n => PE.imp L2.pe_non fun σ H Q q => tm_here (m := evE F (n + 1) .cnon) (v := .non) (fun _ _ _ _ => rfl) (fun _ => rfl) q) fun _ => rfl
  · obtain ⟨h1, h2⟩ := two h
    obtain ⟨h2, h3⟩ := two h2
    cases bop_of h1
    exact both (fun n => PE.imp (L2.pe_op (op_bin _) ((E g t h2).1 n) ((E g t h3).1 n)) fun σ H Q q => tm_bin q) fun _ => rfl
  · exact both (fun n => PE.imp (L2.pe_un L2.un_neg ((E g t h).1 n)) fun σ H Q q => tm_neg q) fun _ => rfl
  · exact both2 (fun n => PE.imp (L2.pe_notT ((E g t h).1 n)) fun σ H Q q => tm_not q) fun n => PT.imp (L2.pt_not ((E g t h).2 n)) fun σ H Q q => pt_notE q
  · obtain ⟨h1, h2⟩ := two h
    exact both2 (fun n => PE.imp (L2.pe_andT ((E g t h1).1 n) ((E g t h2).1 n)) fun σ H Q q => tm_and q) fun n => PT.imp (pt_pw (L2.pw_and ((E g t h1).2 n) (pw_of ((E g t h2).2 n)))) fun σ H Q q => pt_andE q
  · obtain ⟨h1, h2⟩ := two h
    exact both2 (fun n => PE.imp (L2.pe_orT ((E g t h1).1 n) ((E g t h2).1 n)) fun σ H Q q => tm_or q) fun n => PT.imp (pt_pw (L2.pw_or ((E g t h1).2 n) (pw_of ((E g t h2).2 n)))) fun σ H Q q => pt_orE q
  · rename_i op a b e1 o e2 pos
    obtain ⟨h0, h⟩ := two h
    obtain ⟨h1, h2⟩ := two h
    obtain ⟨h2, h3⟩ := two h2
    have nb := cop_nb (o := o) e2 h0
    cases cop_of h1
    exact both2 (fun n => PE.imp (L2.pe_cmpR (op_cmp (hu_of g) g.kdq op) ((E g t h2).1 n) ((E g t h3).1 n) nb) fun σ H Q q => tm_cmp q) fun n =>
      pt_cmpM (L2.pt_cmpR (op_cmp (hu_of g) g.kdq op) ((E g t h2).1 n) ((E g t h3).1 n) nb) (fun σ H Q q => tm_cmp q) fun _ _ _ _ => rfl
  · rename_i o1 o2 a b c e1 p1 p2 e2 e3 pos
    obtain ⟨h0, h⟩ := two h
    obtain ⟨h1, h2⟩ := two h
    obtain ⟨h2, h3⟩ := two h2
    obtain ⟨h3, h4⟩ := two h3
    obtain ⟨h4, h5⟩ := two h4
    have nb := cop_nb (o := p2) e3 h0
    cases cop_of h1
    cases cop_of h2
    exact both2 (fun n => PE.imp (L2.pe_chain (op_cmp (hu_of g) g.kdq o1) (op_cmp (hu_of g) g.kdq o2) ((E g t h3).1 n) ((E g t h4).1 n) ((E g t h5).1 n) nb) fun σ H Q q => tm_chain q) fun n =>
      pt_cmpM (L2.pt_chain (op_cmp (hu_of g) g.kdq o1) (op_cmp (hu_of g) g.kdq o2) ((E g t h3).1 n) ((E g t h4).1 n) ((E g t h5).1 n) nb) (fun σ H Q q => tm_chain q) fun ℓ h k kx => by
        refine congrArg (fun z => evE F n a ℓ h z kx) (funext fun x => funext fun h1 => congrArg (fun z => evE F n b ℓ h1 z kx) (funext fun y => funext fun h2 => ?_))
        cases cmpIV o1 x y h2 with
        | none => rfl
        | some t => cases t <;> rfl
  · obtain ⟨h1, h2⟩ := two h
    obtain ⟨h2, h3⟩ := two h2
    exact both2 (fun n => PE.imp (L2.pe_ifExp ((E g t h1).2 n) ((E g t h2).1 n) ((E g t h3).1 n)) fun σ H Q q => tm_ite q) fun n =>
      PT.imp (pt_ifE ((E g t h1).2 n) ((E g t h2).2 n) ((E g t h3).2 n)) fun σ H Q q => pt_iteE q
  · obtain ⟨_, _, l⟩ := L g t h
    exact both (fun n => PE.imp (L2.pe_tup (l n)) fun σ H Q q => tm_tup q) fun _ => rfl
  · obtain ⟨_, _, l⟩ := L g t h
    exact both (fun n => PE.imp (L2.pe_lst (l n)) fun σ H Q q => tm_lst q) fun _ => rfl
  · obtain ⟨h1, h2⟩ := two h
    obtain ⟨h2, h3⟩ := two h2
    exact both (fun n => PE.imp (L2.pe_slice sl_any ((E g t h1).1 n) (OO g t h2 n) (OO g t h3 n)) fun σ H Q q => tm_slice q) fun _ => rfl
  · obtain ⟨h1, h2⟩ := two h
    obtain ⟨h2, h3⟩ := two h2
    exact both (fun n => PE.imp (L2.pe_ix (ix_any g.kdq) ((E g t h2).1 n) ((E g t h3).1 n) (noSlice_ok h1)) fun σ H Q q => tm_idx q) fun _ => rfl
  · obtain ⟨h1, h2⟩ := two h
    obtain ⟨h2, h3⟩ := two h2
    cases g.fld _ _ (of_decide_eq_true h2)
    exact both (fun n => PE.imp (L2.pe_fld ((E g t h3).1 n) (name_base h1)) fun σ H Q q => tm_attr g q) fun _ => rfl
  · rename_i f ms kms perm x p es kws pos
    split at h
    · rename_i ns hk
      obtain ⟨hS, h⟩ := two h
      obtain ⟨h1, h2⟩ := two h
      obtain ⟨h2, h3⟩ := two h2
      obtain ⟨h3, h4⟩ := two h3
      obtain ⟨h4, h5⟩ := two h4
      obtain ⟨h5, h6⟩ := two h5
      obtain ⟨hg, hd⟩ := gl_of h2
      obtain ⟨l1, l2, l3⟩ := L g t h5
      obtain ⟨k1, k2⟩ := KK g t h6
      exact both (fun n => pe_callM g hS (of_decide_eq_true h1) hg hd (of_decide_eq_true h3) (of_decide_eq_true h4) l1 hk (l3 n) (k2 n) l2 k1) fun _ => rfl
    · cases h
  · rename_i t0 a0 x0 p0 e0 y0 p1 p2
    obtain ⟨h1, h2⟩ := two h
    obtain ⟨h2, h3⟩ := two h2
    obtain ⟨h3, h4⟩ := two h3
    obtain ⟨h4, h5⟩ := two h4
    cases of_decide_eq_true h1
    obtain ⟨U, u1, u2, u3, u4⟩ := ty_boot g (of_decide_eq_true h3)
    obtain ⟨hg, hd⟩ := gl_of h4
    have pa := L2.pa_cons (pe_ex (E g t h5).1) (L2.pa_cons (L2.pe_bltn (X := X) (pos := p1) hg u2 u3 (v := .ty U) rfl u4 hd) L2.pa_nil (star_cons [] rfl)) (star_cons _ (okE_nostar h5))
    obtain ⟨hg0, hd0⟩ := gl_of h2
    exact both (fun n => PE.imp (L2.pe_callB L2.call_isi hg0 (free_of g) b_isi pa (by decide) hd0 (star_cons _ (okE_nostar h5)) (star_any rfl)) fun σ H Q q => tm_isi u1 q) fun _ => rfl
  · rename_i hno h
    obtain ⟨hS, h⟩ := two h
    obtain ⟨h1, h2⟩ := two h
    obtain ⟨h2, h3⟩ := two h2
    obtain ⟨hg, hd⟩ := gl_of h2
    obtain ⟨l1, l2, l3⟩ := L g t h3
    exact both (fun n => PE.imp (pe_b g (fun z => g.gds (by rw [z] at hS; exact (by simpa using (two hS).2))) (fun z => g.calm (by rw [z] at hS; exact (by simpa using (two hS).1))) (of_decide_eq_true h1) hg hd (l3 n) l1) fun σ H Q q => tm_bcall q) fun _ => rfl
  · obtain ⟨h1, h2⟩ := two h
    obtain ⟨h2, h3⟩ := two h2
    obtain ⟨h3, h4⟩ := two h3
    cases of_decide_eq_true h2
    obtain ⟨f1, f2, f3⟩ := mt_facts ‹Mt›
    exact both (fun n => PE.imp (L2.pe_bm0 f1 f2 f3 (mt_any (hu_of g) _) ((E g t h4).1 n) (name_base h1) h3) fun σ H Q q => tm_meth0 q) fun _ => rfl
  · rename_i a m m1 ms e1 x apos e2 es pos
    obtain ⟨h1, h2⟩ := two h
    obtain ⟨h2, h3⟩ := two h2
    obtain ⟨h3, h4⟩ := two h3
    obtain ⟨h4, h5⟩ := two h4
    obtain ⟨h5, h6⟩ := two h5
    cases of_decide_eq_true h2
    obtain ⟨f1, f2, f3⟩ := mt_facts m
    obtain ⟨l1, l2, l3⟩ := L g t h6
    obtain ⟨s1, s2⟩ := two l1
    exact both (fun n => PE.imp (L2.pe_bm f1 f2 f3 (mt_any (hu_of g) m) ((E g t h5).1 n) (l3 n) (name_base h1) (by
      have hl := of_decide_eq_true h4
      refine Bool.and_eq_true_iff.mpr ⟨Bool.and_eq_true_iff.mpr ⟨star_all l1, rfl⟩, decide_eq_true ?_⟩
      show (es.length + 1) + 0 + 0 < 30
      omega) h3 (star_cons es s1) (star_any s2)) fun σ H Q q => tm_meth q) fun _ => rfl
  · rename_i elt tg it ifs own e tge i fs scope pos
    obtain ⟨hS, h⟩ := two h
    have hS1 := (two hS).1
    obtain ⟨h1, h2⟩ := two h
    obtain ⟨h2, h3⟩ := two h2
    obtain ⟨h3, h4⟩ := two h3
    obtain ⟨h4, h5⟩ := two h4
    obtain ⟨h5, h6⟩ := two h5
    obtain ⟨h6, h7⟩ := two h6
    have ok := L2.blkOk_by h1
    obtain ⟨i1, i2⟩ := I g t h3
    have ff : ∀ {Y : Cx}, TopOk false Y := fun z => by cases z
    refine both (fun n => PE.imp (L2.pe_lc (te := AnyE X.K G C F0 F elt) (g := AnyG X.K G C F tg) (tt := AnyQ X.K G C F ifs) (g.calm hS1) g.nd (i2 _ n) ok (fun s H A cl fp => pg_ex (GG (blk_fit g hS s H scope A cl fp ok.kind) ff h4)) (fun s H A cl fp => QQ (blk_fit g hS s H scope A cl fp ok.kind) h5)
      (fun s H A cl fp => pe_ex (E (blk_fit g hS s H scope A cl fp ok.kind) ff h7).1) i1) fun σ H Q q => ?_) fun _ => rfl
    rw [of_decide_eq_true h2]
    exact tm_comp q h6
  · rename_i i x p1 p2
    obtain ⟨hA, h2⟩ := two h
    obtain ⟨h2, h3⟩ := two h2
    obtain ⟨h3, h4⟩ := two h3
    obtain ⟨h4, h5⟩ := two h4
    obtain ⟨d1, d2⟩ := nodbg_ok h5
    cases of_decide_eq_true h2
    exact both (fun n => g.actq hA (pn := X.pn) (xe := X.xe) (of_decide_eq_true h3) (vis_ok h4) d1 d2 g.takes) fun _ => rfl
  · rename_i i f x p y pos
    obtain ⟨h1, h2⟩ := two h
    obtain ⟨a1, a2⟩ := two h2
    obtain ⟨a2, a3⟩ := two a2
    obtain ⟨a3, a4⟩ := two a3
    obtain ⟨d1, d2⟩ := nodbg_ok a3
    have hS : S.calm = false := by simpa using h1
    have hf := g.fld _ _ (of_decide_eq_true a4)
    refine both (fun n => ⟨fun pins s σ H Q I q => ?_⟩) fun _ => rfl
    obtain ⟨μ, ℓ, hh, k, kx, P, r, l, w, hk, hx⟩ := q
    cases he : F.err with
    | none =>
      simp only [evE, he] at w
      exact w.elim
    | some e =>
      cases hl : getSl ℓ i with
      | none =>
        simp only [evE, he, hl] at w
        exact w.elim
      | some z =>
        cases z with
        | err =>
          simp only [evE, he, hl] at w
          by_cases hx2 : F.xf e.c = some f
          · rw [if_pos hx2] at w
            have e1 : G.xN e.c = y := by rw [← hf, (g.xfn _ _ hx2).1]
            have key := (g.errq hS e he).1 (p := p) (pos := pos) (of_decide_eq_true a1) (vis_ok a2) d1 d2 hx2
            rw [e1] at key
            refine key.run pins s σ H Q I ⟨μ, ℓ, hh, k, kx, P, r, l, ?_, hk, hx⟩
            show Wp C (match getSl ℓ i with | some .err => k e.v hh | _ => .stuck) P
            rw [hl]
            exact w
          · rw [if_neg hx2] at w
            exact w.elim
        | _ =>
          simp only [evE, he, hl] at w
          exact w.elim
  · rename_i i c gg p x p1 y p2 pos
    obtain ⟨h1, h2⟩ := two h
    obtain ⟨a1, a2⟩ := two h2
    obtain ⟨a2, a3⟩ := two a2
    obtain ⟨a3, a4⟩ := two a3
    obtain ⟨a4, a5⟩ := two a4
    obtain ⟨a5, a6⟩ := two a5
    obtain ⟨a6, a7⟩ := two a6
    obtain ⟨d1, d2⟩ := nodbg_ok a5
    have hS : S.calm = false := by simpa using h1
    cases of_decide_eq_true a1
    refine both (fun n => ⟨fun pins s σ H Q I q => ?_⟩) fun _ => rfl
    obtain ⟨μ, ℓ, hh, k, kx, P, r, l, w, hk, hx⟩ := q
    cases he : F.err with
    | none =>
      simp only [evE, he] at w
      exact w.elim
    | some e =>
      cases hl : getSl ℓ i with
      | none =>
        simp only [evE, he, hl] at w
        exact w.elim
      | some z =>
        cases z with
        | err =>
          simp only [evE, he, hl] at w
          obtain ⟨b, eb, w2⟩ := wp_opt w
          have key := (g.errq hS e he).2 (p := p) (p1 := p1) (p2 := p2) (pos := pos) (of_decide_eq_true a3) (vis_ok a4) d1 d2 (of_decide_eq_true a6) eb (gl_of a7).1 (gl_of a2).1
          refine key.run pins s σ H Q I ⟨μ, ℓ, hh, k, kx, P, r, l, ?_, hk, hx⟩
          show Wp C (match getSl ℓ i with | some .err => k (.bl b) hh | _ => .stuck) P
          rw [hl]
          exact w2
        | _ =>
          simp only [evE, he, hl] at w
          exact w.elim
  · obtain ⟨h1, h⟩ := two h
    obtain ⟨h1, h2⟩ := two h1
    obtain ⟨a1, h⟩ := two h
    obtain ⟨a2, h⟩ := two h
    obtain ⟨a3, h⟩ := two h
    obtain ⟨a4, h⟩ := two h
    exact both (fun n => LM h1 h2 g (of_decide_eq_true a1) (gl_of a2).1 a3 a4 EP h (n + 1)) fun _ => rfl
  · rename_i ms ks vs pos
    obtain ⟨h1, h2⟩ := two h
    obtain ⟨d1, d2, d3, d4, d5⟩ := DD g t h2
    cases ks with
    | nil =>
      cases d4 rfl
      cases vs with
      | nil => exact both (fun n => PE.imp L2.pe_dnewK fun σ H Q q => tm_dct0 q) fun _ => rfl
      | cons _ _ => cases d2
    | cons k ks => exact both (fun n => PE.imp (L2.pe_disp (d5 _) d3 d2 (fun z => by cases z) (of_decide_eq_true h1)) fun σ H Q q => tm_dct d1 q) fun _ => rfl
  · rename_i m x p y p2 e1 pos pos2
    obtain ⟨hS, h⟩ := two h
    obtain ⟨h1, h⟩ := two h
    obtain ⟨h2, h⟩ := two h
    obtain ⟨h3, h⟩ := two h
    obtain ⟨h4, h⟩ := two h
    obtain ⟨h5, h6⟩ := two h
    cases of_decide_eq_true h1
    cases of_decide_eq_true h2
    exact both (fun n => PE.imp (L2.pe_listRg (g.calm hS) (gl_of h3).1 (free_of g) (L2.prg_1 (gl_of h4).1 (free_of g) ((E g t h6).1 n) (star_cons [] h5)) rfl) fun σ H Q q => tm_lrng q) fun _ => rfl
  · refine ⟨fun n => ⟨fun pins s σ H Q I q => ?_⟩, fun n => ⟨fun pins s σ H Q I q => ?_⟩⟩
    · obtain ⟨_, _, _, _, _, _, _, _, w, _⟩ := q
      cases n <;> exact w.elim
    · obtain ⟨_, _, _, _, _, _, _, _, w, _⟩ := q
      cases n <;> exact w.elim
  · cases h
end
theorem ct_all (G : PEnv) (C : CSp) (F : Cfg) (d : Nat) (fA : Nat → Addr) (fdF : Nat → FuncData) (psF : Nat → List Str) : ∀ (j : Nat) (S : SI), LamH G C F d fA fdF psF S → ctE G C F d fA fdF psF S j ∧ ctL G C F d fA fdF psF S j ∧ ctK G C F d fA fdF psF S j ∧ ctI G C F d fA fdF psF S j ∧ ctG G C F d fA fdF psF S j ∧ ctGs G C F d fA fdF psF S j ∧ ctQ G C F d fA fdF psF S j ∧ ctO G C F d fA fdF psF S j ∧ ctD G C F d fA fdF psF S j
  | 0, _, _ => ⟨fun g t m e h => absurd h Bool.false_ne_true, fun g t m e h => absurd h Bool.false_ne_true, fun g t m e h => absurd h Bool.false_ne_true, fun g t m e h => absurd h Bool.false_ne_true, fun g t m e h => absurd h Bool.false_ne_true, fun g t m e h => absurd h Bool.false_ne_true, fun g m e h => absurd h Bool.false_ne_true, fun g t m e h => absurd h Bool.false_ne_true, fun g t m ks vs h => absurd h Bool.false_ne_true⟩
  | j + 1, S, LM => by
    have P : ∀ d', ctE G C F d' fA fdF psF S.pkg j := fun d' => (ct_all G C F d' fA fdF psF j S.pkg (fun z => by cases z)).1
    obtain ⟨a, b, c, e0, e, f, q, o, dd⟩ := ct_all G C F d fA fdF psF j S LM
    exact ⟨ct_e dd LM P o a b c e0 e q, ct_l a b, ct_k a c, ct_i a, ct_g a f, ct_gs e f, ct_q a, ct_o a, ct_d a dd⟩
end
end MP
set_option maxRecDepth 100000
set_option maxHeartbeats 4000000
/-! MPn: statements. -/
namespace MP
open PySem PySem.Spec PyProof.Rows
open L2 (V HO Hp upd SqL SqT Rd upd_same upd_ne RelV Vals ne_of_none R2 OpR VK XK CallR IxR PSet MtR Cx TruV TE TT TA TI TG TS WX PE PT PW PA PK PI PG PGs PTs PS PSs PMk Ends It Itl Itt Itr tOp tC tVar tTup tLst tNil tCons tCB tBM tNotT tAndT tOrT tIf tChain tTest tAnd tOr tNot Gl Inv EP TP SP thn wipe Vis Loc BlkOk Takes)
section
variable {S : SI} {G : PEnv} {F : Cfg} {C : CSp} {W : WX} {K : PySem.W.Frag}
/-- where a run of statements may go, and what that asks -/
structure CD (K : PySem.W.Frag) (G : PEnv) (C : CSp) (W : WX) (μ : Emb) (H : Hp) (D : Ends) (Dm : Ds) (P : Res → Prop) : Prop where
  nx : ∀ ℓ1 h1 μ1 H1 σ1, Stp μ H μ1 H1 → Rp K G μ1 h1 H1 → RL K G μ1 H1 ℓ1 σ1 → Wp C (Dm.nx ℓ1 h1) P → D.nx σ1 H1
  bk : ∀ ℓ1 h1 μ1 H1 σ1, Stp μ H μ1 H1 → Rp K G μ1 h1 H1 → RL K G μ1 H1 ℓ1 σ1 → Wp C (Dm.bk ℓ1 h1) P → D.bk σ1 H1
  ct : ∀ ℓ1 h1 μ1 H1 σ1, Stp μ H μ1 H1 → Rp K G μ1 h1 H1 → RL K G μ1 H1 ℓ1 σ1 → Wp C (Dm.ct ℓ1 h1) P → D.ct σ1 H1
  rt : ∀ v h1 μ1 H1 x, Stp μ H μ1 H1 → Rp K G μ1 h1 H1 → RV K G μ1 H1 v x → Wp C (Dm.rt v h1) P → D.rt x H1
  ex : ∀ e ℓ1 h1 μ1 H1 σ1 cls d, Stp μ H μ1 H1 → Rp K G μ1 h1 H1 → RL K G μ1 H1 ℓ1 σ1 → RX K G μ1 H1 e cls d → Wp C (Dm.ex ℓ1 e h1) P → W cls d σ1 H1
theorem CD.on {μ μ1 : Emb} {h1 : Hpi} {H H1 : Hp} {D : Ends} {Dm : Ds} {P : Res → Prop} (c : CD K G C W μ H D Dm P) (s : Stp μ H μ1 H1) (r : Rp K G μ1 h1 H1) : CD K G C W μ1 H1 D Dm P :=
  ⟨fun ℓ2 h2 μ2 H2 σ2 t r2 l2 w => c.nx ℓ2 h2 μ2 H2 σ2 (s.tr r t) r2 l2 w, fun ℓ2 h2 μ2 H2 σ2 t r2 l2 w => c.bk ℓ2 h2 μ2 H2 σ2 (s.tr r t) r2 l2 w, fun ℓ2 h2 μ2 H2 σ2 t r2 l2 w => c.ct ℓ2 h2 μ2 H2 σ2 (s.tr r t) r2 l2 w,
    fun v h2 μ2 H2 x t r2 q w => c.rt v h2 μ2 H2 x (s.tr r t) r2 q w, fun e ℓ2 h2 μ2 H2 σ2 cls d t r2 l2 q w => c.ex e ℓ2 h2 μ2 H2 σ2 cls d (s.tr r t) r2 l2 q w⟩
def TMS (K : PySem.W.Frag) (G : PEnv) (C : CSp) (W : WX) (m : Loc → Hpi → Ds → Tree) : TS := fun D σ H =>
  ∃ (μ : Emb) (ℓ : Loc) (h : Hpi) (Dm : Ds) (P : Res → Prop), Rp K G μ h H ∧ RL K G μ H ℓ σ ∧ Wp C (m ℓ h Dm) P ∧ CD K G C W μ H D Dm P
theorem tms_asg {n : Nat} {t : MT} {e : ME} {D : Ends} {σ : LSt} {H : Hp} (h : TMS K G C W (evS F (n + 1) (.asg t e)) D σ H) : L2.tAsg (TM K G C W (evE F n e)) (TMG K G C (fun vs => nmInE vs t) (evG F n t)) D σ H := by
  obtain ⟨μ, ℓ, hh, Dm, P, r, l, w, c⟩ := h
  refine TM.step r l w (fun e h1 μ1 H1 cls d s1 r1 q1 w1 => c.ex e ℓ h1 μ1 H1 σ cls d s1 r1 (s1.rl l) q1 w1) fun v h1 μ1 H1 x s1 r1 l1 q1 hx1 w1 => ?_
  exact ⟨μ1, ℓ, h1, v, Dm.nx, P, r1, l1, q1, w1, fun ℓ2 h2 μ2 H2 σ2 s2 r2 l2 _ w2 => c.nx ℓ2 h2 μ2 H2 σ2 (s1.tr r1 s2) r2 l2 w2⟩
theorem tms_expr {n : Nat} {e : ME} {D : Ends} {σ : LSt} {H : Hp} (h : TMS K G C W (evS F (n + 1) (.expr e)) D σ H) : L2.tDrop (TM K G C W (evE F n e)) D σ H := by
  obtain ⟨μ, ℓ, hh, Dm, P, r, l, w, c⟩ := h
  refine TM.step r l w (fun e h1 μ1 H1 cls d s1 r1 q1 w1 => c.ex e ℓ h1 μ1 H1 σ cls d s1 r1 (s1.rl l) q1 w1) fun v h1 μ1 H1 x s1 r1 l1 q1 hx1 w1 => ?_
  exact c.nx ℓ h1 μ1 H1 σ s1 r1 l1 w1
theorem tms_ret {n : Nat} {e : ME} {D : Ends} {σ : LSt} {H : Hp} (h : TMS K G C W (evS F (n + 1) (.ret e)) D σ H) : L2.tRet (TM K G C W (evE F n e)) D σ H := by
  obtain ⟨μ, ℓ, hh, Dm, P, r, l, w, c⟩ := h
  refine TM.step r l w (fun e h1 μ1 H1 cls d s1 r1 q1 w1 => c.ex e ℓ h1 μ1 H1 σ cls d s1 r1 (s1.rl l) q1 w1) fun v h1 μ1 H1 x s1 r1 l1 q1 hx1 w1 => ?_
  exact c.rt v h1 μ1 H1 x s1 r1 q1 w1
theorem tms_if {n : Nat} {e : ME} {a b : List MS} {D : Ends} {σ : LSt} {H : Hp} (h : TMS K G C W (evS F (n + 1) (.ifs e a b)) D σ H) : L2.tIfS (TMT K G C W (evE F n e)) (TMS K G C W (evB F n a)) (TMS K G C W (evB F n b)) D σ H := by
  obtain ⟨μ, ℓ, hh, Dm, P, r, l, w, c⟩ := h
  refine TMT.step (kt := fun t h1 => match t with
      | true => evB F n a ℓ h1 Dm
      | false => evB F n b ℓ h1 Dm) r l w (fun e h1 μ1 H1 cls d s1 r1 q1 w1 => c.ex e ℓ h1 μ1 H1 σ cls d s1 r1 (s1.rl l) q1 w1) fun t h1 μ1 H1 s1 r1 l1 hx1 w1 => ?_
  cases t with
  | true =>
    rw [if_pos rfl]
    exact ⟨μ1, ℓ, h1, Dm, P, r1, l1, w1, c.on s1 r1⟩
  | false =>
    rw [if_neg Bool.false_ne_true]
    exact ⟨μ1, ℓ, h1, Dm, P, r1, l1, w1, c.on s1 r1⟩
theorem tms_par2 {n : Nat} {i j : Nat} {a b : ME} {D : Ends} {σ : LSt} {H : Hp} (h : TMS K G C W (evS F (n + 1) (.par [i, j] [a, b])) D σ H) : L2.tPar i j (TML K G C W (evL F n [a, b])) D σ H := by
  obtain ⟨μ, ℓ, hh, Dm, P, r, l, w, c⟩ := h
  refine TML.step r l w (fun e h1 μ1 H1 cls d s1 r1 q1 w1 => c.ex e ℓ h1 μ1 H1 σ cls d s1 r1 (s1.rl l) q1 w1) fun vs h1 μ1 H1 xs s1 r1 l1 q1 hx1 w1 => ?_
  rcases vs with _ | ⟨v, _ | ⟨u, _ | ⟨z, t⟩⟩⟩
  · exact w1.elim
  · exact w1.elim
  · obtain ⟨x, y, rfl, q2, q3⟩ := rvs2 q1
    exact ⟨x, y, rfl, c.nx _ h1 μ1 H1 _ s1 r1 ((l1.set q2).set q3) w1⟩
  · exact w1.elim
theorem tms_par3 {n : Nat} {i j k : Nat} {a b e : ME} {D : Ends} {σ : LSt} {H : Hp} (h : TMS K G C W (evS F (n + 1) (.par [i, j, k] [a, b, e])) D σ H) : L2.tPar3 i j k (TML K G C W (evL F n [a, b, e])) D σ H := by
  obtain ⟨μ, ℓ, hh, Dm, P, r, l, w, c⟩ := h
  refine TML.step r l w (fun e h1 μ1 H1 cls d s1 r1 q1 w1 => c.ex e ℓ h1 μ1 H1 σ cls d s1 r1 (s1.rl l) q1 w1) fun vs h1 μ1 H1 xs s1 r1 l1 q1 hx1 w1 => ?_
  rcases vs with _ | ⟨v, _ | ⟨u, _ | ⟨z, _ | ⟨z2, t⟩⟩⟩⟩
  · exact w1.elim
  · exact w1.elim
  · exact w1.elim
  · obtain ⟨x, r', rfl, q2, q3⟩ := q1
    obtain ⟨y, z', rfl, q4, q5⟩ := rvs2 q3
    exact ⟨x, y, z', rfl, c.nx _ h1 μ1 H1 _ s1 r1 (((l1.set q2).set q4).set q5) w1⟩
  · exact w1.elim
theorem tmb_nil {n : Nat} {D : Ends} {σ : LSt} {H : Hp} (h : TMS K G C W (evB F (n + 1) []) D σ H) : L2.tNext D σ H := by
  obtain ⟨μ, ℓ, hh, Dm, P, r, l, w, c⟩ := h
  exact c.nx ℓ hh μ H σ Stp.refl r l w
theorem tmb_cons {n : Nat} {s : MS} {ss : List MS} {D : Ends} {σ : LSt} {H : Hp} (h : TMS K G C W (evB F (n + 1) (s :: ss)) D σ H) : L2.tSeq (TMS K G C W (evS F n s)) (TMS K G C W (evB F n ss)) D σ H := by
  obtain ⟨μ, ℓ, hh, Dm, P, r, l, w, c⟩ := h
  exact ⟨μ, ℓ, hh, _, P, r, l, w, fun ℓ2 h2 μ2 H2 σ2 s2 r2 l2 w2 => ⟨μ2, ℓ2, h2, Dm, P, r2, l2, w2, c.on s2 r2⟩, c.bk, c.ct, c.rt, c.ex⟩
theorem tms_brk {n : Nat} {D : Ends} {σ : LSt} {H : Hp} (h : TMS K G C W (evS F (n + 1) .brk) D σ H) : L2.tBreak D σ H := by
  obtain ⟨μ, ℓ, hh, Dm, P, r, l, w, c⟩ := h
  exact c.bk ℓ hh μ H σ Stp.refl r l w
theorem tms_cnt {n : Nat} {D : Ends} {σ : LSt} {H : Hp} (h : TMS K G C W (evS F (n + 1) .cnt) D σ H) : L2.tCont D σ H := by
  obtain ⟨μ, ℓ, hh, Dm, P, r, l, w, c⟩ := h
  exact c.ct ℓ hh μ H σ Stp.refl r l w
theorem tms_pass {n : Nat} {D : Ends} {σ : LSt} {H : Hp} (h : TMS K G C W (evS F (n + 1) .pass) D σ H) : L2.tNext D σ H := by
  obtain ⟨μ, ℓ, hh, Dm, P, r, l, w, c⟩ := h
  exact c.nx ℓ hh μ H σ Stp.refl r l w
/-! ### loops -/
def AnyS (K : PySem.W.Frag) (G : PEnv) (C : CSp) (W : WX) (F : Cfg) (b : List MS) : TS := fun D σ H => ∃ n, TMS K G C W (evB F n b) D σ H
def AnyT (K : PySem.W.Frag) (G : PEnv) (C : CSp) (W : WX) (F : Cfg) (c : ME) : TT := fun σ H Q => ∃ n, TMT K G C W (evE F n c) σ H Q
def WTurn (K : PySem.W.Frag) (G : PEnv) (C : CSp) (F : Cfg) (c : ME) (body : List MS) (Dm : Ds) (P : Res → Prop) (μ0 : Emb) (H0 : Hp) : Nat → LSt → Hp → Prop := fun m σ H =>
  ∃ (μ : Emb) (ℓ : Loc) (h : Hpi), Rp K G μ h H ∧ RL K G μ H ℓ σ ∧ Stp μ0 H0 μ H ∧ Wp C (evW F m c body ℓ h Dm) P
theorem tms_while {n : Nat} {cd : ME} {body : List MS} {D : Ends} {σ : LSt} {H : Hp} (h : TMS K G C W (evS F (n + 1) (.whl cd body)) D σ H) : L2.tWhile (AnyT K G C W F cd) (AnyS K G C W F body) D σ H := by
  obtain ⟨μ, ℓ, hh, Dm, P, r, l, w, c⟩ := h
  refine ⟨WTurn K G C F cd body Dm P μ H, ⟨n, μ, ℓ, hh, r, l, Stp.refl, w⟩, fun m σ' H' turn => ?_⟩
  obtain ⟨μ', ℓ', h', r', l', st, w'⟩ := turn
  cases m with
  | zero => exact w'.elim
  | succ m =>
    refine ⟨m, TMT.step (kt := fun t h1 => match t with
      | true => evB F m body ℓ' h1 { Dm with nx := fun ℓ2 h2 => evW F m cd body ℓ2 h2 Dm, ct := fun ℓ2 h2 => evW F m cd body ℓ2 h2 Dm, bk := Dm.nx }
      | false => Dm.nx ℓ' h1) r' l' w' (fun e h1 μ1 H1 cls d s1 r1 q1 w1 => c.ex e ℓ' h1 μ1 H1 σ' cls d (st.tr r' s1) r1 (s1.rl l') q1 w1) fun t h1 μ1 H1 s1 r1 l1 hx1 w1 => ?_⟩
    cases t with
    | false =>
      rw [if_neg Bool.false_ne_true]
      exact c.nx ℓ' h1 μ1 H1 σ' (st.tr r' s1) r1 l1 w1
    | true =>
      rw [if_pos rfl]
      have back : ∀ ℓ2 h2 μ2 H2 σ2, Stp μ1 H1 μ2 H2 → Rp K G μ2 h2 H2 → RL K G μ2 H2 ℓ2 σ2 → Wp C (evW F m cd body ℓ2 h2 Dm) P → ∃ m', m' < m + 1 ∧ WTurn K G C F cd body Dm P μ H m' σ2 H2 :=
        fun ℓ2 h2 μ2 H2 σ2 s2 r2 l2 w2 => ⟨m, Nat.lt_succ_self _, μ2, ℓ2, h2, r2, l2, (st.tr r' s1).tr r1 s2, w2⟩
      refine ⟨fun σ2 H2 => ∃ m', m' < m + 1 ∧ WTurn K G C F cd body Dm P μ H m' σ2 H2, fun _ _ z => z, m, μ1, ℓ', h1, _, P, r1, l1, w1, ?_⟩
      have c1 := c.on (st.tr r' s1) r1
      exact ⟨back, c1.nx, back, c1.rt, c1.ex⟩
def FTurn (K : PySem.W.Frag) (G : PEnv) (C : CSp) (F : Cfg) (t : MT) (body : List MS) (Dm : Ds) (P : Res → Prop) (μ0 : Emb) (H0 : Hp) (J : It) : Nat → Nat → LSt → Hp → Prop := fun i m σ H =>
  ∃ (μ : Emb) (ℓ : Loc) (h : Hpi) (s : Src), Rp K G μ h H ∧ RL K G μ H ℓ σ ∧ SR K G μ H s J i ∧ Stp μ0 H0 μ H ∧ Wp C (evF F m t s body ℓ h Dm) P
theorem tms_for {n : Nat} {t : MT} {it : MI} {body : List MS} {D : Ends} {σ : LSt} {H : Hp} (h : TMS K G C W (evS F (n + 1) (.forr t it body)) D σ H) : L2.tFor (TMI K G C W (evI F n it)) (AnyG K G C F t) (AnyS K G C W F body) D σ H := by
  obtain ⟨μ, ℓ, hh, Dm, P, r, l, w, c⟩ := h
  refine TMI.step r l w (fun e h1 μ1 H1 cls d s1 r1 q1 w1 => c.ex e ℓ h1 μ1 H1 σ cls d s1 r1 (s1.rl l) q1 w1) fun s h1 μ1 H1 J s1 r1 l1 q1 hx1 w1 => ?_
  refine ⟨FTurn K G C F t body Dm P μ1 H1 J, ⟨n, μ1, ℓ, h1, s, r1, l1, q1, Stp.refl, w1⟩, fun i m σ' H' turn => ?_⟩
  obtain ⟨μ', ℓ', h', s', r', l', q', st, w'⟩ := turn
  cases m with
  | zero => exact w'.elim
  | succ m =>
    obtain ⟨o, e, w2⟩ := wp_opt (show Wp C (optT (nextS s' h') _) P from w')
    cases o with
    | none => exact .inl ⟨sr_none r' q' e, c.nx ℓ' h' μ' H' σ' (s1.tr r1 st) r' l' w2⟩
    | some p =>
      obtain ⟨x, s''⟩ := p
      obtain ⟨go, ny⟩ := sr_some r' q' e
      refine .inr ⟨go, fun σ2 H2 => ∃ m', m' < m + 1 ∧ FTurn K G C F t body Dm P μ1 H1 J (i + 1) m' σ2 H2, fun _ _ z => z, fun y Hy hy => ?_⟩
      obtain ⟨eH, qx, qs⟩ := ny y Hy hy
      subst eH
      refine ⟨m, μ', ℓ', h', x, _, P, r', l', qx, w2, ?_⟩
      intro ℓ2 h2 μ2 H2 σ2 s2 r2 l2 o2 w3
      have back : ∀ ℓ3 h3 μ3 H3 σ3, Stp μ2 H2 μ3 H3 → Rp K G μ3 h3 H3 → RL K G μ3 H3 ℓ3 σ3 → Wp C (evF F m t s'' body ℓ3 h3 Dm) P → ∃ m', m' < m + 1 ∧ FTurn K G C F t body Dm P μ1 H1 J (i + 1) m' σ3 H3 :=
        fun ℓ3 h3 μ3 H3 σ3 s3 r3 l3 w4 => ⟨m, Nat.lt_succ_self _, μ3, ℓ3, h3, s'', r3, l3, (s2.tr r2 s3).sr qs, st.tr r' (s2.tr r2 s3), w4⟩
      have c1 := c.on ((s1.tr r1 st).tr r' s2) r2
      exact ⟨m, μ2, ℓ2, h2, _, P, r2, l2, w3, back, c1.nx, back, c1.rt, c1.ex⟩
end
end MP
set_option maxRecDepth 100000
set_option maxHeartbeats 4000000
/-! MPn2: isinstance(e, C) of a caught exception that has fields of its own. -/
namespace MPx
open PySem PySem.W PySem.Spec PySem.Calls PyProof.Rows
section
variable {prog : Program} {w : World} {A : Around} {E : Value → Shared → Prop} {s : Shared} {K : Frag} {x D : Addr} {ox : Obj} {od : Option Obj}
theorem find_data {C : Addr} {name : Str} {a g : Value} (hc : (clsIn K C).isSome = true) (ha : findIn K (.ref C) name = some (some a)) (hg : specialIn K a "__get__" = some (some g)) (ht : takesIn K a = some true) : findObj K C od name = some (.bind g a) := by
  obtain ⟨cd, hc⟩ := Option.isSome_iff_exists.mp hc
  unfold findObj
  rw [hc, Option.bind_some, ha, Option.bind_some]
  simp [hg, ht]
theorem class_of (T : L2.ExcC K D) {Q : Option Value → Shared → Prop} (X : K.In s.heap) (I : InstAt s.heap x ox D od) (h : Q (some (.ref D)) { s with toks := s.toks + 1 }) : wpAny (model prog w) A (getAttr? (.ref x) "__class__") Q E s := by
  have hf : findObj K D od "__class__" = some (.bind (.builtin "getset_descriptor.__get__") (.builtin "object.__class__")) := find_data (by obtain ⟨cd, hc, _⟩ := any_some T.hd; rw [hc]; rfl) T.ha T.hn T.ht
  obtain ⟨hp, g, d, t, os⟩ := s
  have L0 := I.type (M := model prog w)
  have L1 := looks_findIn (M := model prog w) X T.hg
  have L2 := looks_findIn (M := model prog w) X T.hk
  have L3 := looks_find (M := model prog w) X I hf
  have sub : Looks (model prog w) hp (isInstance (.ref x) (.type "BaseException")) true := L0.andThen (looks_subIn X T.hs)
  have hx0 : (false && onTheHeap (Value.builtin "BaseException.__getattribute__")) = false := rfl
  have hx2 : (Value.builtin "BaseException.__getattribute__" == Value.builtin "object.__getattribute__") = false := by decide +kernel
  have hx1 : (onTheHeap (Value.ref D) && Value.builtin "BaseException.__getattribute__" == Value.builtin "object.__getattribute__") = false := by rw [hx2]; rfl
  unfold getAttr? getAttrBy? getAttrBy
  refine wpAny_bind (wpAny_mkText (wpAny_bind (wpAny_attempt (wpAny_holding (wpAny_bind (L0.at (wpAny_bind (L1.at ?_))))))))
  show wpAny _ _ (if (onTheHeap (Value.ref D) && Value.builtin "BaseException.__getattribute__" == Value.builtin "object.__getattribute__") = true then _ else _) _ _ _
  rw [hx1, if_neg Bool.false_ne_true]
  unfold getAttrByItsOwn hookBefore
  refine wpAny_bind ?_
  rw [if_pos (show onTheHeap (Value.ref D) = true from rfl)]
  refine L2.at ?_
  refine wpAny_bind (wpAny_attempt (wpAny_holding ?_))
  unfold callGetattribute
  rw [hx0, if_neg Bool.false_ne_true]
  unfold boundAndCalled
  rw [PySem.F.excAttr_ValueError.ga.bind (.ref x)]
  refine wpAny_bind (wpAny_pure ?_)
  show wpAny _ _ (call (.builtin "BaseException.__getattribute__") [.ref x, .str "__class__" t]) _ _ _
  refine wpAny_call (codeAny_call_builtin PySem.F.excAttr_ValueError.ga.plain PySem.F.entry_bexc_ga ?_)
  refine @check_slot (model prog w) _ _ ⟨hp, g, d, t + 1, os⟩ "BaseException.__getattribute__" "BaseException" "__getattribute__" (.ref x) [.str "__class__" t] [] _ (by decide +kernel) (by decide +kernel) sub (PySem.F.args_bexc_ga (.ref x) (.str "__class__" t)) ?_
  unfold Builtin.«object.__getattribute__»
  refine wpAny_bind (wpAny_of_eq (a := ((Value.ref x : Value), [Value.str "__class__" t])) (by first | rfl | (simp only [slotArgs]; rfl)) ?_)
  refine wpAny_bind (wpAny_pure (wpAny_bind (L0.at (wpAny_bind (L3.at ?_)))))
  show wpAny _ _ (holding [Value.builtin "object.__class__"] (call (.builtin "getset_descriptor.__get__") [.builtin "object.__class__", .ref x, .ref D]) >>= ret) _ _ _
  refine wpAny_bind (wpAny_holding (wpAny_call (class_get (s := ⟨hp, g, d, t + 1, os⟩) (ox := ox) (od := od) X I T.hm ?_)))
  refine wpAny_pure ?_
  show wpAny _ _ (handedOut (.ref D)) _ _ _
  rw [handedOut_of (v := .ref D) rfl]
  first
    | exact wpAny_pure (wpAny_pure h)
    | exact wpAny_pure h
    | exact wpAny_pure (wpAny_bind (wpAny_pure (wpAny_pure h)))
theorem kit_of (T : L2.ExcC K D) : KitX K (.ref x) (.ref D) (fun h => InstAt h x ox D od) where
  ty := fun _ _ _ I => I.type
  it := fun _ _ X _ => by
    obtain ⟨cdD, hcD, _⟩ := any_some T.hd
    unfold clsIn at hcD
    split at hcD
    · rename_i c' d' cd' sl' ho
      intro A' Q' E' s' k q
      unfold isType loadHead
      exact wpAny_bind (wpAny_loadPart (k _ _ (X _ _ ho)) (wpAny_pure q))
    · cases hcD
  ne := fun h tp dd its n sl X htp => by
    obtain ⟨cdD, hcD, _⟩ := any_some T.hd
    refine Bool.eq_false_iff.mpr fun q => ?_
    have e : D = tp := Value.ref.inj (beq_iff_eq.mp q)
    subst e
    unfold clsIn at hcD
    split at hcD
    · rename_i c' d' cd' sl' ho
      have z := (X _ _ ho).symm.trans htp
      cases z
    · cases hcD
  ca := fun X I k => class_of T X I k
end
end MPx
namespace MP
open PySem PySem.Spec PyProof.Rows
open L2 (V HO Hp upd RelV Vals VK CallR Cx Zc Inv)
def rIsD (K : PySem.W.Frag) (D a dd : Addr) : List V → Hp → VK → Prop := fun xs H Q => ∃ (c : Addr) (b : Bool) (fs : List (Str × V)), xs = [.ref a, .ref c] ∧ H dd = some (.xd fs) ∧ PySem.W.kitOne K (.ref D) (.ref c) = some b ∧ Q (.bl b) H
theorem call_isD {X : Cx} {a D dd : Addr} {oe : Obj} {pn : List (Addr × Obj)} (C : L2.ExcC X.K D) (hz : Zc (.ref D) (some dd) oe) (hf : ∃ vs, oe.data = .fields vs) : CallR (X.suite a ((a, oe) :: pn)) (.builtin "isinstance") (rIsD X.K D a dd) := by
  intro pins s σ H xs us Q I r h
  obtain ⟨c, b, fs, rfl, hdd, e, q⟩ := h
  cases r with
  | cons rx rr =>
    cases rr with
    | cons rt rr =>
      cases rr
      cases rx
      cases rt
      obtain ⟨hget, _⟩ := I.pin (a, oe) (List.mem_append.mpr (.inl List.mem_cons_self))
      obtain ⟨vs, hv⟩ := hf
      have hx : L2.ObjOk X.prog X.w H s.heap dd (.xd fs) := I.hok dd _ hdd
      obtain ⟨mA, hns, hr⟩ := hx
      obtain ⟨od, ho, hl⟩ := L2.lookIn_ns hns
      have J : PySem.W.InstAt s.heap a oe D (some od) := ⟨hget, hz.1, by unfold PySem.W.notCls; rw [hv] <;> rfl, by rw [hz.2]; exact ho⟩
      exact PySem.W.kia_one (MPx.kit_of C) I.kIn J e (fun z => nomatch z) fun tk => ⟨.bl b, H, I.kept (t' := tk) fun _ _ z => z, rfl, q⟩
/-! ### another exception held -/
def PEnv.atE (G : PEnv) (a : Addr) (e : Exn) (dd : Addr) : PEnv := { G with ea := a, ex := some (e, dd) }
section
variable {K : PySem.W.Frag} {G : PEnv} {μ : Emb} {H : Hp} {a dd : Addr} {e : Exn}
mutual
theorem rv_up (h0 : G.ex = none) : ∀ {x : IV} {v : V}, RV K G μ H x v → RV K (G.atE a e dd) μ H x v
  | .non, _, h => h
  | .bl _, _, h => h
  | .int _, _, h => h
  | .str _, _, h => h
  | .tup xs, _, h => by
    obtain ⟨b, ys, e, q, r⟩ := h
    exact ⟨b, ys, e, q, rvs_up h0 r⟩
  | .kls xs, _, h => by
    obtain ⟨b, ys, e, q, r⟩ := h
    exact ⟨b, ys, e, q, rvs_up h0 r⟩
  | .ref i, _, h => h
  | .err, _, h => absurd h0 h.1
  | .act, _, h => h
  | .kdc ks xs, _, h => by
    obtain ⟨b, ys, e, q, r⟩ := h
    exact ⟨b, ys, e, q, rvs_up h0 r⟩
theorem rvs_up (h0 : G.ex = none) : ∀ {xs : List IV} {vs : List V}, RVs K G μ H xs vs → RVs K (G.atE a e dd) μ H xs vs
  | [], _, h => h
  | x :: xs, _, h => by
    obtain ⟨y, r, e, h1, h2⟩ := h
    exact ⟨y, r, e, rv_up h0 h1, rvs_up h0 h2⟩
end
mutual
theorem rv_dn : ∀ {x : IV} {v : V}, noErr x = true → RV K (G.atE a e dd) μ H x v → RV K G μ H x v
  | .non, _, _, h => h
  | .bl _, _, _, h => h
  | .int _, _, _, h => h
  | .str _, _, _, h => h
  | .tup xs, _, n, h => by
    obtain ⟨b, ys, e, q, r⟩ := h
    exact ⟨b, ys, e, q, rvs_dn n r⟩
  | .kls xs, _, n, h => by
    obtain ⟨b, ys, e, q, r⟩ := h
    exact ⟨b, ys, e, q, rvs_dn n r⟩
  | .ref i, _, _, h => h
  | .err, _, n, _ => by cases n
  | .act, _, _, h => h
  | .kdc ks xs, _, n, h => by
    obtain ⟨b, ys, e, q, r⟩ := h
    exact ⟨b, ys, e, q, rvs_dn n r⟩
theorem rvs_dn : ∀ {xs : List IV} {vs : List V}, noErrs xs = true → RVs K (G.atE a e dd) μ H xs vs → RVs K G μ H xs vs
  | [], _, _, h => h
  | x :: xs, _, n, h => by
    obtain ⟨y, r, e, h1, h2⟩ := h
    obtain ⟨n1, n2⟩ := two (show (noErr x && noErrs xs) = true from n)
    exact ⟨y, r, e, rv_dn n1 h1, rvs_dn n2 h2⟩
end
theorem rf_up (h0 : G.ex = none) : ∀ {fs : List (Nat × IV)} {gs : List (Str × V)}, RF K G μ H fs gs → RF K (G.atE a e dd) μ H fs gs
  | [], _, h => h
  | (f, x) :: fs, _, h => by
    obtain ⟨y, r, e, h1, h2⟩ := h
    exact ⟨y, r, e, rv_up h0 h1, rf_up h0 h2⟩
theorem rf_dn : ∀ {fs : List (Nat × IV)} {gs : List (Str × V)}, noErrF fs = true → RF K (G.atE a e dd) μ H fs gs → RF K G μ H fs gs
  | [], _, _, h => h
  | (f, x) :: fs, _, n, h => by
    obtain ⟨y, r, e, h1, h2⟩ := h
    obtain ⟨n1, n2⟩ := two (show (noErr x && noErrF fs) = true from n)
    exact ⟨y, r, e, rv_dn n1 h1, rf_dn n2 h2⟩
theorem rd_up (h0 : G.ex = none) : ∀ {fs : List (L2.Key × IV)} {gs : List (L2.Key × V)}, RD K G μ H fs gs → RD K (G.atE a e dd) μ H fs gs
  | [], _, h => h
  | (f, x) :: fs, _, h => by
    obtain ⟨y, r, e, h1, h2⟩ := h
    exact ⟨y, r, e, rv_up h0 h1, rd_up h0 h2⟩
theorem rd_dn : ∀ {fs : List (L2.Key × IV)} {gs : List (L2.Key × V)}, noErrD fs = true → RD K (G.atE a e dd) μ H fs gs → RD K G μ H fs gs
  | [], _, _, h => h
  | (f, x) :: fs, _, n, h => by
    obtain ⟨y, r, e, h1, h2⟩ := h
    obtain ⟨n1, n2⟩ := two (show (noErr x && noErrD fs) = true from n)
    exact ⟨y, r, e, rv_dn n1 h1, rd_dn n2 h2⟩
theorem rp_up (h0 : G.ex = none) {h : Hpi} {u : V} (r : Rp K G μ h H) (hd : H dd = some (.xd [(G.xN e.c, u)])) (hm : dd ∉ μ) (q : RV K G μ H e.v u) : Rp K (G.atE a e dd) μ h H :=
  ⟨r.len, r.nd, fun i b c e1 e2 => by
    have z := r.at_ i b c e1 e2
    cases c with
    | lst xs => obtain ⟨ys, h1, h2⟩ := z; exact ⟨ys, h1, rvs_up h0 h2⟩
    | dct kvs => obtain ⟨gs, h1, h2⟩ := z; exact ⟨gs, h1, rd_up h0 h2⟩
    | ins c fs => obtain ⟨dx, gs, h1, h2⟩ := z; exact ⟨dx, gs, h1, rf_up h0 h2⟩, r.tabs, fun e' dd' he => by
    have he : some (e, dd) = some (e', dd') := he
    cases he
    exact ⟨u, hd, hm, rv_up h0 q⟩, r.lamq⟩
theorem rp_dn (h0 : G.ex = none) {h : Hpi} (n : noErrH h = true) (r : Rp K (G.atE a e dd) μ h H) : Rp K G μ h H :=
  ⟨r.len, r.nd, fun i b c e1 e2 => by
    have z := r.at_ i b c e1 e2
    have nc : noErrC c = true := List.all_eq_true.mp n c (List.mem_of_getElem? e2)
    cases c with
    | lst xs => obtain ⟨ys, h1, h2⟩ := z; exact ⟨ys, h1, rvs_dn nc h2⟩
    | dct kvs => obtain ⟨gs, h1, h2⟩ := z; exact ⟨gs, h1, rd_dn nc h2⟩
    | ins c fs => obtain ⟨dx, gs, h1, h2⟩ := z; exact ⟨dx, gs, h1, rf_dn nc h2⟩, r.tabs, (fun e' dd' he => by rw [h0] at he; cases he), r.lamq⟩
theorem rl_up (h0 : G.ex = none) {ℓ : Loc} {σ : LSt} (l : RL K G μ H ℓ σ) : RL K (G.atE a e dd) μ H ℓ σ :=
  ⟨l.1, fun i x e => let ⟨v, e1, q⟩ := l.2 i x e; ⟨v, e1, rv_up h0 q⟩⟩
theorem rl_dn {ℓ : Loc} {σ : LSt} (n : noErrL ℓ = true) (l : RL K (G.atE a e dd) μ H ℓ σ) : RL K G μ H ℓ σ :=
  ⟨l.1, fun i x e => let ⟨v, e1, q⟩ := l.2 i x e; ⟨v, e1, rv_dn (by
    have := List.all_eq_true.mp n (some x) (List.mem_of_getElem? e)
    exact this) q⟩⟩
end
end MP
set_option maxRecDepth 100000
set_option maxHeartbeats 4000000
/-! MPn3: the helper's side of a handed lambda: a lambda held, or not held. -/
namespace MP
open PySem PySem.Spec PyProof.Rows
open L2 (V HO Hp upd RelV Vals VK CallR Cx Zc Inv)
def PEnv.atL (G : PEnv) (i : LaI) : PEnv := { G with la := some i }
section
variable {K : PySem.W.Frag} {G : PEnv} {μ : Emb} {H : Hp} {a : LaI}
mutual
theorem lv_up (h0 : G.la = none) : ∀ {x : IV} {v : V}, RV K G μ H x v → RV K (G.atL a) μ H x v
  | .non, _, h => h
  | .bl _, _, h => h
  | .int _, _, h => h
  | .str _, _, h => h
  | .tup xs, _, h => by
    obtain ⟨b, ys, e, q, r⟩ := h
    exact ⟨b, ys, e, q, lvs_up h0 r⟩
  | .kls xs, _, h => by
    obtain ⟨b, ys, e, q, r⟩ := h
    exact ⟨b, ys, e, q, lvs_up h0 r⟩
  | .ref i, _, h => h
  | .err, _, h => h
  | .kdc ks xs, _, h => by
    obtain ⟨b, ys, e, q, r⟩ := h
    exact ⟨b, ys, e, q, lvs_up h0 r⟩
  | .act, _, h => by
    obtain ⟨i, e, _⟩ := h
    rw [h0] at e
    cases e
theorem lvs_up (h0 : G.la = none) : ∀ {xs : List IV} {vs : List V}, RVs K G μ H xs vs → RVs K (G.atL a) μ H xs vs
  | [], _, h => h
  | x :: xs, _, h => by
    obtain ⟨y, r, e, h1, h2⟩ := h
    exact ⟨y, r, e, lv_up h0 h1, lvs_up h0 h2⟩
end
mutual
theorem lv_dn : ∀ {x : IV} {v : V}, noAct x = true → RV K (G.atL a) μ H x v → RV K G μ H x v
  | .non, _, _, h => h
  | .bl _, _, _, h => h
  | .int _, _, _, h => h
  | .str _, _, _, h => h
  | .tup xs, _, n, h => by
    obtain ⟨b, ys, e, q, r⟩ := h
    exact ⟨b, ys, e, q, lvs_dn n r⟩
  | .kls xs, _, n, h => by
    obtain ⟨b, ys, e, q, r⟩ := h
    exact ⟨b, ys, e, q, lvs_dn n r⟩
  | .ref i, _, _, h => h
  | .err, _, _, h => h
  | .act, _, n, _ => by cases n
  | .kdc ks xs, _, n, h => by
    obtain ⟨b, ys, e, q, r⟩ := h
    exact ⟨b, ys, e, q, lvs_dn n r⟩
theorem lvs_dn : ∀ {xs : List IV} {vs : List V}, noActs xs = true → RVs K (G.atL a) μ H xs vs → RVs K G μ H xs vs
  | [], _, _, h => h
  | x :: xs, _, n, h => by
    obtain ⟨y, r, e, h1, h2⟩ := h
    obtain ⟨n1, n2⟩ := two (show (noAct x && noActs xs) = true from n)
    exact ⟨y, r, e, lv_dn n1 h1, lvs_dn n2 h2⟩
end
theorem lf_up (h0 : G.la = none) : ∀ {fs : List (Nat × IV)} {gs : List (Str × V)}, RF K G μ H fs gs → RF K (G.atL a) μ H fs gs
  | [], _, h => h
  | (f, x) :: fs, _, h => by
    obtain ⟨y, r, e, h1, h2⟩ := h
    exact ⟨y, r, e, lv_up h0 h1, lf_up h0 h2⟩
theorem lf_dn : ∀ {fs : List (Nat × IV)} {gs : List (Str × V)}, noActF fs = true → RF K (G.atL a) μ H fs gs → RF K G μ H fs gs
  | [], _, _, h => h
  | (f, x) :: fs, _, n, h => by
    obtain ⟨y, r, e, h1, h2⟩ := h
    obtain ⟨n1, n2⟩ := two (show (noAct x && noActF fs) = true from n)
    exact ⟨y, r, e, lv_dn n1 h1, lf_dn n2 h2⟩
theorem ld_up (h0 : G.la = none) : ∀ {fs : List (L2.Key × IV)} {gs : List (L2.Key × V)}, RD K G μ H fs gs → RD K (G.atL a) μ H fs gs
  | [], _, h => h
  | (f, x) :: fs, _, h => by
    obtain ⟨y, r, e, h1, h2⟩ := h
    exact ⟨y, r, e, lv_up h0 h1, ld_up h0 h2⟩
theorem ld_dn : ∀ {fs : List (L2.Key × IV)} {gs : List (L2.Key × V)}, noActD fs = true → RD K (G.atL a) μ H fs gs → RD K G μ H fs gs
  | [], _, _, h => h
  | (f, x) :: fs, _, n, h => by
    obtain ⟨y, r, e, h1, h2⟩ := h
    obtain ⟨n1, n2⟩ := two (show (noAct x && noActD fs) = true from n)
    exact ⟨y, r, e, lv_dn n1 h1, ld_dn n2 h2⟩
/-! with nothing held -/
mutual
theorem ov_up (h0 : G.la = none) (h1 : G.ex = none) : ∀ {x : IV} {v : V}, RV K G μ H x v → RV K G.off μ H x v
  | .non, _, h => h
  | .bl _, _, h => h
  | .int _, _, h => h
  | .str _, _, h => h
  | .tup xs, _, h => by
    obtain ⟨b, ys, e, q, r⟩ := h
    exact ⟨b, ys, e, q, ovs_up h0 h1 r⟩
  | .kls xs, _, h => by
    obtain ⟨b, ys, e, q, r⟩ := h
    exact ⟨b, ys, e, q, ovs_up h0 h1 r⟩
  | .ref i, _, h => h
  | .err, _, h => absurd h1 h.1
  | .kdc ks xs, _, h => by
    obtain ⟨b, ys, e, q, r⟩ := h
    exact ⟨b, ys, e, q, ovs_up h0 h1 r⟩
  | .act, _, h => by
    obtain ⟨i, e, _⟩ := h
    rw [h0] at e
    cases e
theorem ovs_up (h0 : G.la = none) (h1 : G.ex = none) : ∀ {xs : List IV} {vs : List V}, RVs K G μ H xs vs → RVs K G.off μ H xs vs
  | [], _, h => h
  | x :: xs, _, h => by
    obtain ⟨y, r, e, k1, k2⟩ := h
    exact ⟨y, r, e, ov_up h0 h1 k1, ovs_up h0 h1 k2⟩
end
mutual
theorem ov_dn : ∀ {x : IV} {v : V}, RV K G.off μ H x v → RV K G μ H x v
  | .non, _, h => h
  | .bl _, _, h => h
  | .int _, _, h => h
  | .str _, _, h => h
  | .tup xs, _, h => by
    obtain ⟨b, ys, e, q, r⟩ := h
    exact ⟨b, ys, e, q, ovs_dn r⟩
  | .kls xs, _, h => by
    obtain ⟨b, ys, e, q, r⟩ := h
    exact ⟨b, ys, e, q, ovs_dn r⟩
  | .ref i, _, h => h
  | .err, _, h => absurd rfl h.1
  | .kdc ks xs, _, h => by
    obtain ⟨b, ys, e, q, r⟩ := h
    exact ⟨b, ys, e, q, ovs_dn r⟩
  | .act, _, h => by
    obtain ⟨i, e, _⟩ := h
    cases e
theorem ovs_dn : ∀ {xs : List IV} {vs : List V}, RVs K G.off μ H xs vs → RVs K G μ H xs vs
  | [], _, h => h
  | x :: xs, _, h => by
    obtain ⟨y, r, e, k1, k2⟩ := h
    exact ⟨y, r, e, ov_dn k1, ovs_dn k2⟩
end
theorem ol_up (h0 : G.la = none) (h1 : G.ex = none) {ℓ : Loc} {σ : LSt} (l : RL K G μ H ℓ σ) : RL K G.off μ H ℓ σ :=
  ⟨l.1, fun i x e => let ⟨v, e1, q⟩ := l.2 i x e; ⟨v, e1, ov_up h0 h1 q⟩⟩
theorem ol_dn {ℓ : Loc} {σ : LSt} (l : RL K G.off μ H ℓ σ) : RL K G μ H ℓ σ :=
  ⟨l.1, fun i x e => let ⟨v, e1, q⟩ := l.2 i x e; ⟨v, e1, ov_dn q⟩⟩
theorem lp_up (h0 : G.la = none) (h1 : G.ex = none) {h : Hpi} (r : Rp K G μ h H) (hd : H a.c = some (LamX.CodeO a.c a.q)) (hm : a.c ∉ μ) (hl : RL K G.off μ H a.l a.s) : Rp K (G.atL a) μ h H :=
  ⟨r.len, r.nd, fun i b c e1 e2 => by
    have z := r.at_ i b c e1 e2
    cases c with
    | lst xs => obtain ⟨ys, h1, h2⟩ := z; exact ⟨ys, h1, lvs_up h0 h2⟩
    | dct kvs => obtain ⟨gs, h1, h2⟩ := z; exact ⟨gs, h1, ld_up h0 h2⟩
    | ins c fs => obtain ⟨dx, gs, h1, h2⟩ := z; exact ⟨dx, gs, h1, lf_up h0 h2⟩, r.tabs, (fun e' dd' he => by
    have he : G.ex = some (e', dd') := he
    rw [h1] at he; cases he), fun i he => by
    have he : some a = some i := he
    cases he
    exact ⟨hd, hm, hl⟩⟩
theorem lp_dn (h0 : G.la = none) (h1 : G.ex = none) {h : Hpi} (n : noActH h = true) (r : Rp K (G.atL a) μ h H) : Rp K G μ h H :=
  ⟨r.len, r.nd, fun i b c e1 e2 => by
    have z := r.at_ i b c e1 e2
    have nc : noActC c = true := List.all_eq_true.mp n c (List.mem_of_getElem? e2)
    cases c with
    | lst xs => obtain ⟨ys, h1, h2⟩ := z; exact ⟨ys, h1, lvs_dn nc h2⟩
    | dct kvs => obtain ⟨gs, h1, h2⟩ := z; exact ⟨gs, h1, ld_dn nc h2⟩
    | ins c fs => obtain ⟨dx, gs, h1, h2⟩ := z; exact ⟨dx, gs, h1, lf_dn nc h2⟩, r.tabs, (fun e' dd' he => by rw [h1] at he; cases he), (fun i he => by rw [h0] at he; cases he)⟩
end
end MP
set_option maxRecDepth 100000
set_option maxHeartbeats 4000000
/-! MPo: statements that are a text's; bodies; calls. -/
namespace MP
open PySem PySem.Spec PyProof.Rows
open L2 (V HO Hp upd SqL SqT Rd upd_same upd_ne RelV Vals ne_of_none R2 OpR VK XK CallR IxR PSet MtR Cx TruV TE TT TA TI TG TS WX PE PT PW PA PK PI PG PGs PTs PS PSs PMk Ends It Itl Itt Itr tOp tC tVar tTup tLst tNil tCons tCB tBM tNotT tAndT tOrT tIf tChain tTest tAnd tOr tNot Gl Inv EP TP SP thn wipe Vis Loc BlkOk Takes Room Env0 Sp FnScope cxOf start CR)
theorem chain_if {c1 c2 c3 c4 c5 : Bool} {n : List Str} {u : Sem (Option (List Str))} {r : Option (List Str)}
    (h : (if c1 = true then some none else if c2 = true then some none else if c3 = true then some none else if c4 = true then some none else if c5 = true then none else some (some n)) = some r) :
    (if c1 = true then pure none else if c2 = true then pure none else if c3 = true then pure none else if c4 = true then pure none else if c5 = true then u else pure (some n) : Sem (Option (List Str))) = pure r := by
  cases c1 <;> cases c2 <;> cases c3 <;> cases c4 <;> cases c5 <;> simp at h ⊢ <;> (try rw [h]) <;> (try subst h) <;> rfl
theorem swapP_ok {env : Env} {ts vs : List Expr} {r : Option (List Str)} {k k' : Nat} {p p' : Pos} (h : swapP env.scope ts vs = some r) : swappedStores [.Tuple ts k p] (.Tuple vs k' p') env = pure r := chain_if h
theorem nswap_ok {env : Env} {tg v : Expr} (h : nswap env.scope tg v = true) : swappedStores [tg] v env = pure none := by
  unfold nswap at h
  split at h
  · exact swapP_ok (of_decide_eq_true h)
  · cases h
  · rename_i h1 h2
    cases tg <;> cases v <;> first | rfl | exact absurd rfl (h1 _ _ _ _ _ _ rfl) | exact (h2 _ _ _ _ _ rfl rfl).elim | exact (h1 _ _ _ _ _ _ rfl rfl).elim
theorem noSwapW_ok {env : Env} {tg v : Expr} {l : Nat} (h : noSwapW env.scope tg v = true) : swapsWith v (some tg) l env = pure false := by
  unfold noSwapW at h
  split at h
  · split at h
    · rename_i x p
      have e : (env.kindOf x == some .local) = false := by simpa [Env.kindOf] using h
      show (pure (env.blockKind == .function && env.kindOf x == some .local && _ && _) : Sem Bool) = _
      rw [e]
      simp
    · rename_i h1
      cases tg <;> first | rfl | exact (h1 _ _ rfl).elim
  · cases h
  · cases h
  · rename_i h1 h2 h3
    cases v <;> first | rfl | exact (h1 _ _ _ _ rfl).elim | exact (h2 _ _ _ _ rfl).elim | exact (h3 _ _ _ _ _ rfl).elim
theorem noComp_ok {env : Env} {v : Expr} {t : Option Expr} {l : Nat} (h : noComp v = true) : swapsWith v t l env = pure false := by
  cases v <;> first | rfl | cases h
theorem lcSwap_ok {env : Env} {x : Str} {p pos : Pos} {scope : Scope} {e : Expr} {gs : List Comprehension} {l : Nat} (hk : env.scope.kind = .function) (h : lcSwap env.scope x p pos scope = true) : swapsWith (.ListComp e gs scope pos) (some (.Name x p)) l env = pure true := by
  obtain ⟨h1, h2⟩ := two h
  obtain ⟨h2, h3⟩ := two h2
  have e0 : (env.blockKind == ScopeKind.function) = true := by unfold Env.blockKind; rw [hk]; rfl
  have e1 : (env.kindOf x == some .local) = true := h1
  show (pure (env.blockKind == .function && env.kindOf x == some .local && p.line == pos.line && !(scope.names.any fun (n, k) => n == x && (k == .local || k == .cell))) : Sem Bool) = _
  rw [e0, e1, h2, h3]
  rfl
section
variable {S : SI} {xn : List Str} {G : PEnv} {F : Cfg} {C : CSp} {W : WX} {d : Nat} {fA : Nat → Addr} {fdF : Nat → FuncData} {psF : Nat → List Str} {X : Cx}
/-- a class of errors, called with one thing in a raise -/
def RaiseOk (X : Cx) (G : PEnv) (xn : List Str) : Prop := ∀ (c : Nat) (x : Str), xn[c]? = some x → ∀ {e : Expr} {te : TE} {p pos : Pos}, Gl X x → noStar e = true → PE X e te →
  PMk X (.Call (.Name x p) [e] [] pos) (fun σ H Q => te σ H fun v H1 => ∀ dd, H1 dd = none → Q (.ref (G.cA c)) (some dd) (upd H1 dd (.xd [(G.xN c, v)])))
theorem tms_raise {n : Nat} {c : Nat} {e : ME} {D : Ends} {σ : LSt} {H : Hp} {K : PySem.W.Frag} (h : TMS K G C W (evS F (n + 1) (.raise c e)) D σ H) :
    TM K G C W (evE F n e) σ H fun v H1 => ∀ dd, H1 dd = none → W (.ref (G.cA c)) (some dd) σ (upd H1 dd (.xd [(G.xN c, v)])) := by
  obtain ⟨μ, ℓ, hh, Dm, P, r, l, w, cd⟩ := h
  refine TM.step r l w (fun e h1 μ1 H1 cls d s1 r1 q1 w1 => cd.ex e ℓ h1 μ1 H1 σ cls d s1 r1 (s1.rl l) q1 w1) fun v h1 μ1 H1 x s1 r1 l1 q1 hx1 w1 => fun dd hdd => ?_
  have sf : Stp μ1 H1 μ1 (upd H1 dd (.xd [(G.xN c, x)])) := Stp.fresh hdd
  exact cd.ex ⟨c, v⟩ ℓ h1 μ1 _ σ _ _ (s1.tr r1 sf) (r1.fresh hdd) (sf.rl l1) ⟨rfl, dd, x, rfl, upd_same, r1.free hdd, sf.rv q1⟩ w1
theorem rf_put {K : PySem.W.Frag} {μ : Emb} {H : Hp} {f : Nat} {v : IV} {x : V} (inj : ∀ f g, G.fN f = G.fN g → f = g) (q : RV K G μ H v x) : ∀ {fs : List (Nat × IV)} {gs : List (Str × V)}, RF K G μ H fs gs → RF K G μ H (setF f v fs) (L2.putF (G.fN f) x gs)
  | [], _, e => by
    have e : _ = [] := e
    rw [e]
    exact ⟨x, [], rfl, q, rfl⟩
  | (h, w) :: fs, _, e => by
    obtain ⟨y, r, rfl, q1, q2⟩ := e
    simp only [setF, L2.putF]
    by_cases hh : h = f
    · rw [if_pos hh, if_pos (by rw [hh])]
      exact ⟨x, r, rfl, q, q2⟩
    · rw [if_neg hh, if_neg (fun z => hh (inj h f z))]
      exact ⟨y, _, rfl, q1, rf_put inj q q2⟩
theorem rf_len {K : PySem.W.Frag} {μ : Emb} {H : Hp} : ∀ {fs : List (Nat × IV)} {gs : List (Str × V)}, RF K G μ H fs gs → fs.length = gs.length
  | [], _, e => by
    have e : _ = [] := e
    rw [e]; rfl
  | (h, w) :: fs, _, e => by
    obtain ⟨y, r, rfl, q1, q2⟩ := e
    simp [rf_len q2]
theorem tms_fld (g : GX S G F C W d fA fdF psF X) {n : Nat} {o v : ME} {f : Nat} {D : Ends} {σ : LSt} {H : Hp} (h : TMS X.K G C W (evS F (n + 2) (.asg (.attr o f) v)) D σ H) :
    L2.sFld X.K (fun σ H Q => ∃ n, TM X.K G C W (evE F n o) σ H Q) (fun σ H Q => ∃ n, TM X.K G C W (evE F n v) σ H Q) (G.fN f) D σ H := by
  obtain ⟨μ, ℓ, hh, Dm, P, r, l, w, c⟩ := h
  have w : Wp C (evE F (n + 1) v ℓ hh (fun y h1 => evG F (n + 1) (.attr o f) y ℓ h1 Dm.nx (fun _ _ => .stuck)) (Dm.ex ℓ)) P := w
  refine ⟨n + 1, TM.step r l w (fun e h1 μ1 H1 cls d s1 r1 q1 w1 => c.ex e ℓ h1 μ1 H1 σ cls d s1 r1 (s1.rl l) q1 w1) fun y h1 μ1 H1 yv s1 r1 l1 q1 hx1 w1 => ?_⟩
  refine ⟨n, TM.step r1 l1 w1 (fun e h1 μ1 H1 cls d s1 r1 q1 w1 => w1.elim) fun ov h2 μ2 H2 x s2 r2 l2 q2 hx2 w2 => ?_⟩
  cases ov with
  | ref i =>
    cases hc : h2[i]? with
    | none => simp only [hc] at w2; exact w2.elim
    | some cc =>
      cases cc with
      | lst _ => simp only [hc] at w2; exact w2.elim
      | dct _ => simp only [hc] at w2; exact w2.elim
      | ins k fs =>
        simp only [hc] at w2
        by_cases hb : (F.oka k f && decide (fs.length < 900)) = true
        · rw [if_pos hb] at w2
          obtain ⟨b1, b2⟩ := two hb
          obtain ⟨a, rfl, hi⟩ := q2
          obtain ⟨dx, gs, e1, qf⟩ := r2.at_ i a _ hi hc
          obtain ⟨c1, c2⟩ := g.attr k f b1
          refine ⟨a, _, dx, gs, rfl, e1, c1, c2, by have := of_decide_eq_true b2; rw [← rf_len qf]; omega, ?_⟩
          have sw : Stp μ2 H2 μ2 (upd H2 a (.ins (G.cA k) dx (L2.putF (G.fN f) yv gs))) := Stp.write (List.mem_of_getElem? hi) e1 (fun _ z => by cases z)
          exact c.nx ℓ _ μ2 _ σ (s1.tr r1 (s2.tr r2 sw)) (r2.write hi e1 (fun _ z => by cases z) (fun _ z => by cases z) (show RC X.K G μ2 _ a (.ins k (setF f y fs)) from ⟨dx, _, upd_same, rf_put g.inj (sw.rv (s2.rv q1)) (sw.rf qf)⟩)) (sw.rl l2) w2
        · rw [if_neg hb] at w2
          exact w2.elim
  | _ => exact w2.elim
theorem ps_zero {st : Stmt} {s : MS} : PS X st (TMS X.K G C W (evS F 0 s)) := ⟨fun pins s σ H D I h => by obtain ⟨_, _, _, _, _, _, _, w, _⟩ := h; exact w.elim⟩
theorem pss_zero {st : List Stmt} {s : List MS} : PSs X st (TMS X.K G C W (evB F 0 s)) := ⟨fun pins s σ H D I h => by obtain ⟨_, _, _, _, _, _, _, w, _⟩ := h; exact w.elim⟩
theorem PS.imp {st : Stmt} {t t' : TS} (h : PS X st t) (w : ∀ D σ H, t' D σ H → t D σ H) : PS X st t' := ⟨fun pins s σ H D I q => h.run pins s σ H D I (w D σ H q)⟩
theorem PSs.imp {st : List Stmt} {t t' : TS} (h : PSs X st t) (w : ∀ D σ H, t' D σ H → t D σ H) : PSs X st t' := ⟨fun pins s σ H D I q => h.run pins s σ H D I (w D σ H q)⟩
theorem pss_ex {st : List Stmt} {b : List MS} (h : ∀ n, PSs X st (TMS X.K G C W (evB F n b))) : PSs X st (AnyS X.K G C W F b) := ⟨fun pins s σ H D I ⟨n, q⟩ => (h n).run pins s σ H D I q⟩
theorem pt_ex {e : Expr} {b : ME} (h : ∀ n, PT X e (TMT X.K G C W (evE F n b))) : PT X e (AnyT X.K G C W F b) := ⟨fun pins s σ H D I ⟨n, q⟩ => (h n).run pins s σ H D I q⟩
/-- the frame of statements -/
structure StOk (S : SI) (xn : List Str) (G : PEnv) (X : Cx) : Prop where
  top : TopOk true X
  stk : X.stack = X.env :: X.outer
  frm : X.env.frame = some X.env.locals
  ro : S.calm = true → ∀ pn xe, RaiseOk (X.tr pn xe) G xn
def ctS (S : SI) (xn : List Str) (G : PEnv) (F : Cfg) (C : CSp) (d : Nat) (fA : Nat → Addr) (fdF : Nat → FuncData) (psF : Nat → List Str) (j : Nat) : Prop :=
  ∀ {X : Cx} {W : WX}, GX S G F C W d fA fdF psF X → StOk S xn G X → ∀ {s : MS} {st : Stmt}, okS S xn X.N j X.env.scope s st = true → ∀ n, PS X st (TMS X.K G C W (evS F n s))
def ctB (S : SI) (xn : List Str) (G : PEnv) (F : Cfg) (C : CSp) (d : Nat) (fA : Nat → Addr) (fdF : Nat → FuncData) (psF : Nat → List Str) (j : Nat) : Prop :=
  ∀ {X : Cx} {W : WX}, GX S G F C W d fA fdF psF X → StOk S xn G X → ∀ {s : List MS} {st : List Stmt}, okB S xn X.N j X.env.scope s st = true → ∀ n, PSs X st (TMS X.K G C W (evB F n s))
theorem ct_b {j : Nat} (A : ctS S xn G F C d fA fdF psF j) (B : ctB S xn G F C d fA fdF psF j) : ctB S xn G F C d fA fdF psF (j + 1) := fun {X} {W} g so {s} {st} h n => by
  cases n with
  | zero => exact pss_zero
  | succ n =>
    cases s with
    | nil =>
      cases st with
      | nil => exact PSs.imp L2.pss_nil fun D σ H q => tmb_nil q
      | cons _ _ => exact absurd h Bool.false_ne_true
    | cons s ss =>
      cases st with
      | nil => exact absurd h Bool.false_ne_true
      | cons st sts =>
        obtain ⟨h1, h2⟩ := two h
        exact PSs.imp (L2.pss_cons (A g so h1 n) (B g so h2 n)) fun D σ H q => tmb_cons q
theorem tr_fit (g : GX S G F C W d fA fdF psF X) (hS : S.calm = true) {W' : WX} {pn : List (Addr × Obj)} {xe : Value → Shared → Prop} (tk : Takes (X.tr pn xe) W') (po : PassesOwn (model X.prog X.w) X.A X.env xe) : GX S G F C W' d fA fdF psF (X.tr pn xe) where
  calm := g.calm
  takes := tk
  passes := po
  room := g.room
  un := g.un
  gds := g.gds
  nd := g.nd
  call := g.call
  fn := g.fn
  pat := g.pat
  cts := g.cts
  free := g.free
  attr := g.attr
  fld := g.fld
  inj := g.inj
  fnk := g.fnk
  xfn := g.xfn
  subq := g.subq
  clq := g.clq
  exn := g.exn
  callP := g.callP
  lamq := g.lamq
  kdq := g.kdq
  hlp := g.hlp
  errq := fun z => by rw [hS] at z; cases z
  actq := fun ha {x p1 p2 pn' xe' W''} h1 h2 h3 h4 h5 => g.actq ha h1 h2 h3 h4 h5
theorem suite_fit (g : GX S G F C W d fA fdF psF X) (hS : S.calm = true) {a dd : Addr} {oe : Obj} {pn : List (Addr × Obj)} {e : Exn} (hz : L2.Zc (.ref (G.cA e.c)) (some dd) oe) (hv : ∃ vs, oe.data = .fields vs) :
    GX { S with calm := false, act := false, lam := false } (G.atE a e dd) { F with err := some e } C F0 d fA fdF psF (X.suite a ((a, oe) :: pn)) where
  calm := fun z => by cases z
  takes := fun u s' ⟨_, _, _, _, _, _, _, _, _, _, _, _, _, _, _, _, w⟩ => w.elim
  passes := PassesOwn.never
  room := fun z => by cases z
  un := g.un
  gds := g.gds
  nd := g.nd
  call := fun z => by cases z
  fn := g.fn
  pat := g.pat
  cts := fun k x h => let ⟨u, iv, v, h1, h2, h3, h4⟩ := g.cts k x h; ⟨u, iv, v, h1, h2, h3, fun μ H => rv_up (g.exn hS) (h4 μ H)⟩
  free := g.free
  attr := g.attr
  fld := g.fld
  inj := g.inj
  fnk := g.fnk
  xfn := g.xfn
  subq := g.subq
  clq := g.clq
  exn := fun z => by cases z
  callP := fun z => by cases z
  lamq := fun z => by cases z
  kdq := g.kdq
  hlp := fun z => by cases z
  actq := fun z => by cases z
  errq := fun _ e' he => by
    cases he
    refine ⟨fun {i x p pos f} hi hvs d1 d2 hf => ?_, fun {i x y c b p p1 p2 pos} hi hvs d1 d2 hc hb hgy hgi => ?_⟩
    · obtain ⟨_, x2, x3⟩ := g.xfn _ _ hf
      refine PE.imp (L2.pe_xf (X := X) (pn := pn) x2 x3 hz hv (L2.pe_var (X := X.suite a ((a, oe) :: pn)) (pos := p) hi hvs d1 d2)) fun σ H Q q => ?_
      obtain ⟨μ, ℓ, hh, k, kx, P, r, l, w, hk, hx⟩ := q
      dsimp only at w
      cases hl : getSl ℓ i with
      | none => rw [hl] at w; exact w.elim
      | some z =>
        cases z with
        | err =>
          rw [hl] at w
          have e2 : ℓ[i]? = some (some .err) := by
            unfold getSl at hl
            split at hl
            · cases hl; assumption
            · cases hl
          obtain ⟨v, e3, _, rfl⟩ := l.2 i .err e2
          obtain ⟨u, hdd, _, qu⟩ := r.exq e dd rfl
          exact ⟨_, e3, rfl, rfl, dd, _, u, rfl, hdd, by simp [List.lookup, PEnv.atE], hk e.v hh μ H u Stp.refl r qu w⟩
        | _ => rw [hl] at w; exact w.elim
    · obtain ⟨_, k2, k3⟩ := g.subq _ _ _ hb
      obtain ⟨hm, hdb⟩ := g.clq c y hc
      have pa := L2.pa_cons (L2.pe_var (X := X.suite a ((a, oe) :: pn)) (pos := p1) hi hvs d1 d2) (L2.pa_cons (L2.pe_glob (X := X.suite a ((a, oe) :: pn)) (pos := p2) (v := .ref (G.cA c)) hgy hm rfl hdb) L2.pa_nil (star_cons [] rfl)) (star_cons _ rfl)
      refine PE.imp (L2.pe_callB (X := X.suite a ((a, oe) :: pn)) (pos := pos) (p := p) (call_isD (X := X) (pn := pn) k3 hz hv) hgi (g.free _ (by decide)) b_isi pa (by decide) (by decide) (star_cons _ rfl) (star_any rfl)) fun σ H Q q => ?_
      obtain ⟨μ, ℓ, hh, k, kx, P, r, l, w, hk, hx⟩ := q
      dsimp only at w
      cases hl : getSl ℓ i with
      | none => rw [hl] at w; exact w.elim
      | some z =>
        cases z with
        | err =>
          rw [hl] at w
          have e2 : ℓ[i]? = some (some .err) := by
            unfold getSl at hl
            split at hl
            · cases hl; assumption
            · cases hl
          obtain ⟨v, e3, _, rfl⟩ := l.2 i .err e2
          obtain ⟨u, hdd, _, qu⟩ := r.exq e dd rfl
          exact ⟨_, e3, G.cA c, b, _, rfl, hdd, k2, hk (.bl b) hh μ H (.bl b) Stp.refl r rfl w⟩
        | _ => rw [hl] at w; exact w.elim
/-- the body of a lambda -/
theorem lam_fit (g : GX S G F C W d fA fdF psF X) (hS : S.calm = true) (hL : S.lam = true) {A : Around} {outer : List Env} {s : Shared} {H : Hp} {E : XK} {scope : Scope} {f c' : Addr} (L : LamX.LamS X.env.scope scope) (hr : Room (d - 2) (A.deeper (LamX.lamEnv X scope s.heap.objs.size f c'))) :
    GX S.pkg G F C (fun cls dd _ H => E cls dd H) (d - 2) fA fdF psF (LamX.lamCx X A outer s H E scope f c') where
  calm := fun _ => rfl
  takes := L2.takes_of rfl rfl rfl rfl
  passes := L2.passes_of rfl
  room := fun _ => ⟨hr, fun z => by cases z⟩
  un := by have := hr.un; show (A.deeper (LamX.lamEnv X scope s.heap.objs.size f c')).units + 100 < cLine; omega
  gds := fun z => by cases z
  nd := g.nd
  call := fun _ f x hf => ((g.callP hL).2 f x hf).2
  fn := fun f x hf => ((g.callP hL).2 f x hf).1
  pat := g.pat
  cts := g.cts
  free := g.free
  attr := g.attr
  fld := g.fld
  inj := g.inj
  fnk := L.kind
  xfn := g.xfn
  subq := g.subq
  clq := g.clq
  exn := fun _ => g.exn hS
  callP := fun z => by cases z
  lamq := fun z => by cases z
  kdq := g.kdq
  hlp := fun z => by cases z
  actq := fun z => by cases z
  errq := fun z => by cases z
/-- a handler's reading -/
def TSuite (K : PySem.W.Frag) (G : PEnv) (C : CSp) (F : Cfg) (hd : List MS) (a : Addr) (cls : Value) (d : Option Addr) : TS := fun D σ H =>
  ∃ (e : Exn) (dd : Addr) (m : Nat), cls = .ref (G.cA e.c) ∧ d = some dd ∧ TMS K (G.atE a e dd) C F0 (evB { F with err := some e } m hd) D σ H
theorem ct_try {j : Nat} (LM : LamH G C F d fA fdF psF S) (BB : ∀ (S : SI) (G : PEnv) (F : Cfg), LamH G C F d fA fdF psF S → ctB S xn G F C d fA fdF psF j) {X : Cx} {W : WX} (g : GX S G F C W d fA fdF psF X) (so : StOk S xn G X) (hS : S.calm = true) {c i : Nat} {x n : Str} {b hd : List MS} {body suite : List Stmt} {s0 : Stmt} {xp p1 p2 : Pos}
    (hc : S.cls[c]? = some x) (hg : Gl X x) (hi : X.N[i]? = some n) (hl : X.env.scope.names.lookup n = some .local) (hb : okB S xn X.N j X.env.scope b body = true) (hh : okB { S with calm := false, act := false, lam := false } xn X.N j X.env.scope hd (s0 :: suite) = true) (m : Nat) :
    PS X (.Try body [.ExceptHandler (some (.Name x xp)) (some n) (s0 :: suite) p1] [] [] p2) (TMS X.K G C W (evS F (m + 1) (.tryx c i b hd))) := by
  obtain ⟨hm, hdb⟩ := g.clq c x hc
  have hx0 := g.exn hS
  refine PS.imp (L2.ps_try_as (X := X) (tb := fun W' => TMS X.K G C W' (evB F m b)) (ts := TSuite X.K G C F hd) (Wout := W) so.stk so.frm g.nd hi hl ⟨hg, hdb, .inl hm⟩ g.takes
    (fun W' pn xe tk po => BB S G F LM (tr_fit g hS tk po) ⟨so.top, so.stk, so.frm, fun _ pn' xe' => so.ro hS pn' xe'⟩ hb m)
    (fun a oe cls dd pn hz hv => ⟨fun pins s σ H D I ⟨e, d2, k, e1, e2, q⟩ => ?_⟩)) fun D σ H q => ?_
  · subst e1 e2
    exact (BB { S with calm := false, act := false, lam := false } (G.atE a e d2) { F with err := some e } (fun z => by cases z) (suite_fit g hS hz hv) ⟨so.top, so.stk, so.frm, fun z => by cases z⟩ hh k).run pins s σ H D I q
  · obtain ⟨μ, ℓ, h0, Dm, P, r, l, w, cd⟩ := q
    refine ⟨μ, ℓ, h0, _, P, r, l, w, cd.nx, cd.bk, cd.ct, cd.rt, ?_⟩
    intro e ℓ1 h1 μ1 H1 σ1 cls d1 s1 r1 l1 qx w1
    obtain ⟨bb, eb, w2⟩ := wp_opt w1
    obtain ⟨rfl, dd, v, rfl, hdd, hnm, qv⟩ := qx
    refine ⟨bb, (g.subq e.c c bb eb).1, fun hbt a ha => ?_, fun hbf => ?_⟩
    · subst hbt
      have c1 := cd.on s1 r1
      refine ⟨e, dd, m, rfl, rfl, μ1, ℓ1.set i (some .err), h1, _, P, rp_up hx0 r1 hdd hnm qv, ?_, w2, ?_⟩
      · exact (rl_up hx0 l1).set ⟨(fun z => by cases z), rfl⟩
      · refine ⟨fun ℓ2 h2 μ2 H2 σ2 s2 r2 l2 w3 => ?_, fun ℓ2 h2 μ2 H2 σ2 s2 r2 l2 w3 => ?_, fun ℓ2 h2 μ2 H2 σ2 s2 r2 l2 w3 => ?_, fun v2 h2 μ2 H2 x2 s2 r2 q2 w3 => ?_, fun _ _ _ _ _ _ _ _ _ _ _ _ w3 => w3.elim⟩
        · dsimp only at w3
          by_cases hn : (noErrL (ℓ2.set i none) && noErrH h2) = true
          · rw [if_pos hn] at w3
            obtain ⟨n1, n2⟩ := two hn
            exact c1.nx _ h2 μ2 H2 _ s2 (rp_dn hx0 n2 r2) (rl_dn n1 l2.setN) w3
          · rw [if_neg hn] at w3
            exact w3.elim
        · dsimp only at w3
          by_cases hn : (noErrL (ℓ2.set i none) && noErrH h2) = true
          · rw [if_pos hn] at w3
            obtain ⟨n1, n2⟩ := two hn
            exact c1.bk _ h2 μ2 H2 _ s2 (rp_dn hx0 n2 r2) (rl_dn n1 l2.setN) w3
          · rw [if_neg hn] at w3
            exact w3.elim
        · dsimp only at w3
          by_cases hn : (noErrL (ℓ2.set i none) && noErrH h2) = true
          · rw [if_pos hn] at w3
            obtain ⟨n1, n2⟩ := two hn
            exact c1.ct _ h2 μ2 H2 _ s2 (rp_dn hx0 n2 r2) (rl_dn n1 l2.setN) w3
          · rw [if_neg hn] at w3
            exact w3.elim
        · dsimp only at w3
          by_cases hn : (noErr v2 && noErrH h2) = true
          · rw [if_pos hn] at w3
            obtain ⟨n1, n2⟩ := two hn
            exact c1.rt v2 h2 μ2 H2 x2 s2 (rp_dn hx0 n2 r2) (rv_dn n1 q2) w3
          · rw [if_neg hn] at w3
            exact w3.elim
    · subst hbf
      exact cd.ex e ℓ1 h1 μ1 H1 σ1 _ _ s1 r1 l1 ⟨rfl, dd, v, rfl, hdd, hnm, qv⟩ w2
theorem ct_s {j : Nat} (LM : LamH G C F d fA fdF psF S) (BB : ∀ (S : SI) (G : PEnv) (F : Cfg), LamH G C F d fA fdF psF S → ctB S xn G F C d fA fdF psF j) : ctS S xn G F C d fA fdF psF (j + 1) := fun {X} {W} g so {s} {st} h n => by
  have t := so.top
  have B : ctB S xn G F C d fA fdF psF j := BB S G F LM
  obtain ⟨ce, cl, ck, ci, cg, cgs, cq, co, cd⟩ := ct_all G C F d fA fdF psF j S LM
  cases n with
  | zero => exact ps_zero
  | succ n =>
    unfold okS at h
    split at h
    · -- a field
      obtain ⟨h1, h2⟩ := two h
      obtain ⟨h2, h3⟩ := two h2
      obtain ⟨h3, h4⟩ := two h3
      obtain ⟨h4, h5⟩ := two h4
      cases g.fld _ _ (of_decide_eq_true h2)
      cases n with
      | zero => exact ⟨fun pins s σ H D I h => by obtain ⟨_, _, _, _, _, _, _, w, _⟩ := h; exact w.elim⟩
      | succ n => exact PS.imp (L2.ps_fld (pe_ex (ce g t h4).1) (pe_ex (ce g t h5).1) (noComp_ok h3)) fun D σ H q => tms_fld g q
    · -- a comprehension
      rename_i i elt tg it ifs own x p e tge it' fs scope pos pos2
      obtain ⟨h1, h2⟩ := two h
      obtain ⟨h2, h3⟩ := two h2
      obtain ⟨hS, h3⟩ := two h3
      have hi := of_decide_eq_true h1
      by_cases hl : lcSwap X.env.scope x p pos scope = true
      · have h2 : ((S.calm && !S.act) && (L2.blkC X.N X.env.scope scope (zipN X.N own) && (decide ((zipN X.N own).map (·.2) = own) && (okI S X.N true j X.env.scope it it' && (okG S X.N false j (L2.relS scope X.env.scope) tg tge && (okQ S X.N j (L2.relS scope X.env.scope) ifs fs && (nmInE own tg && okE S X.N false j (L2.relS scope X.env.scope) elt e))))))) = true := h2
        obtain ⟨hS0, h2⟩ := two h2
        obtain ⟨k1, k2⟩ := two h2
        obtain ⟨k2, k3⟩ := two k2
        obtain ⟨k3, k4⟩ := two k3
        obtain ⟨k4, k5⟩ := two k4
        obtain ⟨k5, k6⟩ := two k5
        obtain ⟨k6, k7⟩ := two k6
        have ok := L2.blkOk_by k1
        obtain ⟨i1, i2⟩ := ci g t k3
        have ff : ∀ {Y : Cx}, TopOk false Y := fun z => by cases z
        have hloc : X.env.scope.names.lookup x = some .local := by
          obtain ⟨z, _⟩ := two hl
          exact beq_iff_eq.mp z
        cases n with
        | zero => exact ⟨fun pins s σ H D I h => by obtain ⟨_, _, _, _, _, _, _, w, _⟩ := h; exact w.elim⟩
        | succ n =>
          refine PS.imp (L2.ps_setLc (te := AnyE X.K G C F0 F elt) (g := AnyG X.K G C F tg) (tt := AnyQ X.K G C F ifs) (g.calm hS) g.nd hi hloc (lcSwap_ok g.fnk hl) (i2 _ n) ok (fun s H A cl fp => pg_ex (cg (blk_fit g hS0 s H scope A cl fp ok.kind) ff k4)) (fun s H A cl fp => cq (blk_fit g hS0 s H scope A cl fp ok.kind) k5)
            (fun s H A cl fp => pe_ex (ce (blk_fit g hS0 s H scope A cl fp ok.kind) ff k7).1) i1) fun D σ H q => ?_
          have q2 := tms_asg q
          rw [of_decide_eq_true k2]
          refine tm_comp (Q := fun x H1 => L2.gName i x σ H1 D.nx) ?_ k6
          obtain ⟨μ, ℓ, hh, k, kx, P, a1, a2, a3, a4, a5⟩ := q2
          exact ⟨μ, ℓ, hh, k, kx, P, a1, a2, a3, fun v h1 μ1 H1 x b1 b2 b3 b4 => tmg_name (a4 v h1 μ1 H1 x b1 b2 b3 b4), a5⟩
      · have hc : X.env.scope.names.lookup x = some .cell := by
          rcases Bool.or_eq_true_iff.mp h3 with z | z
          · exact absurd z hl
          · exact beq_iff_eq.mp z
        have h2' := (ct_e cd LM (fun d' => (ct_all G C F d' fA fdF psF j S.pkg (fun z => by cases z)).1) co ce cl ck ci cg cq g t h2).1
        cases n with
        | zero => exact ⟨fun pins s σ H D I h => by obtain ⟨_, _, _, _, _, _, _, w, _⟩ := h; exact w.elim⟩
        | succ n =>
          refine PS.imp (L2.ps_asg (h2' (n + 1)) (L2.pg_name g.nd hi (.inr hc) (.inl (t rfl _ hc))) (noSwapW_ok (l := pos2.line) (env := X.env) (tg := .Name x p) (v := .ListComp e [⟨tge, it', fs, 0⟩] scope pos) (by
            show (!(X.env.scope.names.lookup x == some .local)) = true
            rw [hc]; rfl)) rfl rfl) fun D σ H q => ?_
          have q2 := tms_asg q
          obtain ⟨μ, ℓ, hh, k, kx, P, a1, a2, a3, a4, a5⟩ := q2
          exact ⟨μ, ℓ, hh, k, kx, P, a1, a2, a3, fun v h1 μ1 H1 x b1 b2 b3 b4 => tmg_name (a4 v h1 μ1 H1 x b1 b2 b3 b4), a5⟩
    · obtain ⟨h1, h2⟩ := two h
      obtain ⟨h2, h3⟩ := two h2
      obtain ⟨h3, h4⟩ := two h3
      obtain ⟨h4, h5⟩ := two h4
      exact PS.imp (L2.ps_asg ((ce g t h5).1 n) (cg g t h4 n) (noSwapW_ok h3) (nswap_ok h2) (by rw [asg_each h1]; rfl)) fun D σ H q => tms_asg q
    · obtain ⟨hS, h⟩ := two h
      obtain ⟨h1, h2⟩ := two h
      obtain ⟨h2, h3⟩ := two h2
      obtain ⟨h3, h4⟩ := two h3
      obtain ⟨h4, h5⟩ := two h4
      obtain ⟨h5, h6⟩ := two h5
      obtain ⟨h6, h7⟩ := two h6
      exact PS.imp (L2.ps_par (g.calm hS) g.nd (of_decide_eq_true h1) (of_decide_eq_true h2) (of_decide_eq_true h3) (of_decide_eq_true h4) (of_decide_eq_true h5) ((cl g t h7).2.2 n) (swapP_ok (of_decide_eq_true h6)) rfl) fun D σ H q => tms_par2 q
    · obtain ⟨hS, h⟩ := two h
      obtain ⟨h1, h2⟩ := two h
      obtain ⟨h2, h3⟩ := two h2
      obtain ⟨h3, h4⟩ := two h3
      obtain ⟨h4, h5⟩ := two h4
      obtain ⟨h5, h6⟩ := two h5
      obtain ⟨h6, h7⟩ := two h6
      obtain ⟨h7, h8⟩ := two h7
      obtain ⟨h8, h9⟩ := two h8
      obtain ⟨h9, h10⟩ := two h9
      obtain ⟨h10, h11⟩ := two h10
      exact PS.imp (L2.ps_par3 (g.calm hS) g.nd (of_decide_eq_true h1) (of_decide_eq_true h2) (of_decide_eq_true h3) (of_decide_eq_true h4) (of_decide_eq_true h5) (of_decide_eq_true h6) (of_decide_eq_true h7) (of_decide_eq_true h8) (of_decide_eq_true h9) ((cl g t h11).2.2 n) (swapP_ok (of_decide_eq_true h10)) rfl) fun D σ H q => tms_par3 q
    · obtain ⟨h1, h2⟩ := two h
      exact PS.imp (L2.ps_expr ((ce g t h2).1 n) (noComp_ok h1)) fun D σ H q => tms_expr q
    · exact PS.imp L2.ps_doc fun D σ H q => tms_pass q
    · exact PS.imp L2.ps_pass fun D σ H q => tms_pass q
    · exact PS.imp L2.ps_break fun D σ H q => tms_brk q
    · exact PS.imp L2.ps_continue fun D σ H q => tms_cnt q
    · exact PS.imp (L2.ps_ret ((ce g t h).1 n)) fun D σ H q => tms_ret q
    · obtain ⟨h1, h2⟩ := two h
      obtain ⟨h2, h3⟩ := two h2
      exact PS.imp (L2.ps_if ((ce g t h1).2 n) (B g so h2 n) (B g so h3 n)) fun D σ H q => tms_if q
    · obtain ⟨hS, h⟩ := two h
      obtain ⟨h1, h2⟩ := two h
      obtain ⟨h2, h3⟩ := two h2
      obtain ⟨i1, i2⟩ := ci g t h1
      exact PS.imp (L2.ps_for g.passes (g.calm hS) (i2 _ n) (pg_ex (cg g t h2)) (pss_ex (B g so h3)) i1) fun D σ H q => tms_for q
    · obtain ⟨h1, h2⟩ := two h
      exact PS.imp (L2.ps_while g.passes (pt_ex (ce g t h1).2) (pss_ex (B g so h2))) fun D σ H q => tms_while q
    · exact ⟨fun pins s σ H D I h => by obtain ⟨_, _, _, _, _, _, _, w, _⟩ := h; exact w.elim⟩
    · obtain ⟨hS, h⟩ := two h
      obtain ⟨h1, h2⟩ := two h
      obtain ⟨h2, h3⟩ := two h2
      exact PS.imp (L2.ps_raise (g.calm hS) g.takes (so.ro hS X.pn X.xe _ _ (of_decide_eq_true h1) (gl_of h2).1 (okE_nostar h3) ((ce g t h3).1 n))) fun D σ H q => tms_raise q
    · obtain ⟨hS, h⟩ := two h
      obtain ⟨h1, h2⟩ := two h
      obtain ⟨h2, h3⟩ := two h2
      obtain ⟨h3, h4⟩ := two h3
      obtain ⟨h4, h5⟩ := two h4
      obtain ⟨h5, h6⟩ := two h5
      exact ct_try LM BB g so hS (of_decide_eq_true h1) (gl_of h2).1 (of_decide_eq_true h3) (of_decide_eq_true h4) h5 h6 n
    · cases h
theorem ct_sb (xn : List Str) (C : CSp) (d : Nat) (fA : Nat → Addr) (fdF : Nat → FuncData) (psF : Nat → List Str) : ∀ j (S : SI) (G : PEnv) (F : Cfg), LamH G C F d fA fdF psF S → ctS S xn G F C d fA fdF psF j ∧ ctB S xn G F C d fA fdF psF j
  | 0, _, _, _, _ => ⟨fun g so s st h => absurd h Bool.false_ne_true, fun g so s st h => absurd h Bool.false_ne_true⟩
  | j + 1, S, G, F, LM => by
    have ih := ct_sb xn C d fA fdF psF j
    exact ⟨ct_s LM fun S G F LM => (ih S G F LM).2, ct_b (ih S G F LM).1 (ih S G F LM).2⟩
end
end MP
set_option maxRecDepth 100000
set_option maxHeartbeats 4000000
/-! MPs: a helper called with a lambda. -/
namespace MP
open PySem PySem.Spec PyProof.Rows
open L2 (V HO Hp upd SqL SqT Rd upd_same upd_ne RelV Vals ne_of_none VK XK Cx TE WX PE PSs Ends Gl Inv Takes Vis Room Env0 FnScope cxOf start CR WE passAt thn)
section
variable {X : Cx} {pins : List (Addr × Obj)} {σ : LSt} {H : Hp} {s : Shared}
/-- act() in the helper Z: what leaves it is told at Z's own slots -/
theorem act_run {CXh : L2.CXT} {Eh : XK} {Nh : List Str} {qh : Str} {sh : Scope} {g f co : Addr} {cdh pm ctv : Value} {params : Arguments} {body : Expr} {scope : Scope} {k i : Nat} {nm : Str} {pn : List (Addr × Obj)} {xe : Value → Shared → Prop} {W : WX} {rd : XK → TE} {pa pb : Pos}
    (I : Inv X pins σ H s) (L : LamX.LamS X.env.scope scope)
    (hf : s.heap.get? f = some (PySem.W.kla_obj "<lambda>" (X.env.qual ++ "<lambda>") params body scope (L2.cloFrom X.env.cells scope.names []) pm co ctv)) (nf : H f = none) (nfr : f ∉ L2.frs X.stack)
    (bind : bindArgs (PySem.W.kla_fn "<lambda>" (X.env.qual ++ "<lambda>") params body scope (L2.cloFrom X.env.cells scope.names []) pm (.ref co) ctv) ⟨[], []⟩ = pure [])
    (tk : Takes ((cxOf CXh X.prog X.w X.K X.mg X.base Nh qh sh g cdh X.A X.stack s H Eh).tr pn xe) W) (hr : Room (k + 1) (X.A.deeper (PyProof.Rows.envOfC qh sh s.heap.objs.size g cdh)))
    (rb : ∀ (A : Around) (outer : List Env) (s : Shared) (H : Hp) (E : XK), Room k (A.deeper (LamX.lamEnv X scope s.heap.objs.size f co)) → PE (LamX.lamCx X A outer s H E scope f co) body (rd E))
    (hN : Nh[i]? = some nm) (hv : Vis sh nm) (d1 : (nm == ("__debug__" : Str)) = false) (d2 : (nm == ("__classdict__" : Str)) = false) :
    PE ((cxOf CXh X.prog X.w X.K X.mg X.base Nh qh sh g cdh X.A X.stack s H Eh).tr pn xe) (.Call (.Name nm pa) [] [] pb)
      (fun τ HZ Q => τ[i]? = some (some (.ref f)) ∧ HZ co = some (LamX.CodeO co (X.env.qual ++ "<lambda>")) ∧ rd (WE W τ) σ HZ Q) := by
  refine ⟨fun pinsZ sZ τ HZ Q IZ ⟨h1, h2, h3⟩ => wpAny_Call_Name_kw (thn ((L2.pe_var (pos := pa) (i := i) hN hv d1 d2).run pinsZ sZ τ HZ (fun v H1 => v = .ref f ∧ H1 = HZ) IZ ⟨.ref f, h1, rfl, rfl⟩) fun u sA hA => ?_)⟩
  obtain ⟨v, HA, IA, rA, e1, e2⟩ := hA
  subst e1
  subst e2
  cases (show u = Value.ref f from rA)
  have fA := IA.base.keep f _ hf nf nfr (fun z => nomatch (show f ∈ ([] : List Addr) from z))
  have un : L2.Un (L2.frs X.stack) [] H HA s.heap sA.heap := IA.base
  obtain ⟨⟨oc, vs, t, g1, g2, g3⟩, _, _⟩ := IA.hok co _ h2
  refine PySem.W.callWith_F0 ⟨_, _, _, _, fA⟩ (wpAny_call (codeAny_mono (?_ : codeAny (model X.prog X.w) (X.A.deeper (PyProof.Rows.envOfC qh sh s.heap.objs.size g cdh)) (.call (.ref f) ⟨[], []⟩) (CR (L2.CX X.prog X.w) (PyProof.Rows.envOfC qh sh s.heap.objs.size g cdh :: X.stack) X.prog X.w HA sA Q (WE W τ)) sA) fun r s' hq => ?_))
  · refine PySem.W.kla_callFunE hr.depth fA rfl L.co L.gen rfl ⟨co, oc, vs, t, rfl, g1, g2, g3⟩ ?_
    rw [bind]
    refine wpAny_pure (wpAny_newFunctionEnv (fun y hy => (L.own y hy).2) (fun y hy => absurd hy (by simp)) (fun h1 n1 n2 => ⟨IA.nolimit.fresh _ n2, ?_⟩) L.kind)
    show codeAny _ _ (.expr body (LamX.lamEnv X scope sA.heap.objs.size f co)) _ _
    have J := LamX.lam_start2 (tk := sA.toks + ([] : List (Str × Value)).length) (E := WE W τ) (f := f) (c' := co) I L IA.env0 hr.hd un n1 (fun b o e => n2.extBut b o (Nat.ne_of_lt (Heap.lt_size e)) (Heap.get?_push_of_some _ e))
    refine PySem.W.kla_codeExpr (wpAny_mono ((rb _ _ sA HA (WE W τ) (hr.deeper _)).run [] _ _ HA Q J h3) (fun v s' hq => ?_) fun e s' hq => hq)
    obtain ⟨w', H', J', rv, q⟩ := hq
    exact ⟨w', H', J'.os, J'.bare, J'.base, J'.hok, rv, q⟩
  · cases r with
    | error e => exact passAt tk τ pinsZ HA sA e s' IA hq
    | ok fl =>
      cases fl with
      | ret u => exact IA.after hq
      | next => exact False.elim hq
      | brk => exact False.elim hq
      | cont => exact False.elim hq
/-- what the helper makes of the lambda's reading -/
def Helps (X : Cx) (Nh : List Str) (x : Str) (sh : Scope) (g : Addr) (cdh : Value) (bh : List Stmt) (nm : Str) (q : Str) (TT : (XK → Hp → VK → Prop) → Hp → VK → Prop) : Prop :=
  ∀ (f co : Addr) (s : Shared) (H : Hp) (Q : VK) (tl : XK → Hp → VK → Prop),
    (∀ (W : WX) (pn : List (Addr × Obj)) (xe : Value → Shared → Prop) (pa pb : Pos), Takes ((cxOf C8.CX0 X.prog X.w X.K X.mg X.base Nh x sh g cdh X.A X.stack s H C8.E0).tr pn xe) W →
      PE ((cxOf C8.CX0 X.prog X.w X.K X.mg X.base Nh x sh g cdh X.A X.stack s H C8.E0).tr pn xe) (.Call (.Name nm pa) [] [] pb) (fun τ HZ Q => τ[0]? = some (some (.ref f)) ∧ HZ co = some (LamX.CodeO co q) ∧ tl (WE W τ) HZ Q)) →
    H co = some (LamX.CodeO co q) → TT tl H Q →
    ∃ t, PSs (cxOf C8.CX0 X.prog X.w X.K X.mg X.base Nh x sh g cdh X.A X.stack s H C8.E0).nox bh t ∧ t { nx := fun _ H' => Q .non H', rt := Q } (start Nh [.ref f]) H
/-- x(lambda: body) -/
theorem lam_call {T : List (Addr × Str)} {TT : (XK → Hp → VK → Prop) → Hp → VK → Prop} {x nm : Str} {g c P : Addr} {k : Nat} {ph : Arguments} {bh : List Stmt} {sh : Scope} {dV kV doc pm cdh ct oc : Value} {an od : Option Addr} {osl : Array (Option Value)} {Nh : List Str}
    {params : Arguments} {body : Expr} {scope : Scope} {rd : XK → TE} {p lpos pos : Pos} (hg : Gl X x) (hm : X.mg x = some (.ref g)) (hk : PySem.W.keepIn X.K (.ref g) = true)
    (lk : X.K.lookup g = some ⟨oc, od, .func (PySem.W.fnOf x x ph bh sh dV kV doc pm an cdh ct), osl⟩) (hcg : PySem.W.codeIn X.K cdh x = true) (hb : L2.Binds X.K (PySem.W.fnOf x x ph bh sh dV kV doc pm an cdh ct) [nm] []) (Sh : FnScope Nh [nm] sh) (hN : Nh[0]? = some nm) (hva : Vis sh nm)
    (hG : Helps X Nh x sh g cdh bh nm (X.env.qual ++ "<lambda>") TT)
    (TB : LamX.TabB X.base X.mg c P) (hcode : X.env.code = .ref c) (hmT : (P, X.env.qual ++ "<lambda>") ∈ T) (hu : ∀ p ∈ T, p.1 = P → p.2 = X.env.qual ++ "<lambda>") (hr : Room (k + 2) X.A) (L : LamX.LamS X.env.scope scope) (hdef : defaultsOf params X.env = ([], []))
    (bind : ∀ (q : Str) (cl : List (Str × Addr)) (pm cv ctv : Value), bindArgs (PySem.W.kla_fn "<lambda>" q params body scope cl pm cv ctv) ⟨[], []⟩ = pure [])
    (rb : ∀ (A : Around) (outer : List Env) (s : Shared) (H : Hp) (E : XK) (f co : Addr), Room k (A.deeper (LamX.lamEnv X scope s.heap.objs.size f co)) → PE (LamX.lamCx X A outer s H E scope f co) body (rd E))
    (d0 : (x == ("__debug__" : Str)) = false) (d1 : (nm == ("__debug__" : Str)) = false) (d2 : (nm == ("__classdict__" : Str)) = false) :
    PE X (.Call (.Name x p) [.Lambda params body scope lpos] [] pos) (LamX.tLam T TT rd) := by
  refine ⟨fun pins s σ H Q I ⟨hT, h⟩ => wpAny_Call_Name_kw (L2.ld_glob I hg hm (PySem.W.callWith_K (h₀ := X.base) I.ok.mod.kin hk ?_ (by rfl) (by rfl)) d0)⟩
  show wpAny _ _ (spliced ((false, eval (.Lambda params body scope lpos) X.env) :: backTo pos (starEach [] X.env))) _ _ s
  refine Calls.spliced_cons (LamX.lam_make2 I TB hcode hmT hu hT hdef (L.has I.ok) fun f co pm' ctv H1 s' I1 eN T1 hf nf nfr hco => Calls.spliced_nil ⟨I1.kIn, wpAny_call (codeAny_mono (?_ : codeAny (model X.prog X.w) X.A (.call (.ref g) ⟨[.ref f], []⟩) (CR C8.CX0 X.stack X.prog X.w H1 s' Q C8.E0) s') fun r s2 hq => ?_)⟩)
  · refine LamX.run_ofS (N := Nh) (ps := [nm]) (us := [.ref f]) (vs := [.ref f]) lk hcg Sh hr I1.env0 (hb s' [.ref f] I1.kIn rfl) (.cons rfl .nil) rfl fun hr' => ?_
    obtain ⟨t', g1, g2⟩ := hG f co s' H1 Q (fun E H' Q' => rd E σ H' Q') (fun W pn xe pa pb tk => act_run (i := 0) I1 L hf nf nfr (bind _ _ _ _ _) tk hr' (fun A outer s H E hr2 => rb A outer s H E f co hr2) hN hva d1 d2) hco (h H1 eN T1)
    exact ⟨t', g1.nox, g2⟩
  · cases r with
    | error e => exact (show False from hq).elim
    | ok fl =>
      cases fl with
      | ret u => exact I1.after hq
      | next => exact False.elim hq
      | brk => exact False.elim hq
      | cont => exact False.elim hq
end
section
variable {S : SI} {G : PEnv} {F : Cfg} {C : CSp} {d : Nat} {fA : Nat → Addr} {fdF : Nat → FuncData} {psF : Nat → List Str}
/-- the helper's own running -/
def actF (F : Cfg) (n : Nat) (b : ME) (ℓ : Loc) : Cfg := { F with act := fun h2 k2 kx2 => evE F n b ℓ h2 k2 kx2, hp := fun _ => none }
def lamD (k : KV) : Ds := {
  nx := fun _ h2 => if noActH h2 then k .non h2 else .stuck
  rt := fun v h2 => if noAct v && noActH h2 then k v h2 else .stuck
  bk := fun _ _ => .stuck
  ct := fun _ _ => .stuck
  ex := fun _ _ _ => .stuck }
def TTm (K : PySem.W.Frag) (G : PEnv) (F : Cfg) (C : CSp) (n : Nat) (b : ME) (df : MDef) : (XK → Hp → VK → Prop) → Hp → VK → Prop := fun tl H Q =>
  ∃ (μ : Emb) (ℓ : Loc) (σ : LSt) (h : Hpi) (k : KV) (P : Res → Prop), Rp K G μ h H ∧ RL K G μ H ℓ σ ∧ Wp C (evB (actF F n b ℓ) n df.body (some .act :: List.replicate (df.slots - 1) none) h (lamD k)) P ∧
    (∀ v h1 μ1 H1 x, Stp μ H μ1 H1 → Rp K G μ1 h1 H1 → RV K G μ1 H1 v x → Wp C (k v h1) P → Q x H1) ∧
    (∀ (μ1 : Emb) (h1 : Hpi) (H1 : Hp) (k1 : KV) (kx1 : KX) (P1 : Res → Prop) (Q1 : VK) (E1 : XK), Rp K G μ1 h1 H1 → RL K G μ1 H1 ℓ σ → Wp C (evE F n b ℓ h1 k1 kx1) P1 →
      (∀ v h2 μ2 H2 x, Stp μ1 H1 μ2 H2 → Rp K G μ2 h2 H2 → RV K G μ2 H2 v x → Wp C (k1 v h2) P1 → Q1 x H2) →
      (∀ e h2 μ2 H2 cls d, Stp μ1 H1 μ2 H2 → Rp K G μ2 h2 H2 → RX K G μ2 H2 e cls d → Wp C (kx1 e h2) P1 → E1 cls d H2) → tl E1 H1 Q1)
theorem not_cell {K : PySem.W.Frag} {μ : Emb} {h : Hpi} {H : Hp} {c : Addr} {q : Str} (r : Rp K G μ h H) (e : H c = some (LamX.CodeO c q)) : c ∉ μ := fun z => by
  obtain ⟨i, cc, _, _, rc⟩ := r.cell z
  cases cc with
  | lst xs => obtain ⟨ys, e1, _⟩ := rc; rw [e] at e1; cases Option.some.inj e1
  | dct kvs => obtain ⟨gs, e1, _⟩ := rc; rw [e] at e1; cases Option.some.inj e1
  | ins c fs => obtain ⟨dx, gs, e1, _⟩ := rc; rw [e] at e1; cases Option.some.inj e1
theorem noPar_eq {p : Arguments} (h : noPar p = true) : p = ⟨[], [], none, [], [], none, []⟩ := by
  unfold noPar at h
  split at h
  · rfl
  · cases h
theorem rx_up {K : PySem.W.Frag} {μ : Emb} {H : Hp} {a : LaI} (h0 : G.la = none) {e : Exn} {cls : Value} {d : Option Addr} (q : RX K G μ H e cls d) : RX K (G.atL a) μ H e cls d := by
  obtain ⟨h1, dd, v, h2, h3, h4, h5⟩ := q
  exact ⟨h1, dd, v, h2, h3, h4, lv_up h0 h5⟩
theorem lamH (G : PEnv) (C : CSp) (F : Cfg) (d : Nat) (fA : Nat → Addr) (fdF : Nat → FuncData) (psF : Nat → List Str) (S : SI) : LamH G C F d fA fdF psF S := by
  intro hL hS X W g f j x b params body scope p lpos pos hx hgl hls hnp EP hok n
  cases n with
  | zero => exact pe_zero
  | succ n =>
  obtain ⟨gla, hh⟩ := g.hlp hL
  obtain ⟨df, gA, ph, bh, sh, dV, kV, doc, pm, cdh, ct, oc, an, od, osl, Nh, nm, jh, e1, e2, e3, e4, e5, e6, Sh, hN, hva, hsl, hob, d0, d1, d2⟩ := (hh f x hx).ex
  obtain ⟨c, P, hcode, TB, hmT, hu⟩ := g.lamq hL
  have L := LamX.lamS_by hls
  have rm := g.room hS
  have h2d := (g.callP hL).1
  have gex := g.exn hS
  cases noPar_eq hnp
  have rm2 : RoomG S.gd (d - 2 + 2) X.A := by rw [show d - 2 + 2 = d by omega]; exact rm
  have key : Helps X Nh x sh gA cdh bh nm (X.env.qual ++ "<lambda>") (TTm X.K G F C n b df) := by
    intro fL co s H Q tl act hco ⟨μ, ℓ, σ, h, k, P0, r, rl, w, hk, htl⟩
    have hcm : co ∉ μ := not_cell r hco
    refine ⟨TMS X.K (G.atL ⟨fL, co, X.env.qual ++ "<lambda>", ℓ, σ⟩) C F0 (evB (actF F n b ℓ) n df.body), ?_, ?_⟩
    · have gz : GX S.hlp (G.atL ⟨fL, co, X.env.qual ++ "<lambda>", ℓ, σ⟩) (actF F n b ℓ) C F0 (d - 1) fA fdF psF (cxOf C8.CX0 X.prog X.w X.K X.mg X.base Nh x sh gA cdh X.A X.stack s H C8.E0).nox := {
        calm := fun _ => rfl
        takes := LamX.takes0
        passes := PassesOwn.never
        room := fun _ => by
          have := rm2.deeper (PyProof.Rows.envOfC x sh s.heap.objs.size gA cdh)
          rw [show d - 1 = d - 2 + 1 by omega]
          exact this
        un := by
          have := (rm2.deeper (PyProof.Rows.envOfC x sh s.heap.objs.size gA cdh)).room.un
          show (X.A.deeper (PyProof.Rows.envOfC x sh s.heap.objs.size gA cdh)).units + 100 < cLine
          omega
        gds := fun z => (rm2.deeper (PyProof.Rows.envOfC x sh s.heap.objs.size gA cdh)).gd z
        nd := Sh.nd
        call := fun _ f x hf => by
          have hf : (([] : List (Option Str)))[f]? = some (some x) := hf
          simp at hf
        fn := fun f x hf => by
          have hf : (([] : List (Option Str)))[f]? = some (some x) := hf
          simp at hf
        pat := g.pat
        cts := fun k x hk => let ⟨u, iv, v, h1, h2, h3, h4⟩ := g.cts k x hk; ⟨u, iv, v, h1, h2, h3, fun μ H => lv_up gla (h4 μ H)⟩
        free := g.free
        attr := g.attr
        fld := g.fld
        inj := g.inj
        fnk := Sh.kind
        xfn := g.xfn
        subq := g.subq
        clq := g.clq
        exn := fun _ => gex
        errq := fun z => by
          have z : S.calm = false := z
          rw [hS] at z; cases z
        callP := fun z => by cases z
        lamq := fun z => by cases z
        kdq := g.kdq
        hlp := fun z => by cases z
        actq := fun _ {x' p1 p2 pn xe W'} hN' hv' _ _ tk => by
          have hN' : Nh[0]? = some x' := hN'
          have ex' : x' = nm := Option.some.inj (hN'.symm.trans hN)
          subst ex'
          refine PE.imp (act W' pn xe p1 p2 tk) fun τ HZ Q1 q => ?_
          obtain ⟨μ', ℓ', h', k', kx', P', r', l', w', hk', hx'⟩ := q
          dsimp only at w'
          have hl : getSl ℓ' 0 = some .act := by
            cases hz : getSl ℓ' 0 with
            | none => rw [hz] at w'; exact w'.elim
            | some z =>
              cases z with
              | act => rfl
              | _ => rw [hz] at w'; exact w'.elim
          rw [hl] at w'
          have w' : Wp C (if noActH h' = true then evE F n b ℓ h' k' kx' else .stuck) P' := w'
          by_cases hn : noActH h' = true
          · rw [if_pos hn] at w'
            have el : ℓ'[0]? = some (some .act) := by
              unfold getSl at hl
              split at hl
              · cases hl; assumption
              · cases hl
            obtain ⟨v, v1, i, v2, v3⟩ := l'.2 0 .act el
            cases v2
            subst v3
            obtain ⟨a1, a2, a3⟩ := r'.lamq _ rfl
            refine ⟨v1, a1, htl μ' h' HZ k' kx' P' Q1 (L2.WE W' τ) (lp_dn gla gex hn r') (ol_dn (G := G) a3) w' (fun v h1 μ1 H1 x st r1 q1 w1 => ?_) (fun e h1 μ1 H1 cls dd st r1 q1 w1 => ?_)⟩
            · obtain ⟨b1, b2, b3⟩ := r'.lamq_on st _ rfl
              exact hk' v h1 μ1 H1 x st (lp_up gla gex r1 b1 b2 b3) (lv_up gla q1) w1
            · obtain ⟨b1, b2, b3⟩ := r'.lamq_on st _ rfl
              exact hx' e h1 μ1 H1 cls dd st (lp_up gla gex r1 b1 b2 b3) (rx_up gla q1) w1
          · rw [if_neg hn] at w'
            exact w'.elim }
      exact (ct_sb [] C (d - 1) fA fdF psF jh S.hlp _ (actF F n b ℓ) (fun z => by cases z)).2 gz ⟨fun _ _ _ => rfl, rfl, rfl, fun _ pn xe c x hc => by simp at hc⟩ hob n
    · have ru := lp_up (a := ⟨fL, co, X.env.qual ++ "<lambda>", ℓ, σ⟩) gla gex r hco hcm (ol_up gla gex rl)
      refine ⟨μ, _, h, lamD k, P0, ru, ?_, w, ?_⟩
      · refine ⟨?_, fun i y e => ?_⟩
        · show (some IV.act :: List.replicate (df.slots - 1) none).length = (start Nh [V.ref fL]).length
          unfold L2.start
          have : 0 < Nh.length := (List.getElem?_eq_some_iff.mp hN).1
          simp
          omega
        · cases i with
          | zero =>
            have e : some (some IV.act) = some (some y) := e
            cases e
            exact ⟨.ref fL, rfl, _, rfl, rfl⟩
          | succ i =>
            have e : (List.replicate (df.slots - 1) (none : Option IV))[i]? = some (some y) := e
            rw [List.getElem?_replicate] at e
            split at e <;> cases e
      · refine ⟨fun ℓ1 h1 μ1 H1 σ1 st r1 l1 w1 => ?_, fun _ _ _ _ _ _ _ _ w1 => w1.elim, fun _ _ _ _ _ _ _ _ w1 => w1.elim, fun v h1 μ1 H1 x st r1 q1 w1 => ?_, fun _ _ _ _ _ _ _ _ _ _ _ _ w1 => w1.elim⟩
        · have w1 : Wp C (if noActH h1 then k .non h1 else .stuck) P0 := w1
          by_cases hn : noActH h1 = true
          · rw [if_pos hn] at w1
            exact hk .non h1 μ1 H1 .non st (lp_dn gla gex hn r1) rfl w1
          · rw [if_neg hn] at w1
            exact w1.elim
        · have w1 : Wp C (if noAct v && noActH h1 then k v h1 else .stuck) P0 := w1
          by_cases hn : (noAct v && noActH h1) = true
          · rw [if_pos hn] at w1
            obtain ⟨n1, n2⟩ := two hn
            exact hk v h1 μ1 H1 x st (lp_dn gla gex n2 r1) (lv_dn n1 q1) w1
          · rw [if_neg hn] at w1
            exact w1.elim
  refine PE.imp (lam_call (k := d - 2) (rd := fun E => TM X.K G C (fun cls dd _ H => E cls dd H) (evE F n b)) hgl e2 e3 e4 e5 e6 Sh hN hva key TB hcode hmT hu rm2.room L rfl (fun _ _ _ _ _ => rfl) (fun A outer s H E fL co hr => (EP (d - 2) (lam_fit g hS hL L hr) (top := false) (fun z => by cases z) hok).1 n) d0 d1 d2) fun σ H Q q => ?_
  obtain ⟨μ, ℓ, h, k, kx, P0, r, l, w, hk, hx⟩ := q
  have w : Wp C (optT (F.hp f) fun df => evB (actF F n b ℓ) n df.body (some .act :: List.replicate (df.slots - 1) none) h (lamD k)) P0 := w
  rw [e1] at w
  refine ⟨r.tabs, fun H1 eN T1 => ?_⟩
  have r1 := r.extN eN T1
  have s1 : Stp μ H μ H1 := Stp.extN eN
  exact ⟨μ, ℓ, σ, h, k, P0, r1, s1.rl l, w, fun v h2 μ2 H2 x st r2 q2 w2 => hk v h2 μ2 H2 x (s1.tr r1 st) r2 q2 w2,
    fun μ2 h2 H2 k1 kx1 P1 Q1 E1 r2 l2 w2 c1 c2 => ⟨μ2, ℓ, h2, k1, kx1, P1, r2, l2, w2, c1, c2⟩⟩
end
end MP
set_option maxRecDepth 100000
set_option maxHeartbeats 4000000
/-! MPx: a run over a part of the small heap, seen from the whole one. -/
namespace MP
open PySem PySem.Spec PyProof.Rows
open L2 (V HO Hp upd SqL SqT Rd upd_same upd_ne RelV Vals VK XK)
/-- the part's cell j: in the whole heap of the length n -/
def em (ι : List Nat) (n j : Nat) : Nat := match ι[j]? with
  | some i => i
  | none => n + (j - ι.length)
mutual
def emV (ι : List Nat) (n : Nat) : IV → IV
  | .ref a => .ref (em ι n a)
  | .tup xs => .tup (emVs ι n xs)
  | .kls xs => .kls (emVs ι n xs)
  | .kdc ks xs => .kdc ks (emVs ι n xs)
  | .non => .non
  | .bl b => .bl b
  | .int i => .int i
  | .str x => .str x
  | .err => .err
  | .act => .act
def emVs (ι : List Nat) (n : Nat) : List IV → List IV
  | [] => []
  | x :: xs => emV ι n x :: emVs ι n xs
end
mutual
/-- only the first m cells are named -/
def rb (m : Nat) : IV → Bool
  | .ref a => decide (a < m)
  | .err => false
  | .act => false
  | .tup xs => rbs m xs
  | .kls xs => rbs m xs
  | .kdc _ xs => rbs m xs
  | _ => true
def rbs (m : Nat) : List IV → Bool
  | [] => true
  | x :: xs => rb m x && rbs m xs
end
mutual
/-- no list of the written kind is told -/
def nk : IV → Bool
  | .kls _ => false
  | .tup xs => nks xs
  | .kdc _ xs => nks xs
  | _ => true
def nks : List IV → Bool
  | [] => true
  | x :: xs => nk x && nks xs
end
def emF (ι : List Nat) (n : Nat) : List (Nat × IV) → List (Nat × IV)
  | [] => []
  | (f, x) :: r => (f, emV ι n x) :: emF ι n r
def emD (ι : List Nat) (n : Nat) : List (L2.Key × IV) → List (L2.Key × IV)
  | [] => []
  | (f, x) :: r => (f, emV ι n x) :: emD ι n r
def nkF : List (Nat × IV) → Bool
  | [] => true
  | (_, x) :: r => nk x && nkF r
def nkD : List (L2.Key × IV) → Bool
  | [] => true
  | (_, x) :: r => nk x && nkD r
def rbF (m : Nat) : List (Nat × IV) → Bool
  | [] => true
  | (_, x) :: r => rb m x && rbF m r
def rbD (m : Nat) : List (L2.Key × IV) → Bool
  | [] => true
  | (_, x) :: r => rb m x && rbD m r
def emC (ι : List Nat) (n : Nat) : Cell → Cell
  | .lst xs => .lst (emVs ι n xs)
  | .ins c fs => .ins c (emF ι n fs)
  | .dct kvs => .dct (emD ι n kvs)
def nkC : Cell → Bool
  | .lst xs => nks xs
  | .ins _ fs => nkF fs
  | .dct kvs => nkD kvs
def rbC (m : Nat) : Cell → Bool
  | .lst xs => rbs m xs
  | .ins _ fs => rbF m fs
  | .dct kvs => rbD m kvs
/-- the part's cells put back -/
def putJ (h : Hpi) : List Nat → List Cell → Hpi
  | i :: ι, c :: cs => (putJ h ι cs).set i c
  | _, _ => h
def joinH (ι : List Nat) (h h1 : Hpi) : Hpi := putJ h ι (h1.map (emC ι h.length)) ++ (h1.drop ι.length).map (emC ι h.length)
def emR (ι : List Nat) (h : Hpi) : Res → Res
  | .ok v h1 => .ok (emV ι h.length v) (joinH ι h h1)
  | .ex e h1 => .ex ⟨e.c, emV ι h.length e.v⟩ (joinH ι h h1)
def nkR : Res → Bool
  | .ok v h1 => nk v && h1.all nkC
  | .ex e h1 => nk e.v && h1.all nkC
/-- .. and what is so from a part of the heap -/
def Shf (C : CSp) : CSp := fun f vs h R => C f vs h R ∨ ∃ (ι : List Nat) (vs0 : List IV) (hs : Hpi) (R0 : Res → Prop), ι.Nodup ∧ ι.length = hs.length ∧ vs = emVs ι h.length vs0 ∧ rbs ι.length vs0 = true ∧ hs.all (rbC ι.length) = true ∧
  (∀ (j i : Nat) (c : Cell), ι[j]? = some i → hs[j]? = some c → h[i]? = some (emC ι h.length c)) ∧ C f vs0 hs R0 ∧ ∀ r0, R0 r0 → nkR r0 = true ∧ R (emR ι h r0)
theorem band {a b : Bool} (h : (a && b) = true) : a = true ∧ b = true := Bool.and_eq_true_iff.mp h
theorem putJ_len : ∀ {ι : List Nat} {cs : List Cell} {h : Hpi}, (putJ h ι cs).length = h.length
  | [], _, _ => by cases ‹List Cell› <;> rfl
  | _ :: _, [], _ => rfl
  | i :: ι, c :: cs, h => by simp only [putJ, List.length_set, putJ_len]
theorem putJ_ne {k : Nat} : ∀ {ι : List Nat} {cs : List Cell} {h : Hpi}, k ∉ ι → (putJ h ι cs)[k]? = h[k]?
  | [], _, _, _ => by cases ‹List Cell› <;> rfl
  | _ :: _, [], _, _ => rfl
  | i :: ι, c :: cs, h, n => by
    have n1 : k ≠ i := fun z => n (by rw [z]; exact List.mem_cons_self)
    simp only [putJ]
    rw [List.getElem?_set_ne (Ne.symm n1)]
    exact putJ_ne fun z => n (List.mem_cons_of_mem _ z)
theorem putJ_at : ∀ {ι : List Nat} {cs : List Cell} {h : Hpi} {j i : Nat} {c : Cell}, ι.Nodup → (∀ i ∈ ι, i < h.length) → ι[j]? = some i → cs[j]? = some c → (putJ h ι cs)[i]? = some c
  | [], _, _, _, _, _, _, _, e, _ => by simp at e
  | _ :: _, [], _, _, _, _, _, _, _, e => by simp at e
  | i0 :: ι, c0 :: cs, h, 0, i, c, nd, lt, e1, e2 => by
    cases (show i0 = i by simpa using e1)
    cases (show c0 = c by simpa using e2)
    simp only [putJ]
    exact List.getElem?_set_self (by rw [putJ_len]; exact lt _ List.mem_cons_self)
  | i0 :: ι, c0 :: cs, h, j + 1, i, c, nd, lt, e1, e2 => by
    have e1 : ι[j]? = some i := by simpa using e1
    have e2 : cs[j]? = some c := by simpa using e2
    obtain ⟨n1, n2⟩ := List.nodup_cons.mp nd
    have ne : i0 ≠ i := fun z => n1 (by rw [z]; exact List.mem_of_getElem? e1)
    simp only [putJ]
    rw [List.getElem?_set_ne ne]
    exact putJ_at n2 (fun i hi => lt i (List.mem_cons_of_mem _ hi)) e1 e2
/-- what was not changed -/
theorem putJ_same : ∀ {ι : List Nat} {cs : List Cell} {h : Hpi}, (∀ (j i : Nat) (c : Cell), ι[j]? = some i → cs[j]? = some c → h[i]? = some c) → putJ h ι cs = h
  | [], _, _, _ => by cases ‹List Cell› <;> rfl
  | _ :: _, [], _, _ => rfl
  | i :: ι, c :: cs, h, q => by
    simp only [putJ]
    rw [putJ_same fun j i c e1 e2 => q (j + 1) i c (by simpa using e1) (by simpa using e2)]
    have e := q 0 i c rfl rfl
    obtain ⟨hl, e⟩ := List.getElem?_eq_some_iff.mp e
    rw [← e]
    exact List.set_getElem_self hl
section
variable {K : PySem.W.Frag} {G : PEnv} {μ μ0 μ1 : Emb} {H H1 : Hp} {h h1 : Hpi} {ι : List Nat} {n : Nat}
section
variable (hx : G.ex = none) (hl : G.la = none) (sub : ∀ a ∈ μ0, a ∈ μ) (at_ : ∀ (j i : Nat) (a : Addr), ι[j]? = some i → μ[i]? = some a → μ0[j]? = some a)
include hx hl sub at_
mutual
theorem rv_part : ∀ {v : IV} {x : V}, rb ι.length v = true → RV K G μ H (emV ι n v) x → RV K G μ0 H v x
  | .non, _, _, q => q
  | .bl _, _, _, q => q
  | .int _, _, _, q => q
  | .str _, _, _, q => q
  | .tup xs, _, m, q => by
    obtain ⟨a, ys, e, q1, q2⟩ := q
    refine ⟨a, ys, e, ?_, rvs_part m q2⟩
    rcases q1 with q1 | ⟨q1, z⟩
    · exact .inl q1
    · exact .inr ⟨q1, fun y => z (sub a y)⟩
  | .kls xs, _, m, q => by
    obtain ⟨a, ys, e, q1, q2⟩ := q
    refine ⟨a, ys, e, ?_, rvs_part m q2⟩
    rcases q1 with q1 | ⟨q1, z⟩
    · exact .inl q1
    · exact .inr ⟨q1, fun y => z (sub a y)⟩
  | .kdc ks xs, _, m, q => by
    obtain ⟨a, ys, e, q1, q2⟩ := q
    exact ⟨a, ys, e, q1, rvs_part m q2⟩
  | .ref j, _, m, q => by
    have m : j < ι.length := of_decide_eq_true m
    obtain ⟨a, e, q1⟩ := q
    have ej : ι[j]? = some ι[j] := List.getElem?_eq_getElem m
    have q1 : μ[em ι n j]? = some a := q1
    unfold em at q1
    rw [ej] at q1
    exact ⟨a, e, at_ j _ a ej q1⟩
  | .err, _, m, _ => by cases m
  | .act, _, m, _ => by cases m
theorem rvs_part : ∀ {xs : List IV} {ys : List V}, rbs ι.length xs = true → RVs K G μ H (emVs ι n xs) ys → RVs K G μ0 H xs ys
  | [], _, _, q => q
  | x :: xs, _, m, q => by
    obtain ⟨y, r, e, q1, q2⟩ := q
    obtain ⟨n1, n2⟩ := band (show (rb ι.length x && rbs ι.length xs) = true from m)
    exact ⟨y, r, e, rv_part n1 q1, rvs_part n2 q2⟩
end
theorem rf_part : ∀ {fs : List (Nat × IV)} {gs : List (Str × V)}, rbF ι.length fs = true → RF K G μ H (emF ι n fs) gs → RF K G μ0 H fs gs
  | [], _, _, q => q
  | (f, x) :: xs, _, m, q => by
    obtain ⟨y, r, e, q1, q2⟩ := q
    obtain ⟨n1, n2⟩ := band (show (rb ι.length x && rbF ι.length xs) = true from m)
    exact ⟨y, r, e, rv_part hx hl sub at_ n1 q1, rf_part n2 q2⟩
theorem rd_part : ∀ {fs : List (L2.Key × IV)} {gs : List (L2.Key × V)}, rbD ι.length fs = true → RD K G μ H (emD ι n fs) gs → RD K G μ0 H fs gs
  | [], _, _, q => q
  | (f, x) :: xs, _, m, q => by
    obtain ⟨y, r, e, q1, q2⟩ := q
    obtain ⟨n1, n2⟩ := band (show (rb ι.length x && rbD ι.length xs) = true from m)
    exact ⟨y, r, e, rv_part hx hl sub at_ n1 q1, rd_part n2 q2⟩
theorem rc_part {a : Addr} {c : Cell} (m : rbC ι.length c = true) (q : RC K G μ H a (emC ι n c)) : RC K G μ0 H a c := by
  cases c with
  | lst xs => obtain ⟨ys, e, q1⟩ := q; exact ⟨ys, e, rvs_part hx hl sub at_ m q1⟩
  | ins c fs => obtain ⟨dx, gs, e, q1⟩ := q; exact ⟨dx, gs, e, rf_part hx hl sub at_ m q1⟩
  | dct kvs => obtain ⟨gs, e, q1⟩ := q; exact ⟨gs, e, rd_part hx hl sub at_ m q1⟩
end
section
variable {ext : Emb} (hc : ∀ a ∈ μ, ∀ ys, Rd H1 a (.tup ys) → a ∈ μ1) (he : ∀ a ∈ ext, a ∈ μ1) (at_ : ∀ (j : Nat) (a : Addr), μ1[j]? = some a → (μ ++ ext)[em ι μ.length j]? = some a)
include hc he at_
mutual
theorem rv_sh : ∀ {v : IV} {x : V}, nk v = true → RV K G μ1 H1 v x → RV K G (μ ++ ext) H1 (emV ι μ.length v) x
  | .non, _, _, q => q
  | .bl _, _, _, q => q
  | .int _, _, _, q => q
  | .str _, _, _, q => q
  | .tup xs, _, n, q => by
    obtain ⟨a, ys, e, q1, q2⟩ := q
    refine ⟨a, ys, e, ?_, rvs_sh n q2⟩
    rcases q1 with q1 | ⟨q1, m⟩
    · exact .inl q1
    · refine .inr ⟨q1, fun z => m ?_⟩
      rcases List.mem_append.mp z with z | z
      · exact hc a z ys q1
      · exact he a z
  | .kls xs, _, n, _ => by cases n
  | .kdc ks xs, _, n, q => by
    obtain ⟨a, ys, e, q1, q2⟩ := q
    exact ⟨a, ys, e, q1, rvs_sh n q2⟩
  | .ref i, _, _, q => by
    obtain ⟨a, e, q1⟩ := q
    exact ⟨a, e, at_ i a q1⟩
  | .err, _, _, q => q
  | .act, _, _, q => q
theorem rvs_sh : ∀ {xs : List IV} {ys : List V}, nks xs = true → RVs K G μ1 H1 xs ys → RVs K G (μ ++ ext) H1 (emVs ι μ.length xs) ys
  | [], _, _, q => q
  | x :: xs, _, n, q => by
    obtain ⟨y, r, e, q1, q2⟩ := q
    obtain ⟨n1, n2⟩ := band (show (nk x && nks xs) = true from n)
    exact ⟨y, r, e, rv_sh n1 q1, rvs_sh n2 q2⟩
end
theorem rf_sh : ∀ {fs : List (Nat × IV)} {gs : List (Str × V)}, nkF fs = true → RF K G μ1 H1 fs gs → RF K G (μ ++ ext) H1 (emF ι μ.length fs) gs
  | [], _, _, q => q
  | (f, x) :: xs, _, n, q => by
    obtain ⟨y, r, e, q1, q2⟩ := q
    obtain ⟨n1, n2⟩ := band (show (nk x && nkF xs) = true from n)
    exact ⟨y, r, e, rv_sh hc he at_ n1 q1, rf_sh n2 q2⟩
theorem rd_sh : ∀ {fs : List (L2.Key × IV)} {gs : List (L2.Key × V)}, nkD fs = true → RD K G μ1 H1 fs gs → RD K G (μ ++ ext) H1 (emD ι μ.length fs) gs
  | [], _, _, q => q
  | (f, x) :: xs, _, n, q => by
    obtain ⟨y, r, e, q1, q2⟩ := q
    obtain ⟨n1, n2⟩ := band (show (nk x && nkD xs) = true from n)
    exact ⟨y, r, e, rv_sh hc he at_ n1 q1, rd_sh n2 q2⟩
theorem rc_sh {a : Addr} {c : Cell} (n : nkC c = true) (q : RC K G μ1 H1 a c) : RC K G (μ ++ ext) H1 a (emC ι μ.length c) := by
  cases c with
  | lst xs => obtain ⟨ys, e, q1⟩ := q; exact ⟨ys, e, rvs_sh hc he at_ n q1⟩
  | ins c fs => obtain ⟨dx, gs, e, q1⟩ := q; exact ⟨dx, gs, e, rf_sh hc he at_ n q1⟩
  | dct kvs => obtain ⟨gs, e, q1⟩ := q; exact ⟨gs, e, rd_sh hc he at_ n q1⟩
end
/-- the caller's cells and the new ones -/
theorem join_ok {ext : Emb} (hx : G.ex = none) (hl : G.la = none) (r : Rp K G μ h H) (nd : ι.Nodup) (il : ι.length = μ0.length) (ia : ∀ (j i : Nat), ι[j]? = some i → ∃ a, μ[i]? = some a ∧ μ0[j]? = some a) (e1 : μ1 = μ0 ++ ext) (fresh : ∀ b ∈ ext, ∀ o, H b = some o → ∃ ps, o = .tbl ps) (s : Stp μ0 H μ1 H1) (r1 : Rp K G μ1 h1 H1) (n : h1.all nkC = true) :
    Stp μ H (μ ++ ext) H1 ∧ Rp K G (μ ++ ext) (joinH ι h h1) H1 ∧ (∀ a ∈ μ, ∀ ys, Rd H1 a (.tup ys) → a ∈ μ1) ∧ (∀ a ∈ ext, a ∈ μ1) ∧ (∀ (j : Nat) (a : Addr), μ1[j]? = some a → (μ ++ ext)[em ι μ.length j]? = some a) ∧ ∀ dd fs, H1 dd = some (.xd fs) → dd ∉ μ1 → dd ∉ μ ++ ext := by
  have ilt : ∀ i ∈ ι, i < μ.length := fun i hi => by
    obtain ⟨j, hj, e⟩ := List.mem_iff_getElem.mp hi
    obtain ⟨a, a1, _⟩ := ia j i (by rw [List.getElem?_eq_getElem hj, e])
    exact (List.getElem?_eq_some_iff.mp a1).1
  have sub : ∀ a ∈ μ0, a ∈ μ := fun a ha => by
    obtain ⟨j, hj, e⟩ := List.mem_iff_getElem.mp ha
    obtain ⟨b, b1, b2⟩ := ia j ι[j] (List.getElem?_eq_getElem (by rw [il]; exact hj))
    rw [List.getElem?_eq_getElem hj, e] at b2
    cases b2
    exact List.mem_of_getElem? b1
  have kept : ∀ {a : Addr}, a ∈ μ → ∃ o, H a = some o ∧ (a ∉ μ0 → H1 a = some o) ∧ (∀ ps, o ≠ .tbl ps) ∧ (∀ xs, o ≠ .tup xs) ∧ (∀ u y, o ≠ .frz u y) ∧ (∀ fs, o ≠ .xd fs) := fun {a} ha => by
    obtain ⟨i, c, _, _, q⟩ := r.cell ha
    obtain ⟨o, e1, e2, e3, e4⟩ := q.there
    refine ⟨o, e1, fun z => s.keep a o e1 z e2, e2, e3, e4, fun fs z => ?_⟩
    subst z
    cases c with
    | lst xs => obtain ⟨ys, z, _⟩ := q; rw [e1] at z; cases z
    | ins c fs => obtain ⟨dx, gs, z, _⟩ := q; rw [e1] at z; cases z
    | dct kvs => obtain ⟨gs, z, _⟩ := q; rw [e1] at z; cases z
  have m01 : ∀ a ∈ μ0, a ∈ μ1 := fun a ha => by rw [e1]; exact List.mem_append_left _ ha
  have he : ∀ a ∈ ext, a ∈ μ1 := fun a ha => by rw [e1]; exact List.mem_append_right _ ha
  have hc : ∀ a ∈ μ, ∀ ys, Rd H1 a (.tup ys) → a ∈ μ1 := fun a ha ys z => by
    by_cases h0 : a ∈ μ0
    · exact m01 a h0
    · exfalso
      obtain ⟨o, _, k2, k3, k4, k5, _⟩ := kept ha
      have k2 := k2 h0
      rcases z with z | ⟨u, z⟩
      · rw [k2] at z; exact k4 ys (Option.some.inj z)
      · rw [k2] at z; exact k5 u _ (Option.some.inj z)
  have at_ : ∀ (j : Nat) (a : Addr), μ1[j]? = some a → (μ ++ ext)[em ι μ.length j]? = some a := fun j a e => by
    unfold em
    cases ej : ι[j]? with
    | some i =>
      obtain ⟨b, b1, b2⟩ := ia j i ej
      have hj : j < μ0.length := (List.getElem?_eq_some_iff.mp b2).1
      rw [e1, List.getElem?_append_left hj, b2] at e
      cases e
      show (μ ++ ext)[i]? = some _
      rw [List.getElem?_append_left (List.getElem?_eq_some_iff.mp b1).1]
      exact b1
    | none =>
      have hj : ι.length ≤ j := List.getElem?_eq_none_iff.mp ej
      rw [e1, List.getElem?_append_right (by rw [← il]; exact hj), ← il] at e
      show (μ ++ ext)[μ.length + (j - ι.length)]? = some _
      rw [List.getElem?_append_right (by omega), show μ.length + (j - ι.length) - μ.length = j - ι.length by omega]
      exact e
  have st : Stp μ H (μ ++ ext) H1 := ⟨⟨ext, rfl, fresh⟩, fun b o hb nb ht => s.keep b o hb (fun z => nb (sub b z)) ht⟩
  have el : h.length = μ.length := r.len.symm
  have l1 : μ0.length + ext.length = h1.length := by rw [← r1.len, e1, List.length_append]
  refine ⟨st, ⟨?_, ?_, fun i a c f1 f2 => ?_, r1.tabs, (fun e dd z => by rw [hx] at z; cases z), fun i z => by rw [hl] at z; cases z⟩, hc, he, at_, fun dd fs z m w => ?_⟩
  · unfold joinH
    rw [List.length_append, List.length_append, putJ_len, List.length_map, List.length_drop, il]
    omega
  · have nd1 := r1.nd
    rw [e1] at nd1
    refine List.nodup_append.mpr ⟨r.nd, (List.nodup_append.mp nd1).2.1, fun a ha b hb z => ?_⟩
    subst z
    obtain ⟨o, k1, _, k3, _⟩ := kept ha
    obtain ⟨ps, z⟩ := fresh a hb o k1
    exact k3 ps z
  · unfold joinH at f2
    by_cases hi : i < μ.length
    · rw [List.getElem?_append_left hi] at f1
      rw [List.getElem?_append_left (by rw [putJ_len, el]; exact hi)] at f2
      by_cases hm : i ∈ ι
      · obtain ⟨j, hj, ej⟩ := List.mem_iff_getElem.mp hm
        have ej : ι[j]? = some i := by rw [List.getElem?_eq_getElem hj, ej]
        obtain ⟨b, b1, b2⟩ := ia j i ej
        rw [f1] at b1
        cases b1
        have hj1 : j < h1.length := by omega
        have f3 := putJ_at (h := h) (cs := h1.map (emC ι h.length)) nd (fun i hi => by rw [el]; exact ilt i hi) ej (by rw [List.getElem?_map, List.getElem?_eq_getElem hj1]; rfl)
        rw [f3] at f2
        cases f2
        rw [el]
        refine rc_sh hc he at_ (List.all_eq_true.mp n _ (List.getElem_mem hj1)) (r1.at_ j a _ ?_ (List.getElem?_eq_getElem hj1))
        rw [e1, List.getElem?_append_left (by omega)]
        exact b2
      · rw [putJ_ne hm] at f2
        have n0 : a ∉ μ0 := fun z => by
          obtain ⟨j, hj, ej⟩ := List.mem_iff_getElem.mp z
          have hj2 : j < ι.length := by rw [il]; exact hj
          obtain ⟨b, b1, b2⟩ := ia j ι[j] (List.getElem?_eq_getElem hj2)
          rw [List.getElem?_eq_getElem hj, ej] at b2
          cases b2
          obtain ⟨p1, p2⟩ := List.getElem?_eq_some_iff.mp f1
          obtain ⟨p3, p4⟩ := List.getElem?_eq_some_iff.mp b1
          have := (List.getElem_inj r.nd).mp (p2.trans p4.symm)
          exact hm (by rw [this]; exact List.getElem_mem hj2)
        obtain ⟨o, k1, k2, _⟩ := kept (List.mem_of_getElem? f1)
        exact (r.at_ i a c f1 f2).mono st ((k2 n0).trans k1.symm)
    · have hle : μ.length ≤ i := Nat.le_of_not_lt hi
      rw [List.getElem?_append_right hle] at f1
      rw [List.getElem?_append_right (by rw [putJ_len, el]; exact hle), putJ_len, el, List.getElem?_map, List.getElem?_drop] at f2
      cases f3 : h1[ι.length + (i - μ.length)]? with
      | none => rw [f3] at f2; cases f2
      | some c0 =>
        rw [f3] at f2
        cases f2
        refine rc_sh hc he at_ (List.all_eq_true.mp n c0 (List.mem_of_getElem? f3)) (r1.at_ _ a c0 ?_ f3)
        rw [e1, List.getElem?_append_right (by omega), il, show μ0.length + (i - μ.length) - μ0.length = i - μ.length by omega]
        exact f1
  · rcases List.mem_append.mp w with w | w
    · by_cases h0 : dd ∈ μ0
      · exact m (m01 dd h0)
      · obtain ⟨o, _, k2, _, _, _, k6⟩ := kept w
        rw [k2 h0] at z
        exact k6 fs (Option.some.inj z)
    · exact m (he dd w)
theorem sp_sh (hx : G.ex = none) (hl : G.la = none) {vs vs0 : List IV} {hs : Hpi} {R0 R : Res → Prop} (nd : ι.Nodup) (il : ι.length = hs.length) (ev : vs = emVs ι h.length vs0) (rv : rbs ι.length vs0 = true) (rh : hs.all (rbC ι.length) = true)
    (cells : ∀ (j i : Nat) (c : Cell), ι[j]? = some i → hs[j]? = some c → h[i]? = some (emC ι h.length c)) (hR : ∀ r0, R0 r0 → nkR r0 = true ∧ R (emR ι h r0)) {xs : List V} {Q : VK} {E : XK} (q : spOf K G vs h R xs H Q E) : spOf K G vs0 hs R0 xs H Q E := by
  obtain ⟨μ, r, qs, okq, exq⟩ := q
  have el : h.length = μ.length := r.len.symm
  have ilt : ∀ (j i : Nat), ι[j]? = some i → i < μ.length := fun j i e => by
    have hj : j < hs.length := by rw [← il]; exact (List.getElem?_eq_some_iff.mp e).1
    have := cells j i hs[j] e (List.getElem?_eq_getElem hj)
    rw [← el]
    exact (List.getElem?_eq_some_iff.mp this).1
  obtain ⟨μ0, hμ⟩ : ∃ μ0 : Emb, μ0 = ι.map fun i => μ.getD i 0 := ⟨_, rfl⟩
  have l0 : ι.length = μ0.length := by rw [hμ, List.length_map]
  have ia : ∀ (j i : Nat), ι[j]? = some i → ∃ a, μ[i]? = some a ∧ μ0[j]? = some a := fun j i e => by
    have hi := ilt j i e
    refine ⟨μ[i], List.getElem?_eq_getElem hi, ?_⟩
    rw [hμ, List.getElem?_map, e]
    simp [List.getD, List.getElem?_eq_getElem hi]
  have at0 : ∀ (j i : Nat) (a : Addr), ι[j]? = some i → μ[i]? = some a → μ0[j]? = some a := fun j i a e1 e2 => by
    obtain ⟨b, b1, b2⟩ := ia j i e1
    rw [e2] at b1
    cases b1
    exact b2
  have sub : ∀ a ∈ μ0, a ∈ μ := fun a ha => by
    obtain ⟨j, hj, e⟩ := List.mem_iff_getElem.mp ha
    obtain ⟨b, b1, b2⟩ := ia j ι[j] (List.getElem?_eq_getElem (by rw [l0]; exact hj))
    rw [List.getElem?_eq_getElem hj, e] at b2
    cases b2
    exact List.mem_of_getElem? b1
  have nd0 : μ0.Nodup := by
    rw [hμ]
    refine List.pairwise_map.mpr (List.Pairwise.imp_of_mem (fun {i j} hi hj hne z => ?_) nd)
    obtain ⟨k1, l1, m1⟩ := List.mem_iff_getElem.mp hi
    obtain ⟨k2, l2, m2⟩ := List.mem_iff_getElem.mp hj
    have p1 := ilt k1 i (by rw [List.getElem?_eq_getElem l1, m1])
    have p2 := ilt k2 j (by rw [List.getElem?_eq_getElem l2, m2])
    simp only [List.getD, List.getElem?_eq_getElem p1, List.getElem?_eq_getElem p2, Option.getD_some] at z
    exact hne ((List.getElem_inj r.nd).mp z)
  have r0 : Rp K G μ0 hs H := ⟨by rw [← l0, il], nd0, fun j a c e1 e2 => by
    have hj : j < ι.length := by rw [l0]; exact (List.getElem?_eq_some_iff.mp e1).1
    obtain ⟨b, b1, b2⟩ := ia j ι[j] (List.getElem?_eq_getElem hj)
    rw [e1] at b2
    cases b2
    exact rc_part hx hl sub at0 (List.all_eq_true.mp rh c (List.mem_of_getElem? e2)) (r.at_ _ a _ b1 (cells j _ c (List.getElem?_eq_getElem hj) e2)), r.tabs, (fun e dd z => by rw [hx] at z; cases z), fun i z => by rw [hl] at z; cases z⟩
  refine ⟨μ0, r0, rvs_part hx hl sub at0 rv (by rw [← ev]; exact qs), fun v h1 μ1 H1 x k0 s1 r1 q1 => ?_, fun e h1 μ1 H1 cls d k0 s1 r1 q1 => ?_⟩
  · obtain ⟨n1, n2⟩ := hR _ k0
    obtain ⟨n3, n4⟩ := band (show (nk v && h1.all nkC) = true from n1)
    obtain ⟨ext, e1, fr⟩ := s1.pre
    obtain ⟨st, rj, hc, he, at_, _⟩ := join_ok hx hl r nd l0 ia e1 fr s1 r1 n4
    exact okq (emV ι h.length v) _ (μ ++ ext) H1 x n2 st rj (by rw [el]; exact rv_sh hc he at_ n3 q1)
  · obtain ⟨n1, n2⟩ := hR _ k0
    obtain ⟨n3, n4⟩ := band (show (nk e.v && h1.all nkC) = true from n1)
    obtain ⟨ext, e1, fr⟩ := s1.pre
    obtain ⟨st, rj, hc, he, at_, hd⟩ := join_ok hx hl r nd l0 ia e1 fr s1 r1 n4
    refine exq ⟨e.c, emV ι h.length e.v⟩ _ (μ ++ ext) H1 cls d n2 st rj ?_
    obtain ⟨a1, dd, v, a2, a3, a4, a5⟩ := q1
    exact ⟨a1, dd, v, a2, a3, hd dd _ a3 a4, by rw [el]; exact rv_sh hc he at_ n3 a5⟩
theorem shf_fn {C : CSp} {b : Bool} {P : Program} {w : World} {mg : Str → Option Value} {base : Heap} {k : Nat} {f : Nat} {fA : Addr} {fd : FuncData} {ps : List Str} (hx : G.ex = none) (hl : G.la = none) (F : ∀ vs h R, C f vs h R → FnG b P w K mg base k fA fd ps (spOf K G vs h R)) {vs : List IV} {R : Res → Prop} (c : Shf C f vs h R) : FnG b P w K mg base k fA fd ps (spOf K G vs h R) := by
  rcases c with c | ⟨ι, vs0, hs, R0, a1, a2, a3, a4, a5, a6, c, hR⟩
  · exact F vs h R c
  · exact (F vs0 hs R0 c).imp fun xs H Q E q => sp_sh hx hl a1 a2 a3 a4 a5 a6 hR q
end
end MP
set_option maxRecDepth 100000
set_option maxHeartbeats 4000000
/-! MPq: own errors are made: super().__init__(given); self.given = given. -/
namespace MPx
open PySem PySem.W PySem.Calls PyProof.Rows PySem.HandSPX
def xA (fld : Str) (p1 p2 : Pos) : Arguments := { posonlyargs := [], args := [{ arg := "self", annotation := none, pos := p1 }, { arg := fld, annotation := none, pos := p2 }], vararg := none, kwonlyargs := [], kw_defaults := [], kwarg := none, defaults := [] }
def xB (fld : Str) (q1 q2 q3 q4 q5 q6 q7 q8 q9 q10 : Pos) : List Stmt :=
  [.Expr (.Call (.Attribute (.Call (.Name "super" q1) [] [] q2) "__init__" q3) [.Name fld q4] [] q5) q6, .Assign [.Attribute (.Name "self" q7) fld q8] (.Name fld q9) q10]
/-- what the written part says of such a class at C, its __init__ at fI -/
structure XTxt (P : Program) (K : Frag) (C fI : Addr) (fld : Str) : Prop where
  cls : ∃ nm q N bs bm sn sub ab col dd k0 k1 k2 k3 k5, K.lookup C = some (excClassObj nm q C N bs bm true sn sub ab col dd k0 k1 k2 k3 k5 "ValueError.__new__") ∧ refsVE bm = true
  sa : findIn K (.ref C) "__setattr__" = some (some (.builtin "object.__setattr__"))
  noN : findIn K (.ref C) fld = some none
  iC : findIn K (.ref C) "__init__" = some (some (.ref fI))
  tC : typeIn K (.ref fI) = some (.type "function")
  kC : keepIn K (.ref C) = true
  exC : subIn K (.ref C) (.type "BaseException") = some true
  veC : subIn K (.ref C) (.type "ValueError") = some true
  tyC : typeIn K (.ref C) = some (.type "type")
  own : mroIn K C (.ref C) = some true
  sup : ks_superIn K C C "__init__" = some (some (.builtin "ValueError.__init__"))
  opq : nsIn K cStatics "thirdparty.any" = some none
  top : (P.main.scope.names.lookup ("super" : Str)).isSome = false
  fn : ∃ (oc : Value) (od : Option Addr) (doc pm : Value) (an : Option Addr) (cda cc : Addr) (ct : Value) (osl : Array (Option Value)) (qual : Str) (sc : Scope) (p1 p2 q1 q2 q3 q4 q5 q6 q7 q8 q9 q10 : Pos) (ccl cl : Value) (cdd cld : Option Addr) (ccs csl : Array (Option Value)) (vs : Array Value) (file : Str) (tf : Tok),
    K.lookup fI = some ⟨oc, od, .func (fnX "__init__" qual (xA fld p1 p2) (xB fld q1 q2 q3 q4 q5 q6 q7 q8 q9 q10) sc [("__class__", cc)] .none .none doc pm an (.ref cda) ct), osl⟩ ∧ codeIn K (.ref cda) qual = true ∧
    K.lookup cda = some ⟨ccl, cdd, .fields vs, ccs⟩ ∧ vs[2]? = some (.str file tf) ∧ ((P.main.file : Str) == file) = true ∧ K.lookup cc = some ⟨cl, cld, .cell (some (.ref C)), csl⟩ ∧
    sc.kind = .function ∧ sc.isCoroutine = false ∧ sc.isGenerator = false ∧ (∀ x ∈ sc.names, x.2 ≠ .cell) ∧ sc.names.lookup ("self" : Str) = some .local ∧ sc.names.lookup fld = some .local ∧ sc.names.lookup ("super" : Str) = some .globalImplicit ∧ sc.names.lookup ("__class__" : Str) = some .free ∧ (q3.endLine == q5.line) = true
  ne : (("self" : Str) == fld) = false
  nd : (fld == ("__debug__" : Str)) = false
  bnd : ∀ (qual : Str) (body : List Stmt) (sc : Scope) (cl : List (Str × Addr)) (doc pm : Value) (an : Option Addr) (cdv ct : Value) (p1 p2 : Pos) (x v : Value), bindArgs (fnX "__init__" qual (xA fld p1 p2) body sc cl .none .none doc pm an cdv ct) ⟨[x, v], []⟩ = pure [(("self" : Str), x), (fld, v)]
theorem one_size (v : Value) : [v].length ≤ sizeLine := by
  rw [sizeLine_eq]
  exact (by decide : 1 ≤ 16777216)
theorem b_super : bootBuiltins "super" = some (.type "super") := by decide +kernel
/-- what __init__ leaves of a fresh exception at x -/
structure InitEnd (h h' : Heap) (x C dx : Addr) (fld : Str) (v : Value) : Prop where
  keep : ∀ b o, b ≠ x → h.get? b = some o → h'.get? b = some o
  obj : ∃ t1, h'.get? x = some { cls := .ref C, dict := some dx, data := .fields #[.ref t1, .none, .none, .none, .bool false, .none] }
  dbig : h.objs.size ≤ dx
  dne : dx ≠ x
  ns : h'.Ns1 dx (fun y => if y = fld then some v else none)
structure OwnMade (h h' : Heap) (e C d : Addr) (fld : Str) (v : Value) : Prop where
  keep : ∀ b o, h.get? b = some o → h'.get? b = some o
  new : h.objs.size ≤ e
  obj : ∃ oe vs, h'.get? e = some oe ∧ oe.cls = .ref C ∧ oe.dict = some d ∧ oe.data = .fields vs ∧ vs[1]? = some .none
  dbig : h.objs.size ≤ d
  dne : d ≠ e
  ns : h'.Ns1 d (fun y => if y = fld then some v else none)
section
variable {prog : Program} {w : World} {A : Around} {E : Value → Shared → Prop} {R : Result → Shared → Prop} {s : Shared} {K : Frag} {mg mb : Str → Option Value} {C fI : Addr} {fld : Str}
/-- the bound __init__ of ValueError, called -/
theorem call_mw {h : Heap} {g : Array GenState} {d : Drawn} {tk : Nat} {os : OsState} {u x t0 : Addr} {v : Value} {Q : Value → Shared → Prop} (X : K.In h) {nm q : Str} {N : Addr} {bs bm : List Value} {sn : List Str} {sub : List Value} {ab : Bool} {col : Option Bool} {dd : Option Addr} {k0 k1 k2 k3 k5 : Option Value}
    (hC : K.lookup C = some (excClassObj nm q C N bs bm true sn sub ab col dd k0 k1 k2 k3 k5 "ValueError.__new__")) (hx : h.get? x = some (excO C t0)) (hu : h.get? u = some (kxs_mw "ValueError.__init__" x))
    (hq : ∀ h' t1, (∀ b o, b ≠ x → h.get? b = some o → h'.get? b = some o) → h'.get? x = some (excO C t1) → Q .none ⟨h', g, d, tk, os⟩) : wpAny (model prog w) A (call (.ref u) [v]) Q E ⟨h, g, d, tk, os⟩ := by
  refine wpAny_call (codeAny_of_tree ?_)
  show wpAny _ A.in1 (callAny (.ref u) ⟨[v], []⟩) _ _ _
  simp only [callAny]
  refine wpAny_bind (wpAny_load hu ?_)
  simp only [kxs_mw, show (Value.type "method-wrapper" == Value.type "method" || Value.type "method-wrapper" == Value.type "builtin_function_or_method" || Value.type "method-wrapper" == Value.type "method-wrapper") = true by decide, if_true]
  refine KFB.if_so (by decide) ?_
  refine wpAny_bind (check_bound_init PySem.F.excBase_ValueError.toExcCallFacts (X _ _ hC) hx rfl ?_)
  refine wpAny_bind (wpAny_pure (wpAny_pure ?_))
  refine ⟨plainId_quiet PySem.F.excBase_ValueError.init.plain _, codeAny_builtin PySem.F.excBase_ValueError.initEntry ?_⟩
  exact exc_init_tree (cls := .ref C) (t0 := t0) (dv := none) (c2 := .none) (c3 := .none) (b4 := .bool false) hx (one_size v) fun h' k e _ => hq h' _ k e
theorem own_init (T : XTxt prog K C fI fld) {x t0 : Addr} {v : Value} (X : K.In s.heap) (G : s.heap.Ns mainGlobals mg) (gs : mg ("super" : Str) = none) (B : s.heap.Ns builtinsNs mb) (bs : mb ("super" : Str) = some (.type "super")) (hlim : s.heap.NoLimit) (hx : s.heap.get? x = some (excO C t0)) (hnx : K.lookup x = none) (hroom : A.depth < recursionLimit)
    (hq : ∀ h' tk dx, InitEnd s.heap h' x C dx fld v → R (.ok (.ret .none)) { s with heap := h', toks := tk }) :
    codeAny (model prog w) A (.call (.ref fI) ⟨[.ref x, v], []⟩) R s := by
  obtain ⟨oc, od, doc, pm, an, cda, cc, ct, osl, qual, sc, p1, p2, q1, q2, q3, q4, q5, q6, q7, q8, q9, q10, ccl, cl, cdd, cld, ccs, csl, vs, file, tf, ho, hcd, hcda, hvs, hfile, hcc, hk, hco, hgen, hcell, hself, hfld, hsup, hcls, hline⟩ := T.fn
  obtain ⟨nm, q, N, bs', bm, sn, sub, ab, col, dd, k0, k1, k2, k3, k5, hC, hbm⟩ := T.cls
  have hcl : clsIn K C = some { name := nm, bases := bs', mro := .ref C :: bm, ns := N, qualname := q, hasDict := true, slotNames := sn, subclasses := sub, abstract := ab, collection := col, hasDel := false } := by unfold clsIn; rw [hC] <;> rfl
  refine ks_codeAny_call_defAt (fd := fnX "__init__" qual (xA fld p1 p2) (xB fld q1 q2 q3 q4 q5 q6 q7 q8 q9 q10) sc [("__class__", cc)] .none .none doc pm an (.ref cda) ct) (body := xB fld q1 q2 q3 q4 q5 q6 q7 q8 q9 q10) (binds := [("self", .ref x), (fld, v)])
    hroom (X _ _ ho) rfl hlim (codeRec_of X hcd) rfl (BindsTo.of_eq (T.bnd _ _ _ _ _ _ _ _ _ _ _ _ _)) hcell (fun y hy => ?_) (fun h₁ hns k => ?_) hco hgen hk
  · rcases List.mem_cons.mp hy with rfl | hy
    · exact hself
    · have e : y = (fld, v) := by simpa using hy
      rw [e]; exact hfld
  · have X₁ : K.In h₁ := X.keeps k
    have hx₁ := k _ _ hx
    have hxL : s.heap.objs.size ≠ x := Nat.ne_of_gt (Heap.lt_size hx)
    have m1 : ([(("self" : Str), Value.ref x), (fld, v)] : List (Str × Value)).reverse.lookup ("self" : Str) = some (.ref x) := by
      show List.lookup ("self" : Str) [(fld, v), (("self" : Str), Value.ref x)] = _
      rw [List.lookup, T.ne]
      rfl
    have m2 : ([(("self" : Str), Value.ref x), (fld, v)] : List (Str × Value)).reverse.lookup fld = some v := by
      show List.lookup fld [(fld, v), (("self" : Str), Value.ref x)] = _
      simp [List.lookup]
    obtain ⟨oD, hD1, hD2⟩ : ∃ oD, h₁.get? C = some oD ∧ oD.data = .cls { name := nm, bases := bs', mro := .ref C :: bm, ns := N, qualname := q, hasDict := true, slotNames := sn, subclasses := sub, abstract := ab, collection := col, hasDel := false } := ⟨_, X₁ _ _ hC, rfl⟩
    generalize henv : callEnv (fnX "__init__" qual (xA fld p1 p2) (xB fld q1 q2 q3 q4 q5 q6 q7 q8 q9 q10) sc [("__class__", cc)] .none .none doc pm an (.ref cda) ct) s.heap.objs.size fI = env
    have ek : env.scope = sc := by rw [← henv]; rfl
    have el : env.locals = s.heap.objs.size := by rw [← henv]; rfl
    have hki : interactive env = false := by simp [interactive, ek, hk]
    have kS : env.kindOf "super" = some .globalImplicit := by unfold Env.kindOf; rw [ek]; exact hsup
    have kC : env.kindOf "__class__" = some .free := by unfold Env.kindOf; rw [ek]; exact hcls
    have kSelf : env.kindOf "self" = some .local := by unfold Env.kindOf; rw [ek]; exact hself
    have kF : env.kindOf fld = some .local := by unfold Env.kindOf; rw [ek]; exact hfld
    have hk' : env.scope.kind = .function := by rw [ek]; exact hk
    have he : eval (.Call (.Attribute (.Call (.Name "super" q1) [] [] q2) "__init__" q3) [.Name fld q4] [] q5) env = (do
      let ov ← attributeBase (.Call (.Name "super" q1) [] [] q2) "__init__" env (eval (.Call (.Name "super" q1) [] [] q2) env)
      standAt q3.atName
      let (f, first) ← holding [ov] (getMethod ov "__init__" (L2.plainOf (.Call (.Name "super" q1) [] [] q2) env))
      callWith q5 f first (backTo q5 (starEach [.Name fld q4] env)) []) := by
      show (do
        let ov ← attributeBase (.Call (.Name "super" q1) [] [] q2) "__init__" env (eval (.Call (.Name "super" q1) [] [] q2) env)
        standAt q3.atName
        methodCall (.Call (.Name "super" q1) [] [] q2) "__init__" q3 q5 env ov 1 (backTo q5 (starEach [.Name fld q4] env)) []) = _
      refine congrArg (fun f => attributeBase (.Call (.Name "super" q1) [] [] q2) "__init__" env (eval (.Call (.Name "super" q1) [] [] q2) env) >>= f) (funext fun ov => congrArg (fun f => standAt q3.atName >>= f) (funext fun _ => ?_))
      exact L2.mcall_line rfl hline
    refine ks_wpAt_execs_cons (ks_wpAt_Expr_any (ks_wpAt_MethodCall (pl := L2.plainOf (.Call (.Name "super" q1) [] [] q2) env) ?_ he) hki rfl)
    refine ks_wpAt_super_base (f := fI) (cc := cda) kS kC rfl (by rw [← henv]; rfl) (X₁ _ _ ho) rfl rfl (by rw [← henv]; rfl) (X₁ _ _ hcda) rfl hvs hfile T.top ?_
    refine ks_loadName_global hk' kS (loadGlobal_builtin (mg := mg) ?gg gs ?bb bs ⟨rfl, ?_⟩)
    case gg =>
      have e1 : env.globals = mainGlobals := by rw [← henv]; rfl
      rw [e1]
      exact G.keeps k
    case bb =>
      have e1 : env.builtins = builtinsNs := by rw [← henv]; rfl
      rw [e1]
      exact B.keeps k
    refine wpAny_loadName_free hk' kC (c := cc) (by rw [← henv]; rfl) ⟨_, X₁ _ _ hcc, rfl⟩ ?_
    refine wpAny_loadName_local hk' kSelf (by rw [el]; exact hns) m1 ?_
    refine ks_wpAny_isType_cls hD1 hD2 ⟨rfl, ?_⟩
    have xC : x ≠ C := fun z => by
      have z2 := X₁ _ _ hC
      rw [← z, hx₁] at z2
      cases z2
    refine ks_wpAny_call_super hD1 hD2 hx₁ rfl (fun c z => by cases z) (looks_mroIn X₁ T.own) (fun h2 e2 k2 => ?_)
    have X₂ : K.In h2 := X₁.keeps k2
    have hx₂ := k2 _ _ hx₁
    have I₂ : InstAt h2 x (excO C t0) C none := ⟨hx₂, rfl, rfl, trivial⟩
    have sup : alongIn K "__init__" (((.ref C :: bm : List Value).dropWhile (· != .ref C)).drop 1) = some (some (.builtin "ValueError.__init__")) := by
      have z := T.sup
      unfold ks_superIn at z
      rw [hcl] at z
      exact z
    refine kxs_getMethod kxs_ValueError e2 (looks_opaque X₂ T.opq) (l₀ := .ref C :: bm) (fun A Q E s k q => wpAny_bind ((looks_clsIn X₂ hcl) A _ E s k (wpAny_pure q))) rfl X₂ sup (I₂.type.andThen (looks_subIn X₂ T.veC)) xC rfl ?_
    have k3 : ∀ b o, h2.get? b = some o → (h2.push (kxs_mw "ValueError.__init__" x)).get? b = some o := fun b o e => Heap.get?_push_of_some _ e
    have hu : (h2.push (kxs_mw "ValueError.__init__" x)).get? h2.objs.size = some (kxs_mw "ValueError.__init__" x) := Heap.get?_push_size _ rfl
    have hns3 : (h2.push (kxs_mw "ValueError.__init__" x)).Ns env.locals (fun y => ([(("self" : Str), Value.ref x), (fld, v)] : List (Str × Value)).reverse.lookup y) := by rw [el]; exact (hns.keeps k2).keeps k3
    show wpAny _ _ (callWith q5 (.ref h2.objs.size) [] ((false, eval (.Name fld q4) env) :: backTo q5 (starEach [] env)) []) _ _ _
    refine kxs_callWith (i := "ValueError.__init__") (x := x) rfl (evalArgs_plain (Calls.spliced_cons (wpAny_Name (wpAny_loadName_local hk' kF hns3 m2 (Calls.spliced_nil ⟨hu, ?_⟩)) T.nd)))
    refine call_mw (X₂.keeps k3) hC (k3 _ _ hx₂) hu (fun h4 t1 k4 e4 => ?_)
    have kk : ∀ b o, b ≠ x → s.heap.get? b = some o → h4.get? b = some o := fun b o hb e => k4 b o hb (k3 b o (k2 b o (k b o e)))
    have kk1 : ∀ b o, b ≠ x → h₁.get? b = some o → h4.get? b = some o := fun b o hb e => k4 b o hb (k3 b o (k2 b o e))
    have X₄ : K.In h4 := fun a o e => kk a o (fun z => by rw [z, hnx] at e; cases e) (X a o e)
    have hns4 : h4.Ns env.locals (fun y => ([(("self" : Str), Value.ref x), (fld, v)] : List (Str × Value)).reverse.lookup y) := by
      rw [el]
      obtain ⟨oL, es, ep, e1, r⟩ := hns
      exact ⟨oL, es, ep, kk1 _ _ hxL e1, r⟩
    refine wpAt_of_wpAny (wpAny_execs_cons (plainObj_wpAny_Assign_Attribute ?_))
    refine wpAny_Name (wpAny_loadName_local hk' kF hns4 m2 ?_) T.nd
    refine wpAny_Name (wpAny_loadName_local hk' kSelf hns4 m1 ?_) (by decide)
    refine set_plain X₄ (ox := excO C t1) (od := none) ⟨e4, rfl, rfl, trivial⟩ T.sa ?_
    refine exc_osa X₄ e4 hcl (show refsVE (.ref C :: bm) = true from hbm) rfl T.noN (fun h5 tk5 dx k5 dn dne hx5 hn5 => ?_)
    have z4 : s.heap.objs.size ≤ h4.objs.size := by
      obtain ⟨oL, es, ep, e1, r⟩ := hns
      exact Nat.le_of_lt (Heap.lt_size (kk1 _ _ hxL e1))
    exact wpAny_execs_nil (hq h5 tk5 dx ⟨fun b o hb e => k5 b o hb (kk b o hb e), ⟨t1, hx5⟩, Nat.le_trans z4 dn, dne, hn5⟩)
theorem own_made (T : XTxt prog K C fI fld) {v : Value} (X : K.In s.heap) (G : s.heap.Ns mainGlobals mg) (gs : mg ("super" : Str) = none) (B : s.heap.Ns builtinsNs mb) (bs : mb ("super" : Str) = some (.type "super")) (hlim : s.heap.NoLimit) (hroom : A.depth + 1 < recursionLimit)
    (hq : ∀ h' tk e d, OwnMade s.heap h' e C d fld v → R (.ok (.ret (.ref e))) { s with heap := h', toks := tk }) :
    codeAny (model prog w) A (.call (.ref C) ⟨[v], []⟩) R s := by
  obtain ⟨nm, q, N, bs', bm, sn, sub, ab, col, dd, k0, k1, k2, k3, k5, hC, hbm⟩ := T.cls
  obtain ⟨hp, g, dr, tk, os⟩ := s
  have k : ∀ b o, hp.get? b = some o → ((hp.push (kdv_tup [v])).push (excO C hp.objs.size)).get? b = some o := fun b o e => Heap.get?_push_of_some _ (Heap.get?_push_of_some _ e)
  have hget : ((hp.push (kdv_tup [v])).push (excO C hp.objs.size)).get? (hp.objs.size + 1) = some (excO C hp.objs.size) := by heap_get
  have hnx : K.lookup (hp.objs.size + 1) = none := by
    cases e : K.lookup (hp.objs.size + 1) with
    | none => rfl
    | some o =>
      have z : hp.get? (hp.objs.size + 1) = some o := X _ _ e
      exact absurd (Nat.lt_of_succ_lt (Heap.lt_size z)) (Nat.lt_irrefl _)
  refine call_own PySem.F.excBase_ValueError (fun X => refsVE_contains X bm hbm) (X _ _ hC) (looks_findIn X T.iC) (fun self => bind_fn X self T.tC) (one_size v) ?_
  refine own_init (s := ⟨(hp.push (kdv_tup [v])).push (excO C hp.objs.size), g, dr, tk, os⟩) T (X.keeps k) (G.keeps k) gs (B.keeps k) bs (hlim.keeps k) hget hnx ?_ fun h' tk' dx ⟨k', ⟨t1, hx⟩, dn, dne, hns⟩ => ?_
  · show A.depth + 1 < recursionLimit
    exact hroom
  · have old : ∀ b o, hp.get? b = some o → h'.get? b = some o := fun b o e => k' b o (Nat.ne_of_lt (Nat.lt_succ_of_lt (Heap.lt_size e))) (k b o e)
    have z : hp.objs.size + 1 + 1 ≤ dx := by
      have q := dn
      rw [Heap.size_push, Heap.size_push] at q
      exact q
    exact ⟨rfl, hq h' tk' (hp.objs.size + 1) dx ⟨old, Nat.le_succ _, ⟨_, _, hx, rfl, rfl, rfl, rfl⟩, Nat.le_trans (Nat.le_trans (Nat.le_succ _) (Nat.le_succ _)) z, dne, hns⟩⟩
end
end MPx
set_option maxRecDepth 100000
set_option maxHeartbeats 4000000
/-! MPr: raise X(e). -/
namespace MP
open PySem PySem.Spec PyProof.Rows
open L2 (V HO Hp upd SqL SqT Rd upd_same upd_ne RelV RelO Vals ne_of_none R2 OpR VK XK Cx TE TA PE PA PMk MkP Gl Inv thn ld_glob restrict ObjOk Zc raises_own tCons tNil)
theorem relO_own {fld : Str} {v : V} {v' : Value} (r : RelV v v') (f : Str) : RelO (List.lookup f [(fld, v)]) (if f = fld then some v' else none) := by
  by_cases hw : f = fld
  · subst hw
    rw [if_pos rfl]
    have q : List.lookup f [(f, v)] = some v := by simp [List.lookup]
    rw [q]
    exact r
  · rw [if_neg hw]
    have qw : (f == fld) = false := by simpa using hw
    have q2 : List.lookup f [(fld, v)] = none := by simp [List.lookup, qw]
    rw [q2]
    trivial
theorem raise_ok {X : Cx} {G : PEnv} {xn : List Str} {bg : Bool} {d : Nat} (hr : RoomG bg d X.A) (T : ∀ c x, xn[c]? = some x → ∃ fI, MPx.XTxt X.prog X.K (G.cA c) fI (G.xN c) ∧ X.mg x = some (.ref (G.cA c)) ∧ (x == ("__debug__" : Str)) = false) (gs : X.mg ("super" : Str) = none) : RaiseOk X G xn := by
  intro c x hc e te p pos hg hs he
  obtain ⟨fI, T, gC, hdb⟩ := T c x hc
  intro pins s σ H Q I h
  have ha : PA X [e] (tCons te tNil) := L2.pa_cons he L2.pa_nil (star_cons [] hs)
  refine wpAny_Call_Name_kw (ld_glob I hg gC ?_ hdb)
  refine PySem.W.callWith_K (h₀ := X.base) I.ok.mod.kin T.kC (thn (ha.run pos pins s σ H (fun vs H1 => ∃ v, vs = [v] ∧ ∀ dd, H1 dd = none → Q (.ref (G.cA c)) (some dd) (upd H1 dd (.xd [(G.xN c, v)]))) I ?_) fun us s1 hh => ?_) (star_cons [] hs) rfl
  · have e0 : (fun (x : V) (H1 : Hp) => ∃ v, [x] = [v] ∧ ∀ dd, H1 dd = none → Q (.ref (G.cA c)) (some dd) (upd H1 dd (.xd [(G.xN c, v)]))) = fun v H1 => ∀ dd, H1 dd = none → Q (.ref (G.cA c)) (some dd) (upd H1 dd (.xd [(G.xN c, v)])) :=
      funext fun x => funext fun H1 => propext ⟨fun ⟨v, e, q⟩ => by cases e; exact q, fun q => ⟨x, rfl, q⟩⟩
    show te σ H (fun x H1 => ∃ v, [x] = [v] ∧ ∀ dd, H1 dd = none → Q (.ref (G.cA c)) (some dd) (upd H1 dd (.xd [(G.xN c, v)])))
    rw [e0]
    exact h
  · obtain ⟨vs, H1, I1, r1, v, ev, q1⟩ := hh
    subst ev
    refine ⟨I1.kIn, ?_⟩
    cases r1 with
    | cons rv rn =>
      rename_i v' us'
      cases rn
      show wpAny _ _ (call (.ref (G.cA c)) [v']) _ _ _
      have hlim := I1.nolimit
      obtain ⟨mb, hB, hbb⟩ := I1.ok.mod.blt
      have hG := I1.ok.mod.glob.keeps I1.bk
      have hB' := hB.keeps I1.bk
      have bs : mb ("super" : Str) = some (.type "super") := (hbb _ (by decide)).trans MPx.b_super
      have kin := I1.kIn
      obtain ⟨hp, g, dr, tk, os⟩ := s1
      refine wpAny_call (MPx.own_made T kin hG gs hB' bs hlim (by have := hr.room.dp; omega) fun h' tk' e d M => ?_)
      show MkP X pins σ Q (.ref e) ⟨h', g, dr, tk', os⟩
      obtain ⟨oe, fv, hoe, hc, hd, hdat, h1⟩ := M.obj
      have hns := M.ns
      obtain ⟨G', g1, g2⟩ := restrict h' fun b => decide (b ≠ e)
      have gk : ∀ b, b ≠ e → G'.get? b = h'.get? b := fun b hb => g1 b (decide_eq_true hb)
      have ge : G'.get? e = none := g2 e (by simp)
      have old : ∀ b o, hp.get? b = some o → G'.get? b = some o := fun b o q => (gk b (Nat.ne_of_lt (Nat.lt_of_lt_of_le (Heap.lt_size q) M.new))).trans (M.keep b o q)
      have ob : ObjOk X.prog X.w (upd H1 d (.xd [(G.xN c, v)])) G' d (.xd [(G.xN c, v)]) :=
        ⟨_, hns.at (fun o q => (gk d M.dne).trans q), fun f => relO_own rv f⟩
      have J : Inv X pins σ (upd H1 d (.xd [(G.xN c, v)])) ⟨G', g, dr, tk', os⟩ := I1.laid (t' := tk') old M.dbig ob
      refine ⟨e, oe, fv, ⟨G', g, dr, tk', os⟩, _, .ref (G.cA c), some d, rfl, J, fun b o q => ?_, ge, hoe, ⟨hc, hd⟩, hdat, h1, ?_, rfl, I1.bare, raises_own T.exC T.tyC, q1 d (I1.hok.fresh M.dbig)⟩
      · by_cases hb : b = e
        · have q' : G'.get? b = some o := q
          rw [hb, ge] at q'; cases q'
        · exact (gk b hb).symm.trans q
      · rw [upd_ne (Ne.symm M.dne)]
        exact I1.hok.fresh M.new
end MP
set_option maxRecDepth 100000
set_option maxHeartbeats 4000000
/-! MPp: bodies and calls. -/
namespace MP
open PySem PySem.Spec PyProof.Rows
open L2 (V HO Hp upd SqL SqT Rd upd_same upd_ne RelV Vals ne_of_none R2 OpR VK XK CallR IxR PSet MtR Cx TruV TE TT TA TI TG TS WX PE PT PW PA PK PI PG PGs PTs PS PSs PMk Ends It Itl Itt Itr Gl Inv EP TP SP thn wipe Vis Loc BlkOk Takes Room Env0 Sp FnScope cxOf start CR CE)
/-- what holds of the program's names, in whatever frame; C: what calls do at depth d -/
structure GP (S : SI) (xn : List Str) (G : PEnv) (F : Cfg) (fA : Nat → Addr) (fd : Nat → FuncData) (ps : Nat → List Str) (P : Program) (w : World) (K : PySem.W.Frag) (mg : Str → Option Value) (base : Heap) : Prop where
  fn : ∀ f x, S.fn[f]? = some (some x) → mg x = some (.ref (fA f)) ∧ PySem.W.keepIn K (.ref (fA f)) = true
  pat : ∀ f n ks perm, (f, n, ks, perm) ∈ S.pats → ∀ (s : Shared) (us zs ws : List Value), K.In s.heap → us.length = n → zs.length = ks.length → permL (us ++ zs) perm = some ws → BindsTo s (fd f) ⟨us, ks.zip zs⟩ ((ps f).zip ws)
  cts : ∀ (g : Nat) (x : Str), S.cts[g]? = some x → ∃ (u : Value) (iv : IV) (v : V), mg x = some u ∧ F.ct[g]? = some iv ∧ RelV v u ∧ ∀ μ H, RV K G μ H iv v
  free : ∀ x ∈ freeNm, mg x = none
  attr : ∀ c f, F.oka c f = true → L2.Cls K (G.cA c) ∧ L2.NoAttr K (G.cA c) (G.fN f)
  fld : ∀ f x, S.fld[f]? = some x → G.fN f = x
  inj : ∀ f g, G.fN f = G.fN g → f = g
  calm : S.calm = true
  nact : S.act = false
  kdq : KdOk G K P w
  lamd : S.lam = true → (G.la = none ∧ ∀ f x, S.hn[f]? = some x → HelpF S F K mg f x) ∧ ∀ f x, S.pfn[f]? = some (some x) → mg x = some (.ref (fA f)) ∧ PySem.W.keepIn K (.ref (fA f)) = true
  exc : ∀ c x, xn[c]? = some x → ∃ fI, MPx.XTxt P K (G.cA c) fI (G.xN c) ∧ mg x = some (.ref (G.cA c)) ∧ (x == ("__debug__" : Str)) = false
  sup : mg ("super" : Str) = none
  xfn : ∀ c f, F.xf c = some f → G.fN f = G.xN c ∧ L2.XfC K (G.cA c) ∧ PySem.W.findIn K (.ref (G.cA c)) (G.xN c) = some none
  subq : ∀ c1 c2 b, F.sub c1 c2 = some b → PySem.W.exmOne K (.ref (G.cA c1)) (.ref (G.cA c2)) = some b ∧ PySem.W.kitOne K (.ref (G.cA c1)) (.ref (G.cA c2)) = some b ∧ L2.ExcC K (G.cA c1)
  clq : ∀ c y, S.cls[c]? = some y → mg y = some (.ref (G.cA c)) ∧ (y == ("__debug__" : Str)) = false
  exn : G.ex = none
  lan : G.la = none
section
variable {S : SI} {xn : List Str} {G : PEnv} {F : Cfg} {fA : Nat → Addr} {fd : Nat → FuncData} {ps : Nat → List Str} {P : Program} {w : World} {K : PySem.W.Frag} {mg : Str → Option Value} {base : Heap} {C : CSp} {d : Nat}
/-- what a def with lambdas leans on -/
def LamD (S : SI) (G : PEnv) (fA : Nat → Addr) (fd : Nat → FuncData) (ps : Nat → List Str) (P : Program) (w : World) (K : PySem.W.Frag) (mg : Str → Option Value) (base : Heap) (C : CSp) (d : Nat) (q : Str) (cd : Value) : Prop :=
  2 ≤ d ∧ (∀ f x, S.pfn[f]? = some (some x) → ∀ vs h R, C f vs h R → FnG false P w K mg base (d - 2) (fA f) (fd f) (ps f) (spOf K G vs h R)) ∧
    ∃ c T, cd = .ref c ∧ LamX.TabB base mg c T ∧ (T, q ++ "<lambda>") ∈ G.tb ∧ ∀ p ∈ G.tb, p.1 = T → p.2 = q ++ "<lambda>"
theorem GP.gx (p : GP S xn G F fA fd ps P w K mg base) {W : WX} {X : Cx} (e1 : X.prog = P) (e2 : X.w = w) (e3 : X.K = K) (e4 : X.mg = mg) (e5 : X.base = base) (hc : X.calm = true) (tk : Takes X W) (po : PassesOwn (model X.prog X.w) X.A X.env X.xe) (rm : RoomG S.gd d X.A) (nd : X.N.Nodup)
    (call : ∀ f x, S.fn[f]? = some (some x) → ∀ vs h R, C f vs h R → FnG S.gd P w K mg base d (fA f) (fd f) (ps f) (spOf K G vs h R)) (hk : X.env.scope.kind = .function)
    (lx : S.lam = true → LamD S G fA fd ps P w K mg base C d X.env.qual X.env.code) : GX S G F C W d fA fd ps X where
  calm := fun _ => hc
  takes := tk
  passes := po
  room := fun _ => rm
  un := by have := rm.room.un; omega
  gds := rm.gd
  nd := nd
  call := fun _ => by subst e1 e2 e3 e4 e5; exact call
  fn := by subst e3 e4; exact p.fn
  pat := by subst e3; exact p.pat
  cts := by subst e3 e4; exact p.cts
  free := by subst e4; exact p.free
  attr := by subst e3; exact p.attr
  fld := p.fld
  inj := p.inj
  fnk := hk
  xfn := by subst e3; exact p.xfn
  subq := by subst e3; exact p.subq
  clq := by subst e4; exact p.clq
  exn := fun _ => p.exn
  errq := fun z => by rw [p.calm] at z; cases z
  actq := fun z => by rw [p.nact] at z; cases z
  callP := fun z => by
    obtain ⟨h1, h2, _⟩ := lx z
    subst e1 e2 e3 e4 e5
    exact ⟨h1, fun f x hf => ⟨(p.lamd z).2 f x hf, h2 f x hf⟩⟩
  lamq := fun z => by
    obtain ⟨_, _, c, T, h1, h2, h3, h4⟩ := lx z
    subst e4 e5
    exact ⟨c, T, h1, h2, h3, h4⟩
  kdq := by subst e1 e2 e3; exact p.kdq
  hlp := fun z => by
    subst e3 e4
    exact (p.lamd z).1
/-- a def of the text, by its body -/
theorem fnG_of {f : Addr} {name qual : Str} {params : Arguments} {body : List Stmt} {scope : Scope} {dV kV doc pm cdv ct oc : Value} {an od : Option Addr} {osl : Array (Option Value)} {N pms : List Str} {df : MDef} {j fuel : Nat} {args : List IV} {h : Hpi} {R : Res → Prop}
    (p : GP S xn G F fA fd ps P w K mg base) (hF : F.act = fun _ _ _ => .stuck)
    (lk : K.lookup f = some ⟨oc, od, .func (PySem.W.fnOf name qual params body scope dV kV doc pm an cdv ct), osl⟩) (hcd : PySem.W.codeIn K cdv qual = true) (Sc : FnScope N pms scope)
    (hN : N.length = df.slots) (hl : args.length = pms.length) (hb : okB S xn N j scope df.body body = true)
    (call : ∀ f x, S.fn[f]? = some (some x) → ∀ vs h R, C f vs h R → FnG S.gd P w K mg base d (fA f) (fd f) (ps f) (spOf K G vs h R))
    (lx : S.lam = true → LamD S G fA fd ps P w K mg base C d (qual ++ ".<locals>.") cdv)
    (run : Wp C (evB F fuel df.body (startL df args) h retD) R) :
    FnG S.gd P w K mg base (d + 1) f (PySem.W.fnOf name qual params body scope dV kV doc pm an cdv ct) pms (spOf K G args h R) := by
  have len : ∀ vs H Q E, spOf K G args h R vs H Q E → vs.length = pms.length := fun vs H Q E ⟨μ, _, q, _⟩ => by rw [← q.length]; exact hl
  refine ⟨len, fun A outer s H args' us vs Q E hr e0 hb' r hsp => ?_⟩
  have hlv := len _ _ _ _ hsp
  have KX : K.In s.heap := e0.mod.kin.keeps fun b o e => (e0.bs b o e).1
  have lim : s.heap.NoLimit := e0.mod.nolimit.keeps fun b o e => (e0.bs b o e).1
  have hkind : ∀ y ∈ pms.zip us, scope.names.lookup y.1 = some .local ∨ (scope.names.lookup y.1 = some .cell ∧ ((cellsFrom (s.heap.objs.size + 1) scope.names []).lookup y.1).isSome = true) := fun ⟨n, v⟩ hy => by
    rcases Sc.par n (List.of_mem_zip hy).1 with q | q
    · exact .inl q
    · exact .inr ⟨q, PySem.W.cellsFrom_some _ _ _ (.inl q)⟩
  refine codeAny_call_function hr.room.depth (KX _ _ lk) rfl Sc.co Sc.gen rfl (PySem.W.codeRec_of KX hcd) (hb' _ _ _ _ ?_)
  refine wpAny_newFunctionEnv_cells Sc.kind hkind fun env he s1 x => ?_
  subst he
  refine ⟨lim.keeps x.toInCall.keep, codeAny_func ?_⟩
  obtain ⟨μ, rp, qa, okq, exq⟩ := hsp
  have I : Inv (cxOf (L2.CX P w) P w K mg base N qual scope f cdv A outer s H E) [] (start N vs) H s1 := L2.inv_start Sc hr.room.hd e0 hlv r x
  have g : GX S G F C (fun cls dd _ H => E cls dd H) d fA fd ps (cxOf (L2.CX P w) P w K mg base N qual scope f cdv A outer s H E) :=
    p.gx rfl rfl rfl rfl rfl rfl (L2.takes_of rfl rfl rfl rfl) (L2.passes_of rfl) (hr.deeper _) Sc.nd call Sc.kind lx
  have ht := (ct_sb xn C d fA fd ps j S G F (lamH G C F d fA fd ps S)).2 g ⟨fun _ _ _ => rfl, rfl, rfl, fun _ pn xe => raise_ok (bg := S.gd) (d := d) (hr.deeper _) p.exc p.sup⟩ hb fuel
  have rl : RL K G μ H (startL df args) (start N vs) := by
    refine ⟨?_, fun i y e => ?_⟩
    · unfold startL L2.start
      simp only [List.length_append, List.length_map, List.length_replicate, hN, qa.length]
    · unfold startL at e
      by_cases hi : i < args.length
      · rw [List.getElem?_append_left (by simpa using hi), List.getElem?_map] at e
        cases e2 : args[i]? with
        | none => rw [e2] at e; cases e
        | some z =>
          rw [e2] at e
          cases e
          obtain ⟨v, hv, q⟩ := qa.get e2
          refine ⟨v, ?_, q⟩
          unfold L2.start
          have hi2 : i < (vs.map some).length := by rw [List.length_map, ← qa.length]; exact hi
          rw [List.getElem?_append_left hi2, List.getElem?_map, hv]
          rfl
      · rw [List.getElem?_append_right (by simpa using hi), List.getElem?_replicate] at e
        split at e <;> cases e
  have hq : TMS K G C (fun cls dd _ H => E cls dd H) (evB F fuel df.body) { nx := fun _ H' => Q .non H', rt := Q } (start N vs) H := by
    refine ⟨μ, startL df args, h, retD, R, rp, rl, run, ?_⟩
    exact ⟨fun ℓ1 h1 μ1 H1 σ1 s1 r1 l1 w1 => okq .non h1 μ1 H1 .non w1 s1 r1 rfl, fun ℓ1 h1 μ1 H1 σ1 s1 r1 l1 w1 => w1.elim, fun ℓ1 h1 μ1 H1 σ1 s1 r1 l1 w1 => w1.elim, fun v h1 μ1 H1 x s1 r1 q w1 => okq v h1 μ1 H1 x w1 s1 r1 q,
      fun e ℓ1 h1 μ1 H1 σ1 cls dd s1 r1 l1 q w1 => exq e h1 μ1 H1 cls dd w1 s1 r1 q⟩
  refine wpAny_mono (ht.run [] s1 (start N vs) H _ I hq) (fun fl s' hs => ?_) fun e s' hs => hs
  have fin : ∀ {σ' : L2.St} {H' : Hp} {v : V} {u : Value}, Inv (cxOf (L2.CX P w) P w K mg base N qual scope f cdv A outer s H E) [] σ' H' s' → RelV v u → Q v H' → CE outer P w H s Q u s' :=
    fun {σ' H' v u} J rv q => ⟨v, H', J.os, J.bare, J.base, J.hok, rv, q⟩
  cases fl with
  | ret u =>
    obtain ⟨v, σ', H', J, rv, q⟩ := hs
    exact fin J rv q
  | next =>
    obtain ⟨σ', H', J, q⟩ := hs
    exact fin (v := V.non) (u := Value.none) J rfl q
  | brk => obtain ⟨_, _, _, q⟩ := hs; exact q.elim
  | cont => obtain ⟨_, _, _, q⟩ := hs; exact q.elim
/-! ### runs: what calls do, by the interpreter -/
def Runs (T : Nat → Option MDef) (V : Env1) : Nat → CSp
  | 0 => fun _ _ _ _ => False
  | d + 1 => fun f vs h R => ∃ df, T f = some df ∧ vs.length = df.params ∧ ∃ fuel, Wp (Shf (Runs T V d)) (bodyT V fuel df vs h) R
theorem Wp.mono {C C' : CSp} (hc : ∀ f vs h R, C f vs h R → C' f vs h R) : ∀ {t : Tree} {Q Q' : Res → Prop}, (∀ r, Q r → Q' r) → Wp C t Q → Wp C' t Q'
  | .stuck, _, _, _, w => w.elim
  | .done r, _, _, hq, w => hq r w
  | .call f vs h k, _, _, hq, w => by
    obtain ⟨R, c, w2⟩ := w
    exact ⟨R, hc _ _ _ _ c, fun r hr => Wp.mono hc hq (w2 r hr)⟩
theorem Shf.mono {C C' : CSp} (hc : ∀ f vs h R, C f vs h R → C' f vs h R) : ∀ f vs h R, Shf C f vs h R → Shf C' f vs h R := fun f vs h R q => by
  rcases q with q | ⟨ι, vs0, hs, R0, a1, a2, a3, a4, a5, a6, c, hR⟩
  · exact .inl (hc _ _ _ _ q)
  · exact .inr ⟨ι, vs0, hs, R0, a1, a2, a3, a4, a5, a6, hc _ _ _ _ c, hR⟩
theorem Runs.up {T : Nat → Option MDef} {V : Env1} : ∀ {d : Nat} {f : Nat} {vs : List IV} {h : Hpi} {R : Res → Prop}, Runs T V d f vs h R → Runs T V (d + 1) f vs h R
  | 0, _, _, _, _, r => r.elim
  | d + 1, _, _, _, _, r => by
    obtain ⟨df, e1, e2, fuel, w⟩ := r
    exact ⟨df, e1, e2, fuel, Wp.mono (Shf.mono fun _ _ _ _ => Runs.up) (fun _ z => z) w⟩
theorem Runs.le {T : Nat → Option MDef} {V : Env1} {d e : Nat} (hde : d ≤ e) {f : Nat} {vs : List IV} {h : Hpi} {R : Res → Prop} (r : Runs T V d f vs h R) : Runs T V e f vs h R := by
  induction hde with
  | refl => exact r
  | step _ ih => exact ih.up
theorem Runs.mono {T : Nat → Option MDef} {V : Env1} {d : Nat} {f : Nat} {vs : List IV} {h : Hpi} {R R' : Res → Prop} (hr : ∀ r, R r → R' r) (r : Runs T V d f vs h R) : Runs T V d f vs h R' := by
  cases d with
  | zero => exact r.elim
  | succ d =>
    obtain ⟨df, e1, e2, fuel, w⟩ := r
    exact ⟨df, e1, e2, fuel, Wp.mono (fun _ _ _ _ z => z) hr w⟩
/-- a closed run -/
theorem runT_wp {C : CSp} {rf : Nat → List IV → Hpi → Option Res} (hrf : ∀ f vs h r, rf f vs h = some r → C f vs h (· = r)) : ∀ {t : Tree} {r : Res}, runT rf t = some r → Wp C t (· = r)
  | .stuck, _, e => by cases e
  | .done r', _, e => Option.some.inj e
  | .call f vs h k, r, e => by
    simp only [runT] at e
    cases e2 : rf f vs h with
    | none => rw [e2] at e; cases e
    | some r1 =>
      rw [e2] at e
      exact ⟨_, hrf f vs h r1 e2, fun r' hr => by subst hr; exact runT_wp hrf e⟩
theorem run_of {T : Nat → Option MDef} {V : Env1} {fuel : Nat} : ∀ {d : Nat} {f : Nat} {vs : List IV} {h : Hpi} {r : Res}, runF T V fuel d f vs h = some r → Runs T V d f vs h (· = r)
  | 0, _, _, _, _, e => by cases e
  | d + 1, f, vs, h, r, e => by
    simp only [runF] at e
    cases e2 : T f with
    | none => rw [e2] at e; cases e
    | some df =>
      rw [e2] at e
      dsimp only at e
      by_cases hl : vs.length = df.params
      · rw [if_pos hl] at e
        exact ⟨df, e2, hl, fuel, runT_wp (fun f vs h r z => .inl (run_of z)) e⟩
      · rw [if_neg hl] at e
        cases e
/-- the same without lambdas -/
def SI.nl (S : SI) : SI := { S with lam := false }
theorem GP.nl (p : GP S xn G F fA fd ps P w K mg base) : GP S.nl xn G F fA fd ps P w K mg base :=
  ⟨p.fn, p.pat, p.cts, p.free, p.attr, p.fld, p.inj, p.calm, p.nact, p.kdq, (fun z => by cases z), p.exc, p.sup, p.xfn, p.subq, p.clq, p.exn, p.lan⟩
/-- a def of the table is a def of the text; cs: the code objects and their tables -/
structure FnFact (S : SI) (xn : List Str) (G : PEnv) (K : PySem.W.Frag) (cs : List (Addr × Addr)) (a : Addr) (fdx : FuncData) (pms : List Str) (df : MDef) : Prop where
  ex : ∃ (S' : SI) (name qual : Str) (params : Arguments) (body : List Stmt) (scope : Scope) (dV kV doc pm cdv ct oc : Value) (an od : Option Addr) (osl : Array (Option Value)) (N : List Str) (j : Nat),
    (S' = S ∨ S' = S.nl) ∧ fdx = PySem.W.fnOf name qual params body scope dV kV doc pm an cdv ct ∧ K.lookup a = some ⟨oc, od, .func (PySem.W.fnOf name qual params body scope dV kV doc pm an cdv ct), osl⟩ ∧ PySem.W.codeIn K cdv qual = true ∧ FnScope N pms scope ∧
      N.length = df.slots ∧ df.params = pms.length ∧ okB S' xn N j scope df.body body = true ∧
      (S'.lam = true → ∃ c T, cdv = .ref c ∧ (c, T) ∈ cs ∧ (T, qual ++ ".<locals>." ++ "<lambda>") ∈ G.tb ∧ ∀ p ∈ G.tb, p.1 = T → p.2 = qual ++ ".<locals>." ++ "<lambda>")
theorem fn_by {cs : List (Addr × Addr)} {a : Nat} {df : MDef} {args : List IV} {h : Hpi} {R : Res → Prop} {fuel : Nat} (p : GP S xn G F fA fd ps P w K mg base) (hF : F.act = fun _ _ _ => .stuck) (ff : FnFact S xn G K cs (fA a) (fd a) (ps a) df) (tbs : ∀ p ∈ cs, LamX.TabB base mg p.1 p.2) (hl : args.length = df.params)
    (call : ∀ f x, S.fn[f]? = some (some x) → ∀ vs h R, C f vs h R → FnG S.gd P w K mg base d (fA f) (fd f) (ps f) (spOf K G vs h R))
    (lx : S.lam = true → 2 ≤ d ∧ ∀ f x, S.pfn[f]? = some (some x) → ∀ vs h R, C f vs h R → FnG false P w K mg base (d - 2) (fA f) (fd f) (ps f) (spOf K G vs h R))
    (run : Wp C (evB F fuel df.body (startL df args) h retD) R) : FnG S.gd P w K mg base (d + 1) (fA a) (fd a) (ps a) (spOf K G args h R) := by
  obtain ⟨S', name, qual, params, body, scope, dV, kV, doc, pm, cdv, ct', oc, an, od, osl, N, j, hS, ef, lk, hcd, Sc, hN, hp, hb, hlm⟩ := ff.ex
  rw [ef]
  rcases hS with e | e
  · subst e
    refine fnG_of p hF lk hcd Sc hN (by rw [hl]; exact hp) hb call (fun z => ?_) run
    obtain ⟨c, T, h1, h2, h3, h4⟩ := hlm z
    exact ⟨(lx z).1, (lx z).2, c, T, h1, tbs _ h2, h3, h4⟩
  · subst e
    exact fnG_of (S := S.nl) p.nl hF lk hcd Sc hN (by rw [hl]; exact hp) hb call (fun z => absurd (show false = true from z) Bool.false_ne_true) run
theorem all_fn {T : Nat → Option MDef} {V : Env1} {cs : List (Addr × Addr)} (p : GP S xn G (Cfg.no V) fA fd ps P w K mg base) (hl : S.lam = false) (hT : ∀ f df, T f = some df → FnFact S xn G K cs (fA f) (fd f) (ps f) df) (tbs : ∀ p ∈ cs, LamX.TabB base mg p.1 p.2) :
    ∀ (d : Nat) (f : Nat) (vs : List IV) (h : Hpi) (R : Res → Prop), Runs T V d f vs h R → FnG S.gd P w K mg base d (fA f) (fd f) (ps f) (spOf K G vs h R)
  | 0, _, _, _, _, r => r.elim
  | d + 1, f, vs, h, R, r => by
    obtain ⟨df, e1, e2, fuel, wp⟩ := r
    exact fn_by p rfl (hT f df e1) tbs e2 (fun f _ _ vs h R c => shf_fn p.exn p.lan (fun vs h R => all_fn p hl hT tbs d f vs h R) c) (fun z => by rw [hl] at z; cases z) wp
/-! ### the law's own defs above the package's -/
def RunsL (T0 T : Nat → Option MDef) (V : Env1) (d0 : Nat) : Nat → CSp
  | 0 => Runs T0 V d0
  | n + 1 => fun f vs h R => Runs T0 V d0 f vs h R ∨ ∃ df, T f = some df ∧ vs.length = df.params ∧ ∃ fuel, Wp (Shf (RunsL T0 T V d0 n)) (bodyT V fuel df vs h) R
theorem FnG.gdo {b : Bool} {f : Addr} {fdx : FuncData} {pms : List Str} {sp : Sp} (F : FnG false P w K mg base d f fdx pms sp) : FnG b P w K mg base d f fdx pms sp :=
  ⟨F.len, fun A outer s H args us vs Q E hr => F.run A outer s H args us vs Q E ⟨hr.room, fun z => by cases z⟩⟩
theorem all_fnL {S0 : SI} {T0 T : Nat → Option MDef} {V : Env1} {cs : List (Addr × Addr)} {d0 : Nat} (p0 : GP S0 xn G (Cfg.no V) fA fd ps P w K mg base) (hl : S0.lam = false) (hg : S0.gd = false) (p : GP S xn G (Cfg.no V) fA fd ps P w K mg base)
    (hT0 : ∀ f df, T0 f = some df → FnFact S0 xn G K cs (fA f) (fd f) (ps f) df) (hT : ∀ f df, T f = some df → FnFact S xn G K cs (fA f) (fd f) (ps f) df) (hpf : ∀ f x, S.pfn[f]? = some (some x) → T f = none) (tbs : ∀ p ∈ cs, LamX.TabB base mg p.1 p.2) :
    ∀ (n : Nat) (f : Nat) (vs : List IV) (h : Hpi) (R : Res → Prop), RunsL T0 T V d0 n f vs h R → FnG S.gd P w K mg base (d0 + 2 + n) (fA f) (fd f) (ps f) (spOf K G vs h R)
  | 0, f, vs, h, R, r => by
    have := all_fn p0 hl hT0 tbs d0 f vs h R r
    rw [hg] at this
    exact this.gdo.mono (by omega)
  | n + 1, f, vs, h, R, r => by
    have low : ∀ {f vs h R}, Runs T0 V d0 f vs h R → FnG false P w K mg base d0 (fA f) (fd f) (ps f) (spOf K G vs h R) := fun r => by
      have := all_fn p0 hl hT0 tbs d0 _ _ _ _ r
      rw [hg] at this
      exact this
    rcases r with r | ⟨df, e1, e2, fuel, wp⟩
    · exact (low r).gdo.mono (by omega)
    · refine fn_by p rfl (hT f df e1) tbs e2 (fun f _ _ vs h R c => shf_fn p.exn p.lan (fun vs h R => all_fnL p0 hl hg p hT0 hT hpf tbs n f vs h R) c) (fun z => ⟨show 2 ≤ d0 + 2 + n by omega, fun f x hf vs h R r => shf_fn p.exn p.lan (fun vs h R r => ?_) r⟩) wp
      have hd : d0 ≤ d0 + 2 + n - 2 := by omega
      refine (low ?_).mono hd
      cases n with
      | zero => exact r
      | succ n =>
        rcases r with r | ⟨df, e3, _⟩
        · exact r
        · rw [hpf f x hf] at e3
          cases e3
/-- closed runs of the law's own defs -/
def runFL (T0 T : Nat → Option MDef) (V : Env1) (fuel d0 : Nat) : Nat → Nat → List IV → Hpi → Option Res
  | 0, f, vs, h => runF T0 V fuel d0 f vs h
  | n + 1, f, vs, h => match T f with
    | some df => if vs.length = df.params then runT (runFL T0 T V fuel d0 n) (bodyT V fuel df vs h) else none
    | none => runF T0 V fuel d0 f vs h
theorem run_ofL {T0 T : Nat → Option MDef} {V : Env1} {fuel d0 : Nat} : ∀ {n : Nat} {f : Nat} {vs : List IV} {h : Hpi} {r : Res}, runFL T0 T V fuel d0 n f vs h = some r → RunsL T0 T V d0 n f vs h (· = r)
  | 0, _, _, _, _, e => run_of e
  | n + 1, f, vs, h, r, e => by
    simp only [runFL] at e
    cases e2 : T f with
    | none =>
      rw [e2] at e
      exact .inl (run_of e)
    | some df =>
      rw [e2] at e
      dsimp only at e
      by_cases hl : vs.length = df.params
      · rw [if_pos hl] at e
        exact .inr ⟨df, e2, hl, fuel, runT_wp (fun f vs h r z => .inl (run_ofL z)) e⟩
      · rw [if_neg hl] at e
        cases e
theorem RunsL.up {T0 T : Nat → Option MDef} {V : Env1} {d0 : Nat} : ∀ {n : Nat} {f : Nat} {vs : List IV} {h : Hpi} {R : Res → Prop}, RunsL T0 T V d0 n f vs h R → RunsL T0 T V d0 (n + 1) f vs h R
  | 0, _, _, _, _, r => .inl r
  | n + 1, _, _, _, _, r => by
    rcases r with r | ⟨df, e1, e2, fuel, w⟩
    · exact .inl r
    · exact .inr ⟨df, e1, e2, fuel, Wp.mono (Shf.mono fun _ _ _ _ => RunsL.up) (fun _ z => z) w⟩
theorem RunsL.le {T0 T : Nat → Option MDef} {V : Env1} {d0 m n : Nat} (hmn : m ≤ n) {f : Nat} {vs : List IV} {h : Hpi} {R : Res → Prop} (r : RunsL T0 T V d0 m f vs h R) : RunsL T0 T V d0 n f vs h R := by
  induction hmn with
  | refl => exact r
  | step _ ih => exact ih.up
theorem RunsL.mono {T0 T : Nat → Option MDef} {V : Env1} {d0 n : Nat} {f : Nat} {vs : List IV} {h : Hpi} {R R' : Res → Prop} (hr : ∀ r, R r → R' r) (r : RunsL T0 T V d0 n f vs h R) : RunsL T0 T V d0 n f vs h R' := by
  cases n with
  | zero => exact Runs.mono hr r
  | succ n =>
    rcases r with r | ⟨df, e1, e2, fuel, w⟩
    · exact .inl (Runs.mono hr r)
    · exact .inr ⟨df, e1, e2, fuel, Wp.mono (fun _ _ _ _ z => z) hr w⟩
end
end MP
set_option maxRecDepth 100000
set_option maxHeartbeats 4000000
/-! MPt: what is looked up in the written part: own errors. -/
namespace MPx
open PySem PySem.W PySem.Calls PyProof.Rows PySem.HandSPX
def opB (a b : Option (Option Value)) : Bool := decide (a = b)
def clsB (K : Frag) (C : Addr) : Bool := match K.lookup C with
  | some ⟨.type t, _, .cls ⟨_, _, .ref c :: bm, _, _, hd, _, _, _, _, del⟩, ⟨[_, _, _, _, some (.builtin nw), _]⟩⟩ => decide (t = "type") && (decide (c = C) && (refsVE bm && (hd && (!del && decide (nw = "ValueError.__new__")))))
  | _ => false
theorem clsB_ok {K : Frag} {C : Addr} (h : clsB K C = true) : ∃ nm q N bs bm sn sub ab col dd k0 k1 k2 k3 k5, K.lookup C = some (excClassObj nm q C N bs bm true sn sub ab col dd k0 k1 k2 k3 k5 "ValueError.__new__") ∧ refsVE bm = true := by
  unfold clsB at h
  split at h
  · rename_i t dd nm bs c bm N q hd sn sub ab col del k0 k1 k2 k3 nw k5 e
    simp only [Bool.and_eq_true, decide_eq_true_eq, Bool.not_eq_true'] at h
    obtain ⟨h1, h2, h3, h4, h5, h6⟩ := h
    subst h1 h2 h4 h5 h6
    exact ⟨_, _, _, _, _, _, _, _, _, _, _, _, _, _, _, e, h3⟩
  · cases h
def scB (sc : Scope) (fld : Str) : Bool := decide (sc.kind = .function) && (!sc.isCoroutine && (!sc.isGenerator && ((sc.names.all fun x => decide (x.2 ≠ .cell)) && (decide (sc.names.lookup ("self" : Str) = some .local) && (decide (sc.names.lookup fld = some .local) && (decide (sc.names.lookup ("super" : Str) = some .globalImplicit) && decide (sc.names.lookup ("__class__" : Str) = some .free)))))))
def fnB (K : Frag) (C fI : Addr) (fld file : Str) : Bool := match K.lookup fI with
  | some ⟨_, _, .func ⟨nm, qual, ⟨[], [⟨a1, none, _⟩, ⟨a2, none, _⟩], none, [], [], none, []⟩,
      .stmts [.Expr (.Call (.Attribute (.Call (.Name s1 _) [] [] _) i1 q3) [.Name g1 _] [] q5) _, .Assign [.Attribute (.Name s2 _) g2 _] (.Name g3 _) _], sc, gl, [(cn, cc)], .none, .none, _, _, _, .ref cda, _, bi⟩, _⟩ =>
    (decide (nm = "__init__") && (decide (a1 = "self") && (decide (a2 = fld) && (decide (s1 = "super") && (decide (i1 = "__init__") && (decide (g1 = fld) && (decide (s2 = "self") && (decide (g2 = fld) && (decide (g3 = fld) && (decide (gl = mainGlobals) && (decide (bi = builtinsNs) && decide (cn = "__class__")))))))))))) &&
    (codeIn K (.ref cda) qual && ((match K.lookup cda with
      | some ⟨_, _, .fields vs, _⟩ => (match (vs[2]? : Option Value) with
        | some (.str f _) => file == f
        | _ => false)
      | _ => false) && ((match K.lookup cc with
      | some ⟨_, _, .cell (some (.ref C')), _⟩ => decide (C' = C)
      | _ => false) && (scB sc fld && (q3.endLine == q5.line)))))
  | _ => false
theorem fnB_ok {K : Frag} {C fI : Addr} {fld file : Str} (h : fnB K C fI fld file = true) :
    ∃ (oc : Value) (od : Option Addr) (doc pm : Value) (an : Option Addr) (cda cc : Addr) (ct : Value) (osl : Array (Option Value)) (qual : Str) (sc : Scope) (p1 p2 q1 q2 q3 q4 q5 q6 q7 q8 q9 q10 : Pos) (ccl cl : Value) (cdd cld : Option Addr) (ccs csl : Array (Option Value)) (vs : Array Value) (fl : Str) (tf : Tok),
    K.lookup fI = some ⟨oc, od, .func (fnX "__init__" qual (xA fld p1 p2) (xB fld q1 q2 q3 q4 q5 q6 q7 q8 q9 q10) sc [("__class__", cc)] .none .none doc pm an (.ref cda) ct), osl⟩ ∧ codeIn K (.ref cda) qual = true ∧
    K.lookup cda = some ⟨ccl, cdd, .fields vs, ccs⟩ ∧ vs[2]? = some (.str fl tf) ∧ (file == fl) = true ∧ K.lookup cc = some ⟨cl, cld, .cell (some (.ref C)), csl⟩ ∧
    sc.kind = .function ∧ sc.isCoroutine = false ∧ sc.isGenerator = false ∧ (∀ x ∈ sc.names, x.2 ≠ .cell) ∧ sc.names.lookup ("self" : Str) = some .local ∧ sc.names.lookup fld = some .local ∧ sc.names.lookup ("super" : Str) = some .globalImplicit ∧ sc.names.lookup ("__class__" : Str) = some .free ∧ (q3.endLine == q5.line) = true := by
  unfold fnB at h
  split at h
  · rename_i e
    simp only [Bool.and_eq_true, decide_eq_true_eq] at h
    obtain ⟨⟨h1, h2, h3, h4, h5, h6, h7, h8, h9, h10, h11, h12⟩, h13, h14, h15, h16, h17⟩ := h
    subst h1 h2 h3 h4 h5 h7 h10 h11 h12
    subst h6
    subst h8
    subst h9
    unfold scB at h16
    simp only [Bool.and_eq_true, decide_eq_true_eq, Bool.not_eq_true', List.all_eq_true] at h16
    obtain ⟨k1, k2, k3, k4, k5, k6, k7, k8⟩ := h16
    split at h14
    · rename_i e2
      split at h14
      · rename_i e3
        split at h15
        · rename_i e4
          cases of_decide_eq_true h15
          exact ⟨_, _, _, _, _, _, _, _, _, _, _, _, _, _, _, _, _, _, _, _, _, _, _, _, _, _, _, _, _, _, _, _, e, h13, e2, e3, h14, e4, k1, k2, k3, k4, k5, k6, k7, k8, h17⟩
        · cases h15
      · cases h14
    · cases h14
  · cases h
def xtB (K : Frag) (C : Addr) (fI : Addr) (fld file : Str) : Bool :=
  clsB K C && (opB (findIn K (.ref C) "__setattr__") (some (some (.builtin "object.__setattr__"))) && (opB (findIn K (.ref C) fld) (some none) && (opB (findIn K (.ref C) "__init__") (some (some (.ref fI))) && (decide (typeIn K (.ref fI) = some (.type "function")) && (keepIn K (.ref C) &&
  (decide (subIn K (.ref C) (.type "BaseException") = some true) && (decide (subIn K (.ref C) (.type "ValueError") = some true) && (decide (typeIn K (.ref C) = some (.type "type")) && (decide (mroIn K C (.ref C) = some true) && (opB (ks_superIn K C C "__init__") (some (some (.builtin "ValueError.__init__"))) &&
  (opB (nsIn K cStatics "thirdparty.any") (some none) && fnB K C fI fld file)))))))))))
theorem xtB_ok {P : Program} {K : Frag} {C fI : Addr} {fld : Str} (h : xtB K C fI fld P.main.file = true) (top : (P.main.scope.names.lookup ("super" : Str)).isSome = false) (ne : (("self" : Str) == fld) = false) (nd : (fld == ("__debug__" : Str)) = false)
    (bnd : ∀ (qual : Str) (body : List Stmt) (sc : Scope) (cl : List (Str × Addr)) (doc pm : Value) (an : Option Addr) (cdv ct : Value) (p1 p2 : Pos) (x v : Value), bindArgs (fnX "__init__" qual (xA fld p1 p2) body sc cl .none .none doc pm an cdv ct) ⟨[x, v], []⟩ = pure [(("self" : Str), x), (fld, v)]) : XTxt P K C fI fld := by
  unfold xtB opB at h
  simp only [Bool.and_eq_true, decide_eq_true_eq] at h
  obtain ⟨h1, h2, h3, h4, h5, h6, h7, h8, h9, h10, h11, h12, h13⟩ := h
  exact ⟨clsB_ok h1, h2, h3, h4, h5, h6, h7, h8, h9, h10, h11, h12, top, fnB_ok h13, ne, nd, bnd⟩
theorem bnd_given : ∀ (qual : Str) (body : List Stmt) (sc : Scope) (cl : List (Str × Addr)) (doc pm : Value) (an : Option Addr) (cdv ct : Value) (p1 p2 : Pos) (x v : Value), bindArgs (fnX "__init__" qual (xA "given" p1 p2) body sc cl .none .none doc pm an cdv ct) ⟨[x, v], []⟩ = pure [(("self" : Str), x), (("given" : Str), v)] := fun _ _ _ _ _ _ _ _ _ _ _ _ _ => rfl
theorem bnd_index : ∀ (qual : Str) (body : List Stmt) (sc : Scope) (cl : List (Str × Addr)) (doc pm : Value) (an : Option Addr) (cdv ct : Value) (p1 p2 : Pos) (x v : Value), bindArgs (fnX "__init__" qual (xA "index" p1 p2) body sc cl .none .none doc pm an cdv ct) ⟨[x, v], []⟩ = pure [(("self" : Str), x), (("index" : Str), v)] := fun _ _ _ _ _ _ _ _ _ _ _ _ _ => rfl
theorem bnd_place : ∀ (qual : Str) (body : List Stmt) (sc : Scope) (cl : List (Str × Addr)) (doc pm : Value) (an : Option Addr) (cdv ct : Value) (p1 p2 : Pos) (x v : Value), bindArgs (fnX "__init__" qual (xA "place" p1 p2) body sc cl .none .none doc pm an cdv ct) ⟨[x, v], []⟩ = pure [(("self" : Str), x), (("place" : Str), v)] := fun _ _ _ _ _ _ _ _ _ _ _ _ _ => rfl
end MPx
set_option maxRecDepth 100000
set_option maxHeartbeats 4000000
/-! MPu: the end of a law: the script, the tables, the call. -/
namespace MP
open PySem PySem.Spec PyProof.Rows
open L2 (V HO Hp upd SqL SqT Rd upd_same upd_ne RelV Vals VK XK Env0 CR HOk hidT hidT_get of_hidT Room)
/-- the script as it lies -/
def scriptO (vs : List Value) : Obj := { cls := .type "list", data := .seq vs.toArray }
def tabO : Obj := { cls := .none, data := .fields #[] }
theorem law_end {P : Program} {w : World} {K : PySem.W.Frag} {mg mb : Str → Option Value} {fa a : Addr} {cs : List (Addr × Addr)} {s₁ : Shared} {vs : List Value} {ns : List Int}
    (kIn : K.In s₁.heap) (nsG : s₁.heap.Ns mainGlobals mg) (nsB : s₁.heap.Ns builtinsNs mb) (blt : ∀ x : Str, x ≠ "__name__" → mb x = bootBuiltins x) (nolim : s₁.heap.NoLimit) (nogen : s₁.gens = #[])
    (tabs : ∀ p ∈ cs, s₁.heap.get? p.2 = some tabO) (tabK : ∀ p ∈ cs, K.lookup p.2 = none) (heads : ∀ p ∈ cs, PySem.W.CodeHd s₁.heap p.1 p.2)
    (bmod : ∃ (bm : Addr) (ob : Obj), mg "__builtins__" = some (.ref bm) ∧ bm ≠ builtinsNs ∧ s₁.heap.get? bm = some ob ∧ ob.cls = .type "module" ∧ ob.dict = some builtinsNs ∧ ob.data = .plain)
    (scr : s₁.heap.get? a = some (scriptO vs)) (isI : IntsAre vs ns) (len : ns.length ≤ sizeLine)
    (run : ∀ (base : Heap) (H : Hp), K.In base → base.Ns mainGlobals mg → (∀ p ∈ cs, LamX.TabB base mg p.1 p.2) → (∀ p ∈ cs, H p.2 = some (.tbl #[])) → SqL K H a (ns.map V.int) → Env0 P w K mg base callerA [] s₁ H →
      codeAny (model P w) callerA (.call (.ref fa) ⟨[.ref a], []⟩) (CR (L2.CX P w) [] P w H s₁ (fun v _ => v = .bl true) fun _ _ _ => False) s₁) :
    codeAny (model P w) callerA (.call (.ref fa) ⟨[.ref a], []⟩) (fun r s' => r = .ok (.ret (.bool true)) ∧ OldK s₁.heap s'.heap ∧ s'.os = s₁.os ∧ AllBare s'.gens) s₁ := by
  have vi := L2.vals_ints isI
  have lv := isI.length
  obtain ⟨T, hT⟩ : ∃ T : List Addr, T = cs.map (·.2) := ⟨_, rfl⟩
  have inT : ∀ p ∈ cs, p.2 ∈ T := fun p hp => by rw [hT]; exact List.mem_map.mpr ⟨p, hp, rfl⟩
  have ofT : ∀ b ∈ T, ∃ p ∈ cs, p.2 = b := fun b hb => by rw [hT] at hb; obtain ⟨p, h1, h2⟩ := List.mem_map.mp hb; exact ⟨p, h1, h2⟩
  have tabT : ∀ b ∈ T, s₁.heap.get? b = some tabO := fun b hb => by obtain ⟨p, h1, h2⟩ := ofT b hb; rw [← h2]; exact tabs p h1
  have aT : a ∉ T := fun z => by
    have q := (tabT a z).symm.trans scr
    have q2 : Data.fields #[] = Data.seq vs.toArray 0 := congrArg Obj.data (Option.some.inj q)
    cases q2
  obtain ⟨H, hH⟩ : ∃ H : Hp, H = fun b => if b ∈ T then some (HO.tbl #[]) else if b = a ∧ K.lookup a = none then some (.frz (scriptO vs) (.lst (ns.map V.int))) else none := ⟨_, rfl⟩
  have H1 : ∀ b ∈ T, H b = some (.tbl #[]) := fun b hb => by rw [hH]; exact if_pos hb
  have H2 : ∀ b u, H b = some u → (b ∈ T ∧ u = .tbl #[]) ∨ (b = a ∧ K.lookup a = none ∧ u = .frz (scriptO vs) (.lst (ns.map V.int))) := fun b u e => by
    rw [hH] at e
    by_cases c1 : b ∈ T
    · have e := (if_pos c1).symm.trans e
      exact .inl ⟨c1, (Option.some.inj e).symm⟩
    · have e := (if_neg c1).symm.trans e
      by_cases c2 : b = a ∧ K.lookup a = none
      · have e := (if_pos c2).symm.trans e
        exact .inr ⟨c2.1, c2.2, (Option.some.inj e).symm⟩
      · have e := (if_neg c2).symm.trans e
        cases e
  have H3 : ∀ b, b ∉ T → (b = a → K.lookup a ≠ none) → H b = none := fun b c1 c2 => by
    cases e : H b with
    | none => rfl
    | some u =>
      rcases H2 b u e with ⟨z, _⟩ | ⟨z1, z2, _⟩
      · exact absurd z c1
      · exact absurd z2 (c2 z1)
  have ht : ∀ p ∈ cs, H p.2 = some (.tbl #[]) := fun p hp => H1 _ (inT p hp)
  have hs : SqL K H a (ns.map V.int) := by
    cases hk : K.lookup a with
    | none =>
      refine .inl (.inr ⟨scriptO vs, ?_⟩)
      rw [hH]
      exact (if_neg aT).trans (if_pos ⟨rfl, hk⟩)
    | some o =>
      have e := (kIn a o hk).symm.trans scr
      cases e
      exact .inr ⟨_, vs.toArray, _, hk, rfl, rfl, rfl, by rw [List.size_toArray, lv]; exact len, by simpa using vi⟩
  have ok : HOk P w H s₁.heap := fun b u e => by
    rcases H2 b u e with ⟨z, rfl⟩ | ⟨rfl, z, rfl⟩
    · exact tabT b z
    · exact ⟨scr, by rw [List.length_map]; exact len, vs, _, vi, scr⟩
  -- what is neither a table nor the script is not tracked
  have other : ∀ {b : Addr} {o : Obj}, s₁.heap.get? b = some o → (∀ xs m, o.data ≠ .seq xs m) → o.data ≠ .fields #[] → H b = none := fun {b o} e n1 n2 => H3 b (fun z => by
      have q := e.symm.trans (tabT b z)
      cases q
      exact n2 rfl) fun z => by
      subst z
      have q := e.symm.trans scr
      cases q
      exact absurd rfl (n1 _ _)
  have nsOf : ∀ {b : Addr} {m : Str → Option Value}, s₁.heap.Ns b m → (hidT s₁.heap H).Ns b m := fun {b m} ⟨o, es, ep, e, d, r⟩ =>
    ⟨o, es, ep, hidT_get e (other e (fun xs k z => by rw [d] at z; cases z) fun z => by rw [d] at z; cases z), d, r⟩
  have kB : K.In (hidT s₁.heap H) := fun b o e => hidT_get (kIn b o e) (H3 b (fun z => by
      obtain ⟨p, p1, p2⟩ := ofT b z
      rw [← p2, tabK p p1] at e
      cases e) fun z => by
      rw [z] at e
      rw [e]
      exact fun q => by cases q)
  have md : L2.Mod K mg (hidT s₁.heap H) := ⟨kB, nsOf nsG, ⟨mb, nsOf nsB, blt⟩, by
    obtain ⟨mc, q1, q2⟩ := nolim
    exact ⟨mc, nsOf q1, q2⟩⟩
  have tb : ∀ p ∈ cs, LamX.TabB (hidT s₁.heap H) mg p.1 p.2 := fun p hp => by
    refine ⟨?_, ?_, fun z => ?_⟩
    · obtain ⟨o, us, f1, f2, f3, f4, f5, f6, f7, e1, e2, e3, e4, e5, e6, e7, e8, e9, e10⟩ := heads p hp
      refine ⟨o, us, f1, f2, f3, f4, f5, f6, f7, hidT_get e1 (other e1 (fun xs k z => ?_) fun z => ?_), e2, e3, e4, e5, e6, e7, e8, e9, e10⟩
      · rw [e3] at z; cases z
      · rw [e3] at z
        cases z
        simp at e4
    · obtain ⟨bm, ob, b1, b2, b3, b4, b5, b6⟩ := bmod
      refine ⟨bm, ob, b1, b2, fun z => ?_, fun z => ?_, hidT_get b3 (other b3 (fun xs k z => ?_) fun z => ?_), b4, b5, b6⟩
      · obtain ⟨o, es, ep, e, d, _⟩ := nsG
        rw [z, e] at b3
        cases b3
        rw [d] at b6; cases b6
      · rw [z, tabs p hp] at b3
        cases b3
        cases b6
      · rw [b6] at z; cases z
      · rw [b6] at z; cases z
    · obtain ⟨o, es, ep, e, d, _⟩ := nsG
      rw [z, tabs p hp] at e
      cases e
      cases d
  have e0 : Env0 P w K mg (hidT s₁.heap H) callerA [] s₁ H := ⟨rfl, md, fun b o e => of_hidT e, Nat.le_of_eq (L2.hidT_size _ _), trivial, fun b z => absurd (show b ∈ ([] : List Addr) from z) (by simp), ok, .of_eq nogen⟩
  refine codeAny_mono (run _ H kB (nsOf nsG) tb ht hs e0) fun r s' q => ?_
  cases r with
  | error e =>
    obtain ⟨_, _, _, _, _, _, _, _, _, _, _, _, z⟩ := q
    exact z.elim
  | ok fl =>
    cases fl with
    | next => exact False.elim q
    | brk => exact False.elim q
    | cont => exact False.elim q
    | ret u =>
      obtain ⟨v, H', q1, q2, un, ok', q3, q4⟩ := q
      have q4 : v = .bl true := q4
      subst q4
      obtain rfl : u = Value.bool true := q3
      have stay : ∀ b o, b ∉ T → s₁.heap.get? b = some o → s'.heap.get? b = some o := fun b o nb e => by
        cases c : H b with
        | none => exact un.keep b o e c (fun z => absurd (show b ∈ ([] : List Addr) from z) (by simp)) (by simp)
        | some u =>
          rcases H2 b u c with ⟨z, _⟩ | ⟨_, _, rfl⟩
          · exact absurd z nb
          · obtain ⟨g1, _⟩ := ok b _ c
            obtain ⟨g2, _⟩ := ok' b _ (un.frzs b _ _ c)
            rw [e] at g1; cases g1
            exact g2
      have grow : ∀ b ∈ T, ∃ more : Array Value, s'.heap.get? b = some { cls := .none, data := .fields more } := fun b hb => by
        obtain ⟨more, z⟩ := un.tbls b #[] (H1 b hb)
        exact ⟨_, ok' b _ z⟩
      refine ⟨rfl, ⟨fun b o e => ?_, fun b o e => ?_⟩, q1, q2⟩
      · by_cases hb : b ∈ T
        · obtain ⟨more, hm⟩ := grow b hb
          have e2 := e.symm.trans (tabT b hb)
          cases e2
          obtain ⟨p, p1, p2⟩ := ofT b hb
          subst p2
          exact .inr (.inl ⟨((heads p p1).tab (tabs p p1)).isCodeTable, rfl, #[], more, rfl, by rw [Array.empty_append]; exact hm⟩)
        · exact .inl (stay b o hb e)
      · by_cases hb : b ∈ T
        · obtain ⟨more, hm⟩ := grow b hb
          exact ⟨_, hm⟩
        · exact ⟨o, stay b o hb e⟩
/-- a law by its def's promise at the head's heap -/
theorem walk_end {l : PySem.W.OpenLaw} {n k : Nat} {q : Program} {loose : List Str} {XP : (Str → Option Value) → Heap → Prop} {YP : World → Heap → Prop} {d : DefRec} {x : Str}
    (hn : l.most = some n) (hn2 : n ≤ sizeLine) (hdf : d.params.defaults = []) (hr : RoomG true k callerA)
    (F : ∀ (w : World) (mg : Str → Option Value) (fa : Addr) (h : Heap), YP w h → h.Ns mainGlobals mg → mg d.name = some (.ref fa) → ∃ (K : PySem.W.Frag) (cs : List (Addr × Addr)) (fd : FuncData), K.In h ∧ (∀ p ∈ cs, h.get? p.2 = some tabO) ∧ (∀ p ∈ cs, K.lookup p.2 = none) ∧ (∀ p ∈ cs, PySem.W.CodeHd h p.1 p.2) ∧ (∀ (s : Shared) (u : Value), BindsTo s fd ⟨[u], []⟩ [(x, u)]) ∧
      ∀ (ns : List Int), ns.length ≤ n → ∃ sp : L2.Sp, (∀ (H : Hp) (a : Addr), (∀ p ∈ cs, H p.2 = some (.tbl #[])) → SqL K H a (ns.map V.int) → sp [.ref a] H (fun v _ => v = .bl true) fun _ _ _ => False) ∧
        ∀ base : Heap, K.In base → base.Ns mainGlobals mg → (∀ p ∈ cs, LamX.TabB base mg p.1 p.2) → FnG true l.prog w K mg base k fa fd [x] sp) :
    PySem.W.WalkO q loose XP YP l.row.toRowW d [] (fun f vs => PySem.call f vs) := by
  refine Att.attach_callB hn hdf fun w s₀ s₁ mg mb fa o pm cd doc a vs ns G Y ho hd hcd hmg hobj hints hlen hbits hg => ?_
  obtain ⟨K, cs, fd, kIn, t1, t2, t3, hb, hF⟩ := F w mg fa _ Y G.T.g hmg
  obtain ⟨sp, hsp, hf⟩ := hF ns hlen
  refine law_end kIn G.T.g G.T.b G.T.builtins G.T.nolimit hg t1 t2 t3 G.T.bmain hobj hints (Nat.le_trans hlen hn2) fun base H c1 c2 c3 c4 c5 e0 => ?_
  exact (hf base c1 c2 c3).run callerA [] s₁ H ⟨[.ref a], []⟩ [.ref a] [.ref a] _ _ hr e0 (hb s₁ (.ref a)) (.cons rfl .nil) (hsp H a c4 c5)
end MP
set_option maxRecDepth 100000
set_option maxHeartbeats 4000000
/-! MPv: constants that are written; the table of a program; what holds of it. -/
namespace MP
open PySem PySem.Spec PyProof.Rows
open L2 (V HO Hp upd SqL SqT RelV Vals Room FnScope)
/-! ### a dict as it is written -/
def entB : L2.Key → Value → DictEntry → Bool
  | .inl i, u, e => (match e.key with
    | .int j _ => decide (i = j)
    | _ => false) && (decide (e.hash = hashInt i) && decide (e.val = u))
  | _, _, _ => false
def entsB : List L2.Key → List Value → List DictEntry → Bool
  | [], [], [] => true
  | k :: ks, u :: us, e :: es => entB k u e && entsB ks us es
  | _, _, _ => false
def dicKB (K : PySem.W.Frag) (a : Addr) (ks : List L2.Key) (us : List Value) : Bool := match K.lookup a with
  | some ⟨.type t, none, .dict es _, ⟨[]⟩⟩ => decide (t = "dict") && (!(a == sysModules) && (entsB ks us es.toList && decide ks.Nodup))
  | _ => false
def kdP (K : PySem.W.Frag) (a : Addr) (ks : List L2.Key) (ys : List V) : Prop := ∃ us, dicKB K a ks us = true ∧ Vals ys us
theorem kv_zip : ∀ {ks : List L2.Key} {us : List Value} {ys : List V}, Vals ys us → L2.KV (ks.zip ys) (ks.zip us)
  | [], _, _, _ => .nil
  | _ :: _, _, _, .nil => .nil
  | k :: ks, _, _, .cons h r => .cons ⟨rfl, h⟩ (kv_zip r)
theorem ents_ok {P : Program} {w : World} : ∀ {ks : List L2.Key} {us : List Value} {es : List DictEntry}, entsB ks us es = true → Pairs (L2.mixKind P w) es (ks.zip us) ∧ (∀ e ∈ es, ∃ k, (L2.mixKind P w).is k e.key = true ∧ e.hash = (L2.mixKind P w).hash k) ∧ (ks.zip us).map (·.1) = ks
  | [], [], [], _ => ⟨.nil, fun _ h => absurd h (by simp), rfl⟩
  | k :: ks, u :: us, e :: es, h => by
    obtain ⟨h1, h2⟩ := two (show (entB k u e && entsB ks us es) = true from h)
    obtain ⟨p1, p2, p3⟩ := ents_ok (P := P) (w := w) h2
    cases k with
    | inr x => cases h1
    | inl i =>
      obtain ⟨a1, a2⟩ := two (show ((match e.key with
        | .int j _ => decide (i = j)
        | _ => false) && (decide (e.hash = hashInt i) && decide (e.val = u))) = true from h1)
      obtain ⟨a2, a3⟩ := two a2
      have a2 := of_decide_eq_true a2
      have a3 := of_decide_eq_true a3
      have ik : (L2.mixKind P w).is (.inl i) e.key = true := by
        cases hk : e.key with
        | int j t =>
          rw [hk] at a1
          have a1 := of_decide_eq_true a1
          subst a1
          exact L2.kV_is (k := .inl i) (u := .int i t) ⟨t, rfl⟩
        | _ => rw [hk] at a1; cases a1
      refine ⟨.cons ik a3 p1, fun e' he => ?_, by rw [List.zip_cons_cons, List.map_cons, p3]⟩
      rcases List.mem_cons.mp he with z | z
      · subst z
        exact ⟨.inl i, ik, a2⟩
      · exact p2 e' z
  | [], [], _ :: _, h => by cases h
  | [], _ :: _, _, h => by cases h
  | _ :: _, [], _, h => by cases h
  | _ :: _, _ :: _, [], h => by cases h
theorem kd_ok {K : PySem.W.Frag} {P : Program} {w : World} {G : PEnv} (hG : G.kd = kdP K) : KdOk G K P w := by
  intro a ks ys hk h hK
  rw [hG] at hk
  obtain ⟨us, hb, vu⟩ := hk
  unfold dicKB at hb
  split at hb
  · rename_i t es n e
    simp only [Bool.and_eq_true, decide_eq_true_eq, Bool.not_eq_true'] at hb
    obtain ⟨h1, h2, h3, h4⟩ := hb
    subst h1
    obtain ⟨p1, p2, p3⟩ := ents_ok (P := P) (w := w) h3
    exact ⟨h2, ks.zip us, kv_zip vu, _, es, n, hK _ _ e, ⟨rfl, rfl, rfl⟩, rfl, fun e' he => p2 e' (Array.mem_toList_iff.mpr he), p1, by rw [p3]; exact h4⟩
  · cases hb
/-! ### constants -/
def dicVals (K : PySem.W.Frag) (a : Addr) : List Value := match K.lookup a with
  | some ⟨_, _, .dict es _, _⟩ => es.toList.map (·.val)
  | _ => []
def tupItems (K : PySem.W.Frag) (a : Addr) : Option (List Value) := match K.lookup a with
  | some ⟨.type t, _, .seq its _, _⟩ => if decide (t = "tuple") && decide (its.size ≤ sizeLine) then some its.toList else none
  | _ => none
def lstItems (K : PySem.W.Frag) (a : Addr) : Option (List Value) := match K.lookup a with
  | some ⟨.type t, none, .seq its _, _⟩ => if decide (t = "list") && decide (its.size ≤ sizeLine) then some its.toList else none
  | _ => none
mutual
def relIV (K : PySem.W.Frag) : IV → Value → Bool
  | .non, u => (match u with
    | .none => true
    | _ => false)
  | .bl b, u => (match u with
    | .bool c => b == c
    | _ => false)
  | .int i, u => (match u with
    | .int j _ => decide (i = j)
    | _ => false)
  | .str x, u => (match u with
    | .str y _ => decide (x = y)
    | _ => false)
  | .tup xs, u => (match u with
    | .ref a => (match tupItems K a with
      | some us => relIVs K xs us
      | none => false)
    | _ => false)
  | .kls xs, u => (match u with
    | .ref a => (match lstItems K a with
      | some us => relIVs K xs us
      | none => false)
    | _ => false)
  | .kdc ks xs, u => (match u with
    | .ref a => dicKB K a ks (dicVals K a) && relIVs K xs (dicVals K a)
    | _ => false)
  | _, _ => false
def relIVs (K : PySem.W.Frag) : List IV → List Value → Bool
  | [], us => us.isEmpty
  | x :: xs, us => (match us with
    | u :: us => relIV K x u && relIVs K xs us
    | [] => false)
end
theorem tup_items {K : PySem.W.Frag} {a : Addr} {us : List Value} (h : tupItems K a = some us) {ys : List V} (v : Vals ys us) : ∀ μ H, SqU K μ H a ys := fun μ H => by
  unfold tupItems at h
  split at h
  · rename_i t d its n sl e
    obtain ⟨h1, h2⟩ := ite_some h
    obtain ⟨h3, h4⟩ := two h1
    subst h2
    exact .inl ⟨_, its, n, e, congrArg Value.type (of_decide_eq_true h3), rfl, of_decide_eq_true h4, v⟩
  · cases h
theorem lst_items {K : PySem.W.Frag} {a : Addr} {us : List Value} (h : lstItems K a = some us) {ys : List V} (v : Vals ys us) : ∀ μ H, SqF K μ H a ys := fun μ H => by
  unfold lstItems at h
  split at h
  · rename_i t its n sl e
    obtain ⟨h1, h2⟩ := ite_some h
    obtain ⟨h3, h4⟩ := two h1
    subst h2
    exact .inl ⟨_, its, n, e, congrArg Value.type (of_decide_eq_true h3), rfl, rfl, of_decide_eq_true h4, v⟩
  · cases h
section
variable {K : PySem.W.Frag} {G : PEnv} (hG : G.kd = kdP K)
include hG
mutual
theorem rel_ok : ∀ {x : IV} {u : Value}, relIV K x u = true → ∃ v, RelV v u ∧ ∀ μ H, RV K G μ H x v
  | .non, u, h => by
    cases u with
    | none => exact ⟨.non, rfl, fun _ _ => rfl⟩
    | _ => cases h
  | .bl b, u, h => by
    cases u with
    | bool c =>
      have e : b = c := eq_of_beq h
      subst e
      exact ⟨.bl b, rfl, fun _ _ => rfl⟩
    | _ => cases h
  | .int i, u, h => by
    cases u with
    | int j t =>
      have e : i = j := of_decide_eq_true h
      subst e
      exact ⟨.int i, ⟨t, rfl⟩, fun _ _ => rfl⟩
    | _ => cases h
  | .str x, u, h => by
    cases u with
    | str y t =>
      have e : x = y := of_decide_eq_true h
      subst e
      exact ⟨.str x, ⟨t, rfl⟩, fun _ _ => rfl⟩
    | _ => cases h
  | .tup xs, u, h => by
    cases u with
    | ref a =>
      simp only [relIV] at h
      split at h
      · rename_i us e
        obtain ⟨ys, vy, r⟩ := rels_ok h
        exact ⟨.ref a, rfl, fun μ H => ⟨a, ys, rfl, tup_items e vy μ H, r μ H⟩⟩
      · cases h
    | _ => cases h
  | .kls xs, u, h => by
    cases u with
    | ref a =>
      simp only [relIV] at h
      split at h
      · rename_i us e
        obtain ⟨ys, vy, r⟩ := rels_ok h
        exact ⟨.ref a, rfl, fun μ H => ⟨a, ys, rfl, lst_items e vy μ H, r μ H⟩⟩
      · cases h
    | _ => cases h
  | .kdc ks xs, u, h => by
    cases u with
    | ref a =>
      obtain ⟨h1, h2⟩ := two (show (dicKB K a ks (dicVals K a) && relIVs K xs (dicVals K a)) = true from h)
      obtain ⟨ys, vy, r⟩ := rels_ok h2
      exact ⟨.ref a, rfl, fun μ H => ⟨a, ys, rfl, by rw [hG]; exact ⟨_, h1, vy⟩, r μ H⟩⟩
    | _ => cases h
  | .ref _, _, h => by cases h
  | .err, _, h => by cases h
  | .act, _, h => by cases h
theorem rels_ok : ∀ {xs : List IV} {us : List Value}, relIVs K xs us = true → ∃ ys, Vals ys us ∧ ∀ μ H, RVs K G μ H xs ys
  | [], us, h => by
    have h : us.isEmpty = true := h
    cases us with
    | nil => exact ⟨[], .nil, fun _ _ => rfl⟩
    | cons _ _ => cases h
  | x :: xs, us, h => by
    cases us with
    | nil => cases h
    | cons u us =>
      obtain ⟨h1, h2⟩ := two (show (relIV K x u && relIVs K xs us) = true from h)
      obtain ⟨v, a1, a2⟩ := rel_ok h1
      obtain ⟨ys, b1, b2⟩ := rels_ok h2
      exact ⟨v :: ys, .cons a1 b1, fun μ H => ⟨v, ys, rfl, a2 μ H, b2 μ H⟩⟩
end
end
/-! ### the fields' names -/
def fnm (l : List Str) (f : Nat) : Str := match l[f]? with
  | some x => x
  | none => ⟨Array.replicate (f + 1000) 35⟩
def fnmB (l : List Str) : Bool := decide l.Nodup && l.all fun x => decide (x.cps.size < 1000)
theorem fnm_inj {l : List Str} (h : fnmB l = true) : ∀ f g, fnm l f = fnm l g → f = g := by
  obtain ⟨h1, h2⟩ := two h
  have h1 := of_decide_eq_true h1
  have small : ∀ (f : Nat) (x : Str), l[f]? = some x → x.cps.size < 1000 := fun f x e => of_decide_eq_true (List.all_eq_true.mp h2 x (List.mem_of_getElem? e))
  intro f g e
  unfold fnm at e
  cases ef : l[f]? with
  | none =>
    cases eg : l[g]? with
    | none =>
      rw [ef, eg] at e
      have := congrArg (fun s : Str => s.cps.size) e
      simp at this
      omega
    | some y =>
      rw [ef, eg] at e
      have := congrArg (fun s : Str => s.cps.size) e
      have s := small g y eg
      simp at this
      omega
  | some x =>
    cases eg : l[g]? with
    | none =>
      rw [ef, eg] at e
      have := congrArg (fun s : Str => s.cps.size) e
      have s := small f x ef
      simp at this
      omega
    | some y =>
      rw [ef, eg] at e
      have e : x = y := e
      subst e
      obtain ⟨l1, m1⟩ := List.getElem?_eq_some_iff.mp ef
      obtain ⟨l2, m2⟩ := List.getElem?_eq_some_iff.mp eg
      exact (List.getElem_inj h1).mp (m1.trans m2.symm)
/-! ### a def's scope -/
def scopeB (N ps : List Str) (sc : Scope) : Bool := decide (sc.kind = .function) && (!sc.isCoroutine && (!sc.isGenerator && (decide N.Nodup && (decide (N.take ps.length = ps) && ((ps.all fun x => decide (sc.names.lookup x = some .local) || decide (sc.names.lookup x = some .cell)) && sc.names.all fun y => decide (y.2 ≠ .free))))))
theorem scopeB_ok {N ps : List Str} {sc : Scope} (h : scopeB N ps sc = true) : FnScope N ps sc := by
  unfold scopeB at h
  simp only [Bool.and_eq_true, decide_eq_true_eq, Bool.not_eq_true', List.all_eq_true, Bool.or_eq_true] at h
  obtain ⟨h1, h2, h3, h4, h5, h6, h7⟩ := h
  exact ⟨h1, h2, h3, h4, h5, h6, h7⟩
end MP
set_option maxRecDepth 100000
set_option maxHeartbeats 4000000
/-! MPw: the table of a program. -/
namespace MP
open PySem PySem.Spec PyProof.Rows
open L2 (V HO Hp upd SqL SqT RelV Vals Room FnScope FunD)
/-- a def: its name, where it stands, its parameters, its slots' names, its term -/
structure PDef where
  nm : Str
  st : Stmt
  ps : List Str
  N : List Str
  md : MDef
def PDef.dd (d : PDef) : He.DefD := ⟨(d.nm, none), d.nm, d.nm, L2.defArgs d.st, L2.defBody d.st, L2.defScope d.st, [], []⟩
/-- a program's things. pk: the package's defs; lw: the law's own, and whether lambdas stand in them; hl: helpers that call a lambda; cts: constants; xc: classes of errors and the field that each keeps, the first nr of them are raised by name; fld: fields' names; pats: call patterns; subs: isinstance -/
structure PT where
  prog : Program
  pk : List PDef
  lw : List (PDef × Bool)
  hl : List PDef
  cts : List (Str × IV)
  xc : List (Str × Str)
  nr : Nat
  fld : List Str
  pats : List (Nat × Nat × List Str × List Nat)
  subs : List (Nat × Nat × Bool)
namespace PT
variable (t : PT)
def all : List PDef := t.pk ++ t.lw.map (·.1)
def lams : List PDef := (t.lw.filter (·.2)).map (·.1)
def xn : List Str := (t.xc.take t.nr).map (·.1)
def fieldOf (c : Nat) : Str := match t.xc[c]? with
  | some p => p.2
  | none => Str.empty
def subF (c1 c2 : Nat) : Option Bool := (t.subs.find? fun p => decide (p.1 = c1) && decide (p.2.1 = c2)).map (·.2.2)
def V : Env1 where
  ct := t.cts.map (·.2)
  oka := fun _ _ => false
  xf := fun c => if c < t.nr then t.fld.findIdx? (fun x => decide (x = t.fieldOf c)) else none
  sub := t.subF
  hp := fun f => (t.hl[f]?).map (·.md)
def T0 (f : Nat) : Option MDef := (t.pk[f]?).map (·.md)
def T (f : Nat) : Option MDef := if f < t.pk.length then none else (t.all[f]?).map (·.md)
def S0 : SI where
  fn := t.pk.map fun d => some d.nm
  pats := t.pats
  cts := t.cts.map (·.1)
  cls := t.xc.map (·.1)
  fld := t.fld
  calm := true
  gd := false
  act := false
  lam := false
  pfn := []
  hn := []
def S1 : SI where
  fn := t.all.map fun d => some d.nm
  pats := t.pats
  cts := t.cts.map (·.1)
  cls := t.xc.map (·.1)
  fld := t.fld
  calm := true
  gd := true
  act := false
  lam := true
  pfn := t.pk.map fun d => some d.nm
  hn := t.hl.map (·.nm)
/-! what is asked of the head -/
def fa : List He.Fa := (freeNm.map .free) ++ (.free "super" :: (((t.all ++ t.hl).map fun d => .glo d.nm) ++ t.xc.map fun p => .glo p.1))
def fn : List He.DefD := (t.all ++ t.hl).map PDef.dd
def tf : List He.Defn := t.lams.map fun d => (d.nm, none)
def errB (K : PySem.W.Frag) (C : Addr) : Bool := decide (PySem.W.findIn K (.ref C) "__getattribute__" = some (some (.builtin "BaseException.__getattribute__"))) && (decide (PySem.W.findIn K (.ref C) "__getattr__" = some none) && (decide (PySem.W.subIn K (.ref C) (.type "BaseException") = some true) && (PySem.W.hasDictIn K C &&
  (decide (PySem.W.findIn K (.ref C) "__class__" = some (some (.builtin "object.__class__"))) && (decide (PySem.W.specialIn K (.builtin "object.__class__") "__get__" = some (some (.builtin "getset_descriptor.__get__"))) && (decide (PySem.W.takesIn K (.builtin "object.__class__") = some true) && decide (PySem.W.mroIn K C (.type "object") = some true)))))))
theorem errB_ok {K : PySem.W.Frag} {C : Addr} (h : errB K C = true) : L2.ExcC K C := by
  unfold errB at h
  simp only [Bool.and_eq_true, decide_eq_true_eq] at h
  obtain ⟨h1, h2, h3, h4, h5, h6, h7, h8⟩ := h
  exact ⟨h1, h2, h3, h4, h5, h6, h7, h8⟩
def clA (K : PySem.W.Frag) (c : Nat) : Addr := match t.xc[c]? with
  | some p => He.ga K p.1
  | none => 0
def tabN (K : PySem.W.Frag) (d : PDef) : Addr := (He.cT K (d.nm, none)).2
def ex (K : PySem.W.Frag) : Bool :=
  (t.cts.all fun p => match PySem.W.nsIn K mainGlobals p.1 with
    | some (some u) => relIV K p.2 u
    | _ => false) &&
  (((List.range t.nr).all fun c => MPx.xtB K (t.clA K c) (He.ma K (t.clA K c) "__init__") (t.fieldOf c) t.prog.main.file && L2.xfB K (t.clA K c)) &&
  ((t.subs.all fun p => decide (PySem.W.exmOne K (.ref (t.clA K p.1)) (.ref (t.clA K p.2.1)) = some p.2.2) && (decide (PySem.W.kitOne K (.ref (t.clA K p.1)) (.ref (t.clA K p.2.1)) = some p.2.2) && errB K (t.clA K p.1))) &&
  (t.lams.all fun d1 => t.lams.all fun d2 => !decide (tabN K d1 = tabN K d2) || decide (d1.nm = d2.nm))))
def G (K : PySem.W.Frag) : PEnv where
  tb := t.lams.map fun d => (tabN K d, d.nm ++ ".<locals>." ++ "<lambda>")
  cA := t.clA K
  fN := fnm t.fld
  xN := t.fieldOf
  ea := 0
  ex := none
  la := none
  kd := kdP K
def fAd (K : PySem.W.Frag) (f : Nat) : Addr := match t.all[f]? with
  | some d => He.ga K d.nm
  | none => 0
def fdOf (K : PySem.W.Frag) (a : Addr) : FuncData := match K.lookup a with
  | some ⟨_, _, .func fd, _⟩ => fd
  | _ => default
def ps (f : Nat) : List Str := match t.all[f]? with
  | some d => d.ps
  | none => []
/-! what is asked of the texts -/
def defB (S : SI) (xn : List Str) (d : PDef) : Bool := scopeB d.N d.ps (L2.defScope d.st) && (decide (d.N.length = d.md.slots) && (decide (d.md.params = d.ps.length) && (okB S xn d.N 400 (L2.defScope d.st) d.md.body (L2.defBody d.st) && !(d.nm == ("__debug__" : Str)))))
def hlpB (d : PDef) : Bool := scopeB d.N d.ps (L2.defScope d.st) && (decide (d.N.length = d.md.slots) && (okB t.S1.hlp [] d.N 400 (L2.defScope d.st) d.md.body (L2.defBody d.st) && (!(d.nm == ("__debug__" : Str)) && (match d.ps with
  | [a] => decide (d.N[0]? = some a) && (vis (L2.defScope d.st) a && nodbg a)
  | _ => false))))
def chk : Bool := (t.pk.all (defB t.S0 t.xn)) && ((t.lw.all fun p => defB (if p.2 then t.S1 else t.S1.nl) t.xn p.1) && ((t.hl.all t.hlpB) && (fnmB t.fld && ((t.xc.all fun p => !(p.1 == ("__debug__" : Str))) && (decide ((t.prog.main.scope.names.lookup ("super" : Str)).isSome = false) &&
  ((t.xc.take t.nr).all fun p => decide (p.2 = "given") || decide (p.2 = "index") || decide (p.2 = "place")))))))
/-- call patterns bind -/
def PatOk : Prop := ∀ f n ks perm, (f, n, ks, perm) ∈ t.pats → ∃ d, t.all[f]? = some d ∧ ∀ (kV doc pm : Value) (an : Option Addr) (cdv ct : Value) (us zs ws : List Value), us.length = n → zs.length = ks.length → permL (us ++ zs) perm = some ws →
  bindArgs (PySem.W.fnOf d.nm d.nm (L2.defArgs d.st) (L2.defBody d.st) (L2.defScope d.st) .none kV doc pm an cdv ct) ⟨us, ks.zip zs⟩ = pure (d.ps.zip ws)
def HlpOk : Prop := ∀ d ∈ t.hl, ∀ (kV doc pm : Value) (an : Option Addr) (cdv ct : Value) (us : List Value), us.length = d.ps.length → bindArgs (PySem.W.fnOf d.nm d.nm (L2.defArgs d.st) (L2.defBody d.st) (L2.defScope d.st) .none kV doc pm an cdv ct) ⟨us, []⟩ = pure (d.ps.zip us)
end PT
/-! ### the Hook: what is reached, and the statics -/
def rch (n : Nat) (g : Addr → Option Obj) : List Addr := cStatics :: He.asD g n
def obsY (n : Nat) (t : PT) (g : Addr → Option Obj) : He.AlX :=
  (He.obsT t.fa t.fn [] (He.frT g (rch n g)), t.ex (He.frT g (rch n g)) && He.tabsB g t.tf (He.frT g (rch n g)))
theorem saysY {n : Nat} {t : PT} {w : World} {h : Heap} (e : obsY n t h.get? = He.valX t.fn [] w) : He.SaysX t.fa t.fn [] t.tf t.ex w h (He.frT h.get? (rch n h.get?)) := by
  obtain ⟨e1, e2⟩ := Prod.mk.inj e
  obtain ⟨h1, h2⟩ := two e2
  have tab : ∀ p ∈ t.tf, PySem.W.codeHdIn (He.frT h.get? (rch n h.get?)) (He.cT (He.frT h.get? (rch n h.get?)) p).1 (He.cT (He.frT h.get? (rch n h.get?)) p).2 = true ∧ ∃ o, h.get? (He.cT (He.frT h.get? (rch n h.get?)) p).2 = some o ∧ He.emptyTab o = true := fun p hp => by
    obtain ⟨h3, h4⟩ := two (List.all_eq_true.mp h2 p hp)
    refine ⟨h3, ?_⟩
    split at h4
    · rename_i o q
      exact ⟨o, q, h4⟩
    · cases h4
  refine ⟨e1, h1, fun p hp => (tab p hp).1, fun p hp => ?_, fun p hp => ?_⟩
  · obtain ⟨_, o, q, z⟩ := tab p hp
    exact He.frT_none q z
  · obtain ⟨_, o, q, z⟩ := tab p hp
    rw [q, He.emptyTab_eq z]
def hookY (n : Nat) (t : PT) : PySem.W.Hook where
  α := He.AlX
  obs := fun s => obsY n t s.heap.get?
  val := fun w => He.valX t.fn [] w
  says := fun w h => ∃ K : PySem.W.Frag, K.In h ∧ He.SaysX t.fa t.fn [] t.tf t.ex w h K
  of := fun _ _ e => ⟨_, He.frT_in, saysY e⟩
  keeps := fun _ _ _ ⟨K, hK, c⟩ k => ⟨K, PySem.W.Frag.In.keeps hK k, c.t, c.more, c.hd, c.out, fun p hp => k _ _ (c.empty p hp)⟩
theorem obsY_eq {n : Nat} {t : PT} {g : Addr → Option Obj} {s : Shared} (h : ∀ a, g a = s.heap.get? a) : obsY n t g = (hookY n t).obs s := by
  have e : g = s.heap.get? := funext h
  rw [e] <;> rfl
section
variable {t : PT} {K : PySem.W.Frag} {h : Heap} {w : World} {mg : Str → Option Value}
theorem fd_of {K : PySem.W.Frag} {x qual : Str} {params : Arguments} {body : List Stmt} {scope : Scope} {a : Addr} {fd : FuncData} (F : FunD K x qual params body scope [] [] a fd) : PT.fdOf K a = fd := by
  obtain ⟨oc, od, dV, kV, doc, pm, an, cdv, ct, osl, _, lk, _⟩ := F.ex
  unfold PT.fdOf
  rw [lk]
/-- a def of the table at the head -/
theorem def_at (kin : K.In h) (ns : h.Ns mainGlobals mg) (c : He.SaysD t.fa t.fn K) {d : PDef} (hd : d ∈ t.all ++ t.hl) : (∃ fd, FunD K d.nm d.nm (L2.defArgs d.st) (L2.defBody d.st) (L2.defScope d.st) [] [] (He.ga K d.nm) fd) ∧ mg d.nm = some (.ref (He.ga K d.nm)) := by
  refine ⟨?_, He.glo_ok kin ns (c.facts ?_)⟩
  · have := c.defs (d := d.dd) (List.mem_map.mpr ⟨d, hd, rfl⟩)
    exact this
  · unfold PT.fa
    refine List.mem_append.mpr (.inr (List.mem_cons.mpr (.inr (List.mem_append.mpr (.inl (List.mem_map.mpr ⟨d, hd, rfl⟩))))))
theorem free_at (kin : K.In h) (ns : h.Ns mainGlobals mg) (c : He.SaysD t.fa t.fn K) : (∀ x ∈ freeNm, mg x = none) ∧ mg ("super" : Str) = none := by
  refine ⟨fun x hx => He.free_ok kin ns (c.facts ?_), He.free_ok kin ns (c.facts ?_)⟩
  · exact List.mem_append.mpr (.inl (List.mem_map.mpr ⟨x, hx, rfl⟩))
  · exact List.mem_append.mpr (.inr List.mem_cons_self)
theorem cls_at (kin : K.In h) (ns : h.Ns mainGlobals mg) (c : He.SaysD t.fa t.fn K) {i : Nat} {p : Str × Str} (hp : t.xc[i]? = some p) : mg p.1 = some (.ref (t.clA K i)) := by
  have e : t.clA K i = He.ga K p.1 := by unfold PT.clA; rw [hp]
  rw [e]
  refine He.glo_ok kin ns (c.facts ?_)
  exact List.mem_append.mpr (.inr (List.mem_cons.mpr (.inr (List.mem_append.mpr (.inr (List.mem_map.mpr ⟨p, List.mem_of_getElem? hp, rfl⟩))))))
theorem all_get {f : Nat} {x : Str} (e : (t.all.map fun d => some d.nm)[f]? = some (some x)) : ∃ d, t.all[f]? = some d ∧ d.nm = x := by
  rw [List.getElem?_map] at e
  cases q : t.all[f]? with
  | none => rw [q] at e; cases e
  | some d =>
    rw [q] at e
    exact ⟨d, rfl, Option.some.inj (Option.some.inj e)⟩
theorem pk_get {f : Nat} {x : Str} (e : (t.pk.map fun d => some d.nm)[f]? = some (some x)) : ∃ d, t.all[f]? = some d ∧ d.nm = x ∧ t.pk[f]? = some d := by
  rw [List.getElem?_map] at e
  cases q : t.pk[f]? with
  | none => rw [q] at e; cases e
  | some d =>
    rw [q] at e
    refine ⟨d, ?_, Option.some.inj (Option.some.inj e), rfl⟩
    unfold PT.all
    rw [List.getElem?_append_left (List.getElem?_eq_some_iff.mp q).1]
    exact q
theorem sub_get {c1 c2 : Nat} {b : Bool} (e : t.subF c1 c2 = some b) : (c1, c2, b) ∈ t.subs := by
  unfold PT.subF at e
  cases q : t.subs.find? (fun p => decide (p.1 = c1) && decide (p.2.1 = c2)) with
  | none => rw [q] at e; cases e
  | some p =>
    rw [q] at e
    have e : p.2.2 = b := Option.some.inj e
    have h2 := List.find?_some q
    obtain ⟨h3, h4⟩ := two h2
    have h3 := of_decide_eq_true h3
    have h4 := of_decide_eq_true h4
    obtain ⟨a, b', c'⟩ := p
    subst e
    have h3 : a = c1 := h3
    have h4 : b' = c2 := h4
    subst h3 h4
    exact List.mem_of_find?_eq_some q
/-- what holds of the program, at the head -/
theorem gp_of {S : SI} (hS : S = t.S0 ∨ S = t.S1) (kin : K.In h) (ns : h.Ns mainGlobals mg) (c : He.SaysX t.fa t.fn [] t.tf t.ex w h K) (ck : t.chk = true) (po : t.PatOk) (ho : t.HlpOk) (base : Heap) :
    GP S t.xn (t.G K) (Cfg.no t.V) (t.fAd K) (fun f => PT.fdOf K (t.fAd K f)) t.ps t.prog w K mg base := by
  have sd := c.t.d
  have mr := c.more
  unfold PT.ex at mr
  obtain ⟨m1, m2⟩ := two mr
  obtain ⟨m2, m3⟩ := two m2
  obtain ⟨m3, m4⟩ := two m3
  unfold PT.chk at ck
  obtain ⟨k1, k2⟩ := two ck
  obtain ⟨k2, k3⟩ := two k2
  obtain ⟨k3, k4⟩ := two k3
  obtain ⟨k4, k5⟩ := two k4
  obtain ⟨k5, k6⟩ := two k5
  obtain ⟨k6, k7⟩ := two k6
  have inA : ∀ {f : Nat} {d : PDef}, t.all[f]? = some d → d ∈ t.all ++ t.hl := fun e => List.mem_append.mpr (.inl (List.mem_of_getElem? e))
  have fA : ∀ {f : Nat} {d : PDef}, t.all[f]? = some d → t.fAd K f = He.ga K d.nm := fun {f d} e => by unfold PT.fAd; rw [e]
  have xcN : ∀ {i : Nat} {p : Str × Str}, t.xc[i]? = some p → (p.1 == ("__debug__" : Str)) = false := fun {i p} e => by
    have := List.all_eq_true.mp k5 p (List.mem_of_getElem? e)
    simpa using this
  have nrOf : ∀ {i : Nat} {x : Str}, t.xn[i]? = some x → i < t.nr ∧ ∃ p, t.xc[i]? = some p ∧ p.1 = x ∧ p ∈ t.xc.take t.nr := fun {i x} e => by
    unfold PT.xn at e
    rw [List.getElem?_map] at e
    cases q : (t.xc.take t.nr)[i]? with
    | none => rw [q] at e; cases e
    | some p =>
      rw [q] at e
      have hi := (List.getElem?_eq_some_iff.mp q).1
      have hi : i < t.nr := by
        have h2 : i < min t.nr t.xc.length := by rw [← List.length_take]; exact hi
        omega
      refine ⟨hi, p, ?_, Option.some.inj e, List.mem_of_getElem? q⟩
      rw [List.getElem?_take] at q
      split at q <;> first | exact q | cases q
  have raisable : ∀ {i : Nat} {p : Str × Str}, i < t.nr → t.xc[i]? = some p → MPx.XTxt t.prog K (t.clA K i) (He.ma K (t.clA K i) "__init__") (t.fieldOf i) ∧ L2.XfC K (t.clA K i) := fun {i p} hi e => by
    obtain ⟨a1, a2⟩ := two (List.all_eq_true.mp m2 i (List.mem_range.mpr hi))
    refine ⟨?_, L2.xfB_ok a2⟩
    have ef : t.fieldOf i = p.2 := by unfold PT.fieldOf; rw [e]
    have hp : p ∈ t.xc.take t.nr := by
      refine List.mem_of_getElem? (i := i) ?_
      rw [List.getElem?_take, if_pos hi]
      exact e
    have top := of_decide_eq_true k6
    have hg := List.all_eq_true.mp k7 p hp
    rw [ef] at a1 ⊢
    simp only [Bool.or_eq_true, decide_eq_true_eq] at hg
    rcases hg with (z | z) | z
    · rw [z] at a1 ⊢
      exact MPx.xtB_ok a1 top (by decide) (by decide) MPx.bnd_given
    · rw [z] at a1 ⊢
      exact MPx.xtB_ok a1 top (by decide) (by decide) MPx.bnd_index
    · rw [z] at a1 ⊢
      exact MPx.xtB_ok a1 top (by decide) (by decide) MPx.bnd_place
  have fld_at : ∀ f x, t.fld[f]? = some x → fnm t.fld f = x := fun f x e => by unfold fnm; rw [e]
  obtain ⟨fr1, fr2⟩ := free_at (t := t) kin ns sd
  have hfn : ∀ (f : Nat) (x : Str), S.fn[f]? = some (some x) → ∃ d : PDef, t.all[f]? = some d ∧ d.nm = x := fun f x e => by
    rcases hS with z | z
    · subst z
      obtain ⟨d, h1, h2, _⟩ := pk_get e
      exact ⟨d, h1, h2⟩
    · subst z
      exact all_get e
  have hpats : S.pats = t.pats := by rcases hS with z | z <;> subst z <;> rfl
  have hcts : S.cts = t.cts.map (·.1) := by rcases hS with z | z <;> subst z <;> rfl
  have hcls : S.cls = t.xc.map (·.1) := by rcases hS with z | z <;> subst z <;> rfl
  have hfld : S.fld = t.fld := by rcases hS with z | z <;> subst z <;> rfl
  have fnK : ∀ {f : Nat} {d : PDef}, t.all[f]? = some d → mg d.nm = some (.ref (t.fAd K f)) ∧ PySem.W.keepIn K (.ref (t.fAd K f)) = true := fun {f d} e => by
    obtain ⟨⟨fd, F⟩, hm⟩ := def_at (t := t) kin ns sd (inA e)
    rw [fA e]
    exact ⟨hm, F.kp⟩
  refine {
    fn := fun f x e => ?_
    pat := fun f n ks perm hp s us zs ws _ l1 l2 e => ?_
    cts := fun g x e => ?_
    free := fr1
    attr := fun c f e => by cases e
    fld := fun f x e => by rw [hfld] at e; exact fld_at f x e
    inj := fnm_inj k4
    calm := by rcases hS with z | z <;> subst z <;> rfl
    nact := by rcases hS with z | z <;> subst z <;> rfl
    kdq := kd_ok rfl
    lamd := fun z => ⟨⟨rfl, fun f x e => ?_⟩, fun f x e => ?_⟩
    exc := fun i x e => ?_
    sup := fr2
    xfn := fun i f e => ?_
    subq := fun c1 c2 b e => ?_
    clq := fun i y e => ?_
    exn := rfl
    lan := rfl }
  · obtain ⟨d, h1, h2⟩ := hfn f x e
    subst h2
    exact fnK h1
  · rw [hpats] at hp
    obtain ⟨d, h1, h2⟩ := po f n ks perm hp
    obtain ⟨⟨fd, F⟩, _⟩ := def_at (t := t) kin ns sd (inA h1)
    have e2 : PT.fdOf K (t.fAd K f) = fd := by rw [fA h1]; exact fd_of F
    have e3 : t.ps f = d.ps := by unfold PT.ps; rw [h1]
    show BindsTo s (PT.fdOf K (t.fAd K f)) _ _
    rw [e2, e3]
    obtain ⟨oc, od, dV, kV, doc, pm, an, cdv, ct, osl, rfl, lk, _, hD, _⟩ := F.ex
    rcases hD with ⟨_, rfl⟩ | ⟨z, _⟩
    · exact .of_eq (h2 kV doc pm an cdv ct us zs ws l1 l2 e)
    · exact absurd rfl z
  · rw [hcts, List.getElem?_map] at e
    cases q : t.cts[g]? with
    | none => rw [q] at e; cases e
    | some p =>
      rw [q] at e
      cases e
      have := List.all_eq_true.mp m1 p (List.mem_of_getElem? q)
      split at this
      · rename_i u eu
        obtain ⟨v, v1, v2⟩ := rel_ok (G := t.G K) rfl this
        refine ⟨u, p.2, v, PySem.W.mg_of kin ns eu, ?_, v1, v2⟩
        show (t.cts.map (·.2))[g]? = some p.2
        rw [List.getElem?_map, q]; rfl
      · cases this
  · rcases hS with z2 | z2
    · subst z2; cases z
    · subst z2
      have e : (t.hl.map (·.nm))[f]? = some x := e
      rw [List.getElem?_map] at e
      cases q : t.hl[f]? with
      | none => rw [q] at e; cases e
      | some d =>
        rw [q] at e
        cases e
        have hd := List.mem_of_getElem? q
        obtain ⟨⟨fd, F⟩, hm⟩ := def_at (t := t) kin ns sd (List.mem_append.mpr (.inr hd))
        have hb := List.all_eq_true.mp k3 d hd
        unfold PT.hlpB at hb
        obtain ⟨b1, b2⟩ := two hb
        obtain ⟨b2, b3⟩ := two b2
        obtain ⟨b3, b4⟩ := two b3
        obtain ⟨b4, b5⟩ := two b4
        split at b5
        · rename_i a ea
          obtain ⟨b5, b6⟩ := two b5
          obtain ⟨b6, b7⟩ := two b6
          obtain ⟨n1, n2⟩ := nodbg_ok b7
          have bind : L2.Binds K fd [a] [] := L2.FunD.bindsN F fun kV doc pm an cdv ct us hl => by
            have := ho d hd kV doc pm an cdv ct us (by rw [ea]; exact hl)
            rw [ea] at this
            exact this
          obtain ⟨oc, od, dV, kV, doc, pm, an, cdv, ct, osl, rfl, lk, hcd, hD, _⟩ := F.ex
          rw [ea] at b1
          refine ⟨d.md, He.ga K d.nm, L2.defArgs d.st, L2.defBody d.st, L2.defScope d.st, dV, kV, doc, pm, cdv, ct, oc, an, od, osl, d.N, a, 400, ?_, hm, F.kp, lk, hcd, bind, scopeB_ok b1, of_decide_eq_true b5, vis_ok b6, of_decide_eq_true b2, b3, by simpa using b4, n1, n2⟩
          show (t.hl[f]?).map (·.md) = some d.md
          rw [q]; rfl
        · cases b5
  · rcases hS with z2 | z2
    · subst z2; cases z
    · subst z2
      obtain ⟨d, h1, h2, _⟩ := pk_get e
      subst h2
      exact fnK h1
  · obtain ⟨hi, p, h1, h2, _⟩ := nrOf e
    subst h2
    exact ⟨_, (raisable hi h1).1, cls_at (t := t) kin ns sd h1, xcN h1⟩
  · have e : (if i < t.nr then t.fld.findIdx? (fun x => decide (x = t.fieldOf i)) else none) = some f := e
    split at e
    · rename_i hi
      obtain ⟨hlt, hp, _⟩ := List.findIdx?_eq_some_iff_getElem.mp e
      have e2 : t.fld[f]? = some (t.fieldOf i) := by
        rw [List.getElem?_eq_getElem hlt]
        exact congrArg some (of_decide_eq_true hp)
      refine ⟨fld_at f _ e2, ?_⟩
      obtain ⟨a1, a2⟩ := two (List.all_eq_true.mp m2 i (List.mem_range.mpr hi))
      refine ⟨L2.xfB_ok a2, ?_⟩
      unfold MPx.xtB MPx.opB at a1
      simp only [Bool.and_eq_true, decide_eq_true_eq] at a1
      exact a1.2.2.1
    · cases e
  · have q := List.all_eq_true.mp m3 _ (sub_get (t := t) e)
    obtain ⟨q1, q2⟩ := two q
    obtain ⟨q2, q3⟩ := two q2
    exact ⟨of_decide_eq_true q1, of_decide_eq_true q2, PT.errB_ok q3⟩
  · rw [hcls, List.getElem?_map] at e
    cases q : t.xc[i]? with
    | none => rw [q] at e; cases e
    | some p =>
      rw [q] at e
      cases e
      exact ⟨cls_at (t := t) kin ns sd q, xcN q⟩
theorem fact_of {S S' : SI} {d : PDef} {f : Nat} {cs : List (Addr × Addr)} (kin : K.In h) (ns : h.Ns mainGlobals mg) (c : He.SaysX t.fa t.fn [] t.tf t.ex w h K) (hd : t.all[f]? = some d) (hb : PT.defB S' t.xn d = true) (hS : S' = S ∨ S' = S.nl)
    (hl : S'.lam = true → d ∈ t.lams ∧ cs = t.tf.map (He.cT K)) : FnFact S t.xn (t.G K) K cs (t.fAd K f) (PT.fdOf K (t.fAd K f)) (t.ps f) d.md := by
  obtain ⟨⟨fd, F⟩, _⟩ := def_at (t := t) kin ns c.t.d (List.mem_append.mpr (.inl (List.mem_of_getElem? hd)))
  have e1 : t.fAd K f = He.ga K d.nm := by unfold PT.fAd; rw [hd]
  have e2 : PT.fdOf K (t.fAd K f) = fd := by rw [e1]; exact fd_of F
  have e3 : t.ps f = d.ps := by unfold PT.ps; rw [hd]
  rw [e2, e3, e1]
  unfold PT.defB at hb
  obtain ⟨b1, b2⟩ := two hb
  obtain ⟨b2, b3⟩ := two b2
  obtain ⟨b3, b4⟩ := two b3
  obtain ⟨b4, b5⟩ := two b4
  obtain ⟨oc, od, dV, kV, doc, pm, an, cdv, ct, osl, e4, lk, hcd, hD, hK⟩ := F.ex
  subst e4
  refine ⟨S', d.nm, d.nm, L2.defArgs d.st, L2.defBody d.st, L2.defScope d.st, dV, kV, doc, pm, cdv, ct, oc, an, od, osl, d.N, 400, hS, rfl, lk, hcd, scopeB_ok b1, of_decide_eq_true b2, of_decide_eq_true b3, b4, fun z => ?_⟩
  obtain ⟨l1, l2⟩ := hl z
  obtain ⟨cc, ec⟩ := He.codeIn_ref hcd
  subst ec
  have ea : He.fAd K (d.nm, none) = He.ga K d.nm := rfl
  have eC : He.codeOf K (d.nm, none) = cc := He.codeOf_eq (p := (d.nm, none)) (fd := PySem.W.fnOf d.nm d.nm (L2.defArgs d.st) (L2.defBody d.st) (L2.defScope d.st) dV kV doc pm an (.ref cc) ct) lk rfl
  refine ⟨cc, PT.tabN K d, rfl, ?_, ?_, fun p hp he => ?_⟩
  · rw [l2]
    refine List.mem_map.mpr ⟨(d.nm, none), List.mem_map.mpr ⟨d, l1, rfl⟩, ?_⟩
    unfold PT.tabN He.cT
    rw [eC]
  · exact List.mem_map.mpr ⟨d, l1, rfl⟩
  · obtain ⟨d2, h2, e⟩ := List.mem_map.mp hp
    subst e
    have mr := c.more
    unfold PT.ex at mr
    obtain ⟨_, m2⟩ := two mr
    obtain ⟨_, m3⟩ := two m2
    obtain ⟨_, m4⟩ := two m3
    have q := List.all_eq_true.mp (List.all_eq_true.mp m4 d2 h2) d l1
    have he : PT.tabN K d2 = PT.tabN K d := he
    rw [he] at q
    have q : d2.nm = d.nm := by simpa using q
    show d2.nm ++ _ ++ _ = _
    rw [q]
/-- all defs of the table, by runs -/
theorem table_ok {d0 : Nat} (kin : K.In h) (ns : h.Ns mainGlobals mg) (c : He.SaysX t.fa t.fn [] t.tf t.ex w h K) (ck : t.chk = true) (po : t.PatOk) (ho : t.HlpOk) (base : Heap) (tbs : ∀ p ∈ t.tf.map (He.cT K), LamX.TabB base mg p.1 p.2) :
    ∀ (n f : Nat) (vs : List IV) (hp : Hpi) (R : Res → Prop), RunsL t.T0 t.T t.V d0 n f vs hp R → FnG true t.prog w K mg base (d0 + 2 + n) (t.fAd K f) (PT.fdOf K (t.fAd K f)) (t.ps f) (spOf K (t.G K) vs hp R) := by
  have p0 := gp_of (.inl rfl) kin ns c ck po ho base
  have p1 := gp_of (.inr rfl) kin ns c ck po ho base
  have ck2 := ck
  unfold PT.chk at ck2
  obtain ⟨k1, k2⟩ := two ck2
  obtain ⟨k2, k3⟩ := two k2
  refine all_fnL p0 rfl rfl p1 (fun f df e => ?_) (fun f df e => ?_) (fun f x e => ?_) tbs
  · unfold PT.T0 at e
    cases q : t.pk[f]? with
    | none => rw [q] at e; cases e
    | some d =>
      rw [q] at e
      cases e
      have ha : t.all[f]? = some d := by
        unfold PT.all
        rw [List.getElem?_append_left (List.getElem?_eq_some_iff.mp q).1]
        exact q
      exact fact_of kin ns c ha (List.all_eq_true.mp k1 d (List.mem_of_getElem? q)) (.inl rfl) (fun z => by cases z)
  · unfold PT.T at e
    split at e
    · cases e
    · rename_i hlt
      cases q : t.all[f]? with
      | none => rw [q] at e; cases e
      | some d =>
        rw [q] at e
        cases e
        have q2 := q
        unfold PT.all at q2
        rw [List.getElem?_append_right (Nat.le_of_not_lt hlt), List.getElem?_map] at q2
        cases q3 : t.lw[f - t.pk.length]? with
        | none => rw [q3] at q2; cases q2
        | some pr =>
          rw [q3] at q2
          cases q2
          have hb := List.all_eq_true.mp k2 pr (List.mem_of_getElem? q3)
          obtain ⟨d, b⟩ := pr
          cases b with
          | true => exact fact_of (S' := t.S1) kin ns c q hb (.inl rfl) fun _ => ⟨List.mem_map.mpr ⟨(d, true), List.mem_filter.mpr ⟨List.mem_of_getElem? q3, rfl⟩, rfl⟩, rfl⟩
          | false => exact fact_of (S' := t.S1.nl) kin ns c q hb (.inr rfl) (fun z => by cases z)
  · obtain ⟨d, _, _, h3⟩ := pk_get (t := t) e
    unfold PT.T
    rw [if_pos (List.getElem?_eq_some_iff.mp h3).1]
end
/-- the script at the start -/
theorem script_rv {K : PySem.W.Frag} {G : PEnv} {H : Hp} : ∀ {ns : List Int}, RVs K G [] H (ns.map IV.int) (ns.map V.int)
  | [] => rfl
  | _ :: _ => ⟨_, _, rfl, rfl, script_rv⟩
theorem end_by {t : PT} {l : PySem.W.OpenLaw} {q : Program} {loose : List Str} {XP : (Str → Option Value) → Heap → Prop} {d : DefRec} {N d0 n lx : Nat} {dl : PDef} {x : Str}
    (hl : l.prog = t.prog) (hn : l.most = some 63) (hdf : d.params.defaults = []) (hd : t.all[lx]? = some dl) (hnm : dl.nm = d.name) (hps : dl.ps = [x]) (hpat : (lx, 1, [], [0]) ∈ t.pats) (ck : t.chk = true) (po : t.PatOk) (ho : t.HlpOk) (rm : RoomG true (d0 + 2 + n) callerA)
    (plain : ∀ ns : List Int, ns.length ≤ 63 → RunsL t.T0 t.T t.V d0 n lx [.kls (ns.map .int)] [] fun r => ∃ h, r = .ok (.bl true) h) :
    PySem.W.WalkO q loose XP (hookY N t).says l.row.toRowW d [] (fun f vs => PySem.call f vs) := by
  refine walk_end (n := 63) (k := d0 + 2 + n) (x := x) hn (by rw [sizeLine_eq]; decide) hdf rm fun w mg fa h Y ns hmg => ?_
  obtain ⟨K, kin, c⟩ := Y
  obtain ⟨⟨fd, F⟩, hm⟩ := def_at (t := t) kin ns c.t.d (List.mem_append.mpr (.inl (List.mem_of_getElem? hd)))
  have e1 : t.fAd K lx = He.ga K dl.nm := by unfold PT.fAd; rw [hd]
  have e2 : PT.fdOf K (t.fAd K lx) = fd := by rw [e1]; exact fd_of F
  have e3 : t.ps lx = [x] := by unfold PT.ps; rw [hd]; exact hps
  have efa : t.fAd K lx = fa := by
    rw [e1]
    rw [hnm, hmg] at hm
    rw [hnm]
    exact (Value.ref.inj (Option.some.inj hm)).symm
  refine ⟨K, t.tf.map (He.cT K), fd, kin, fun p hp => ?_, fun p hp => ?_, fun p hp => ?_, fun s u => ?_, fun is hi => ?_⟩
  · obtain ⟨p0, h0, rfl⟩ := List.mem_map.mp hp
    exact c.empty p0 h0
  · obtain ⟨p0, h0, rfl⟩ := List.mem_map.mp hp
    exact c.out p0 h0
  · obtain ⟨p0, h0, rfl⟩ := List.mem_map.mp hp
    exact PySem.W.codeHd_of_K kin (c.hd p0 h0)
  · obtain ⟨d', h1, h2⟩ := po lx 1 [] [0] hpat
    rw [hd] at h1
    cases h1
    obtain ⟨oc, od, dV, kV, doc, pm, an, cdv, ct, osl, rfl, lk, _, hD, _⟩ := F.ex
    rcases hD with ⟨_, rfl⟩ | ⟨z, _⟩
    · have := h2 kV doc pm an cdv ct [u] [] [u] rfl rfl rfl
      rw [hps] at this
      exact .of_eq this
    · exact absurd rfl z
  · refine ⟨spOf K (t.G K) [.kls (is.map .int)] [] fun r => ∃ h, r = .ok (.bl true) h, fun H a h1 h2 => ?_, fun base b1 b2 b3 => ?_⟩
    · refine ⟨[], ⟨rfl, by simp, fun i a c e => by simp at e, fun p hp => ?_, (fun e dd z => by cases z), (fun i z => by cases z)⟩, ?_, fun v h1 μ1 H1 x r1 s1 r2 q1 => ?_, fun e h1 μ1 H1 cls d r1 => ?_⟩
      · obtain ⟨d1, d2, e⟩ := List.mem_map.mp hp
        subst e
        exact LamX.TabS.nil (h1 (He.cT K (d1.nm, none)) (List.mem_map.mpr ⟨(d1.nm, none), List.mem_map.mpr ⟨d1, d2, rfl⟩, rfl⟩))
      · refine ⟨_, _, rfl, ⟨a, is.map V.int, rfl, ?_, script_rv⟩, rfl⟩
        rcases h2 with z | z
        · exact .inr ⟨z, by simp⟩
        · exact .inl z
      · obtain ⟨h2, e⟩ := r1
        cases e
        exact q1
      · obtain ⟨h2, e⟩ := r1
        cases e
    · have := table_ok (d0 := d0) kin ns c ck po ho base b3 n lx _ [] _ (plain is hi)
      rw [e2, e3, efa] at this
      rw [hl]
      exact this
end MP
set_option maxRecDepth 100000
set_option maxHeartbeats 4000000
/-! MPy: plain rules of the interpreter. -/
namespace MP
open PySem
/-- where a statement went -/
inductive Out where
  | nx (ℓ : Loc) (h : Hpi)
  | rt (v : IV) (h : Hpi)
  | bk (ℓ : Loc) (h : Hpi)
  | ct (ℓ : Loc) (h : Hpi)
  | ex (ℓ : Loc) (e : Exn) (h : Hpi)
def Ds.on (D : Ds) : Out → Tree
  | .nx ℓ h => D.nx ℓ h
  | .rt v h => D.rt v h
  | .bk ℓ h => D.bk ℓ h
  | .ct ℓ h => D.ct ℓ h
  | .ex ℓ e h => D.ex ℓ e h
def HE (C : CSp) (F : Cfg) (n : Nat) (e : ME) (ℓ : Loc) (h : Hpi) (Q : IV → Hpi → Prop) (X : Exn → Hpi → Prop) : Prop := ∀ (k : KV) (kx : KX) (P : Res → Prop), (∀ v h1, Q v h1 → Wp C (k v h1) P) → (∀ e h1, X e h1 → Wp C (kx e h1) P) → Wp C (evE F n e ℓ h k kx) P
def HL (C : CSp) (F : Cfg) (n : Nat) (e : List ME) (ℓ : Loc) (h : Hpi) (Q : List IV → Hpi → Prop) (X : Exn → Hpi → Prop) : Prop := ∀ (k : KVs) (kx : KX) (P : Res → Prop), (∀ v h1, Q v h1 → Wp C (k v h1) P) → (∀ e h1, X e h1 → Wp C (kx e h1) P) → Wp C (evL F n e ℓ h k kx) P
def HI (C : CSp) (F : Cfg) (n : Nat) (e : MI) (ℓ : Loc) (h : Hpi) (Q : Src → Hpi → Prop) (X : Exn → Hpi → Prop) : Prop := ∀ (k : Src → Hpi → Tree) (kx : KX) (P : Res → Prop), (∀ v h1, Q v h1 → Wp C (k v h1) P) → (∀ e h1, X e h1 → Wp C (kx e h1) P) → Wp C (evI F n e ℓ h k kx) P
def HG (C : CSp) (F : Cfg) (n : Nat) (t : MT) (v : IV) (ℓ : Loc) (h : Hpi) (Q : Loc → Hpi → Prop) : Prop := ∀ (k : Loc → Hpi → Tree) (P : Res → Prop), (∀ ℓ1 h1, Q ℓ1 h1 → Wp C (k ℓ1 h1) P) → Wp C (evG F n t v ℓ h k (fun _ _ => .stuck)) P
def HS (C : CSp) (F : Cfg) (n : Nat) (s : MS) (ℓ : Loc) (h : Hpi) (Q : Out → Prop) : Prop := ∀ (D : Ds) (P : Res → Prop), (∀ o, Q o → Wp C (D.on o) P) → Wp C (evS F n s ℓ h D) P
def HB (C : CSp) (F : Cfg) (n : Nat) (s : List MS) (ℓ : Loc) (h : Hpi) (Q : Out → Prop) : Prop := ∀ (D : Ds) (P : Res → Prop), (∀ o, Q o → Wp C (D.on o) P) → Wp C (evB F n s ℓ h D) P
section
variable {C : CSp} {F : Cfg} {n : Nat} {ℓ : Loc} {h : Hpi}
theorem HB.nil {Q : Out → Prop} (q : Q (.nx ℓ h)) : HB C F (n + 1) [] ℓ h Q := fun D P w => w _ q
theorem HB.cons {s : MS} {ss : List MS} {Q : Out → Prop} (hs : HS C F n s ℓ h fun o => match o with
    | .nx ℓ1 h1 => HB C F n ss ℓ1 h1 Q
    | o => Q o) : HB C F (n + 1) (s :: ss) ℓ h Q := fun D P w => hs { D with nx := fun ℓ1 h1 => evB F n ss ℓ1 h1 D } P fun o q => by
  cases o with
  | nx ℓ1 h1 => exact q D P w
  | rt v h1 => exact w _ q
  | bk v h1 => exact w _ q
  | ct v h1 => exact w _ q
  | ex l e h1 => exact w _ q
theorem HS.asg {t : MT} {e : ME} {Q : Out → Prop} (he : HE C F n e ℓ h (fun v h1 => HG C F n t v ℓ h1 fun ℓ2 h2 => Q (.nx ℓ2 h2)) (fun e h1 => Q (.ex ℓ e h1))) : HS C F (n + 1) (.asg t e) ℓ h Q := fun D P w =>
  he _ _ P (fun v h1 q => q _ P fun ℓ2 h2 q2 => w _ q2) fun e h1 q => w _ q
theorem HS.expr {e : ME} {Q : Out → Prop} (he : HE C F n e ℓ h (fun v h1 => Q (.nx ℓ h1)) (fun e h1 => Q (.ex ℓ e h1))) : HS C F (n + 1) (.expr e) ℓ h Q := fun D P w =>
  he _ _ P (fun v h1 q => w _ q) fun e h1 q => w _ q
theorem HS.ret {e : ME} {Q : Out → Prop} (he : HE C F n e ℓ h (fun v h1 => Q (.rt v h1)) (fun e h1 => Q (.ex ℓ e h1))) : HS C F (n + 1) (.ret e) ℓ h Q := fun D P w =>
  he _ _ P (fun v h1 q => w _ q) fun e h1 q => w _ q
theorem HS.ifs {c : ME} {a b : List MS} {Q : Out → Prop} (hc : HE C F n c ℓ h (fun x h1 => ∃ t, truIV x h1 = some t ∧ (t = true → HB C F n a ℓ h1 Q) ∧ (t = false → HB C F n b ℓ h1 Q)) (fun e h1 => Q (.ex ℓ e h1))) : HS C F (n + 1) (.ifs c a b) ℓ h Q := fun D P w =>
  hc _ _ P (fun x h1 ⟨t, e, q1, q2⟩ => by
    show Wp C (optT (truIV x h1) _) P
    rw [e]
    cases t with
    | true => exact q1 rfl D P w
    | false => exact q2 rfl D P w) fun e h1 q => w _ q
theorem HS.raise {c : Nat} {e : ME} {Q : Out → Prop} (he : HE C F n e ℓ h (fun v h1 => Q (.ex ℓ ⟨c, v⟩ h1)) (fun e h1 => Q (.ex ℓ e h1))) : HS C F (n + 1) (.raise c e) ℓ h Q := fun D P w =>
  he _ _ P (fun v h1 q => w _ q) fun e h1 q => w _ q
theorem HS.cnt {Q : Out → Prop} (q : Q (.ct ℓ h)) : HS C F (n + 1) .cnt ℓ h Q := fun D P w => w _ q
theorem HS.brk {Q : Out → Prop} (q : Q (.bk ℓ h)) : HS C F (n + 1) .brk ℓ h Q := fun D P w => w _ q
theorem HS.pass {Q : Out → Prop} (q : Q (.nx ℓ h)) : HS C F (n + 1) .pass ℓ h Q := fun D P w => w _ q
theorem HI.val {e : ME} {Q : Src → Hpi → Prop} {X : Exn → Hpi → Prop} (he : HE C F n e ℓ h (fun x h1 => ∃ s, srcIV x h1 = some s ∧ Q s h1) X) : HI C F (n + 1) (.val e) ℓ h Q X := fun k kx P hk hx =>
  he _ _ P (fun x h1 ⟨s, e, q⟩ => by
    show Wp C (optT (srcIV x h1) _) P
    rw [e]
    exact hk s h1 q) hx
theorem HI.rng1 {e : ME} {Q : Src → Hpi → Prop} {X : Exn → Hpi → Prop} (he : HE C F n e ℓ h (fun x h1 => ∃ s, rngIV (.int 0) x = some s ∧ Q s h1) X) : HI C F (n + 1) (.rng1 e) ℓ h Q X := fun k kx P hk hx =>
  he _ _ P (fun x h1 ⟨s, e, q⟩ => by
    show Wp C (optT (rngIV (.int 0) x) _) P
    rw [e]
    exact hk s h1 q) hx
/-- a walk over told items; J: what holds ahead of each turn, by the items left -/
theorem evF_its {t : MT} {body : List MS} {Q : Out → Prop} {J : List IV → Loc → Hpi → Prop} (m : Nat) (hend : ∀ ℓ h, J [] ℓ h → Q (.nx ℓ h))
    (turn : ∀ k x xs ℓ h, J (x :: xs) ℓ h → HG C F (k + m) t x ℓ h fun ℓ1 h1 => HB C F (k + m) body ℓ1 h1 fun o => match o with
      | .nx ℓ2 h2 => J xs ℓ2 h2
      | .ct ℓ2 h2 => J xs ℓ2 h2
      | .bk ℓ2 h2 => Q (.nx ℓ2 h2)
      | o => Q o) : ∀ (xs : List IV) (k : Nat) (ℓ : Loc) (h : Hpi), xs.length ≤ k → J xs ℓ h → ∀ (D : Ds) (P : Res → Prop), (∀ o, Q o → Wp C (D.on o) P) → Wp C (evF F (k + m + 1) t (.its xs) body ℓ h D) P
  | [], _, ℓ, h, _, j, D, P, w => w _ (hend ℓ h j)
  | x :: xs, 0, _, _, hk, _, _, _, _ => absurd hk (by simp)
  | x :: xs, k + 1, ℓ, h, hk, j, D, P, w => turn (k + 1) x xs ℓ h j _ P fun ℓ1 h1 q => q _ P fun o q => by
    have again : ∀ ℓ2 h2, J xs ℓ2 h2 → Wp C (evF F (k + 1 + m) t (.its xs) body ℓ2 h2 D) P := fun ℓ2 h2 j2 => by
      rw [show k + 1 + m = k + m + 1 by omega]
      exact evF_its m hend turn xs k ℓ2 h2 (by simpa using hk) j2 D P w
    cases o with
    | nx ℓ2 h2 => exact again ℓ2 h2 q
    | ct ℓ2 h2 => exact again ℓ2 h2 q
    | bk ℓ2 h2 => exact w _ q
    | rt v h2 => exact w _ q
    | ex l e h2 => exact w _ q
/-- a walk over a list that lies in the cell a and stays as it is -/
theorem evF_live {t : MT} {body : List MS} {Q : Out → Prop} {J : List IV → Loc → Hpi → Prop} {a : Nat} {all : List IV} (m : Nat) (at_ : ∀ xs ℓ h, J xs ℓ h → h[a]? = some (.lst all)) (hend : ∀ ℓ h, J [] ℓ h → Q (.nx ℓ h))
    (turn : ∀ k x xs ℓ h, J (x :: xs) ℓ h → HG C F (k + m) t x ℓ h fun ℓ1 h1 => HB C F (k + m) body ℓ1 h1 fun o => match o with
      | .nx ℓ2 h2 => J xs ℓ2 h2
      | .ct ℓ2 h2 => J xs ℓ2 h2
      | .bk ℓ2 h2 => Q (.nx ℓ2 h2)
      | o => Q o) : ∀ (xs : List IV) (i k : Nat) (ℓ : Loc) (h : Hpi), xs.length ≤ k → all.drop i = xs → J xs ℓ h → ∀ (D : Ds) (P : Res → Prop), (∀ o, Q o → Wp C (D.on o) P) → Wp C (evF F (k + m + 1) t (.live a i) body ℓ h D) P
  | [], i, _, ℓ, h, _, hd, j, D, P, w => by
    have e : nextS (.live a i) h = some none := by
      simp only [nextS, at_ _ _ _ j]
      have : all[i]? = none := by
        rw [List.getElem?_eq_none_iff]
        exact List.drop_eq_nil_iff.mp hd
      rw [this]
    show Wp C (optT (nextS (.live a i) h) _) P
    rw [e]
    exact w _ (hend ℓ h j)
  | x :: xs, _, 0, _, _, hk, _, _, _, _, _ => absurd hk (by simp)
  | x :: xs, i, k + 1, ℓ, h, hk, hd, j, D, P, w => by
    have e : nextS (.live a i) h = some (some (x, .live a (i + 1))) := by
      simp only [nextS, at_ _ _ _ j]
      have : all[i]? = some x := by
        have h2 := congrArg (fun l => l[0]?) hd
        simpa using h2
      rw [this]
    have hd2 : all.drop (i + 1) = xs := by
      have h2 := congrArg List.tail hd
      simpa using h2
    show Wp C (optT (nextS (.live a i) h) _) P
    rw [e]
    refine turn (k + 1) x xs ℓ h j _ P fun ℓ1 h1 q => q _ P fun o q => ?_
    have again : ∀ ℓ2 h2, J xs ℓ2 h2 → Wp C (evF F (k + 1 + m) t (.live a (i + 1)) body ℓ2 h2 D) P := fun ℓ2 h2 j2 => by
      rw [show k + 1 + m = k + m + 1 by omega]
      exact evF_live m at_ hend turn xs (i + 1) k ℓ2 h2 (by simpa using hk) hd2 j2 D P w
    cases o with
    | nx ℓ2 h2 => exact again ℓ2 h2 q
    | ct ℓ2 h2 => exact again ℓ2 h2 q
    | bk ℓ2 h2 => exact w _ q
    | rt v h2 => exact w _ q
    | ex l e h2 => exact w _ q
theorem HS.forr {t : MT} {it : MI} {body : List MS} {Q : Out → Prop} (hi : HI C F n it ℓ h (fun s h1 => ∀ (D : Ds) (P : Res → Prop), (∀ o, Q o → Wp C (D.on o) P) → Wp C (evF F n t s body ℓ h1 D) P) (fun e h1 => Q (.ex ℓ e h1))) : HS C F (n + 1) (.forr t it body) ℓ h Q := fun D P w =>
  hi _ _ P (fun s h1 q => q D P w) fun e h1 q => w _ q
/-- the turns of a comprehension without a test; J: what holds ahead of each turn, with what is made so far -/
theorem evC_its {elt : ME} {t : MT} {own : List Nat} {c : Nat} {J : List IV → List IV → Hpi → Prop} (m : Nat) (at_ : ∀ xs acc h, J xs acc h → h[c]? = some (.lst acc) ∧ acc.length + xs.length ≤ 16777216)
    (turn : ∀ k x xs acc h, J (x :: xs) acc h → HG C F (k + m) t x ℓ h fun ℓ1 h1 => HE C F (k + m) elt ℓ1 h1 (fun y h2 => h2[c]? = some (.lst acc) ∧ J xs (acc ++ [y]) (h2.set c (.lst (acc ++ [y])))) fun _ _ => False) :
    ∀ (xs acc : List IV) (k : Nat) (h : Hpi), xs.length ≤ k → 0 < m → J xs acc h → ∀ (kk : KV) (P : Res → Prop), (∀ acc h, J [] acc h → Wp C (kk (.ref c) h) P) → Wp C (evC F (k + m + 1) elt t (.its xs) [] own ℓ c h kk) P
  | [], acc, _, h, _, _, j, kk, P, w => w acc h j
  | x :: xs, _, 0, _, hk, _, _, _, _, _ => absurd hk (by simp)
  | x :: xs, acc, k + 1, h, hk, hm, j, kk, P, w => by
    obtain ⟨m', rfl⟩ : ∃ m', m = m' + 1 := ⟨m - 1, by omega⟩
    rw [evC]
    simp only [nextS, optT]
    refine turn (k + 1) x xs acc h j _ P fun ℓ1 h1 q => ?_
    rw [show k + 1 + (m' + 1) = (m' + k + 1) + 1 by omega] at q ⊢
    rw [evQ]
    dsimp only
    refine q _ _ P (fun y h2 ⟨e, j2⟩ => ?_) fun e h2 z => z.elim
    rw [e]
    dsimp only
    have hz : sizeOk (acc.length + 1) = true := by
      have := (at_ _ _ _ j).2
      simp at this
      exact decide_eq_true (by omega)
    rw [if_pos hz]
    have := evC_its (elt := elt) (t := t) (own := own) (m' + 1) at_ turn xs (acc ++ [y]) k (h2.set c (.lst (acc ++ [y]))) (by simpa using hk) hm j2 kk P w
    rw [show k + (m' + 1) + 1 = m' + k + 1 + 1 by omega] at this
    exact this
/-- the turns of a comprehension with one test, over a list that lies in the cell a -/
theorem evC_live1 {elt cond : ME} {t : MT} {own : List Nat} {c a : Nat} {all : List IV} {J : List IV → List IV → Hpi → Prop} (m : Nat) (at_ : ∀ xs acc h, J xs acc h → h[a]? = some (.lst all) ∧ acc.length + xs.length ≤ 16777216)
    (turn : ∀ k x xs acc h, J (x :: xs) acc h → HG C F (k + m + 1) t x ℓ h fun ℓ1 h1 => HE C F (k + m) cond ℓ1 h1 (fun y h2 => ∃ b, truIV y h2 = some b ∧ (b = false → J xs acc h2) ∧ (b = true → HE C F (k + m + 1) elt ℓ1 h2 (fun z h3 => h3[c]? = some (.lst acc) ∧ J xs (acc ++ [z]) (h3.set c (.lst (acc ++ [z])))) fun _ _ => False)) fun _ _ => False) :
    ∀ (xs acc : List IV) (i k : Nat) (h : Hpi), xs.length ≤ k → 0 < m → all.drop i = xs → J xs acc h → ∀ (kk : KV) (P : Res → Prop), (∀ acc h, J [] acc h → Wp C (kk (.ref c) h) P) → Wp C (evC F (k + m + 1) elt t (.live a i) [cond] own ℓ c h kk) P
  | [], acc, i, _, h, _, _, hd, j, kk, P, w => by
    have e : nextS (.live a i) h = some none := by
      simp only [nextS, (at_ _ _ _ j).1]
      have : all[i]? = none := by
        rw [List.getElem?_eq_none_iff]
        exact List.drop_eq_nil_iff.mp hd
      rw [this]
    rw [evC, e]
    exact w acc h j
  | x :: xs, _, _, 0, _, hk, _, _, _, _, _, _ => absurd hk (by simp)
  | x :: xs, acc, i, k + 1, h, hk, hm, hd, j, kk, P, w => by
    have e : nextS (.live a i) h = some (some (x, .live a (i + 1))) := by
      simp only [nextS, (at_ _ _ _ j).1]
      have : all[i]? = some x := by
        have h2 := congrArg (fun l => l[0]?) hd
        simpa using h2
      rw [this]
    have hd2 : all.drop (i + 1) = xs := by
      have h2 := congrArg List.tail hd
      simpa using h2
    obtain ⟨m', rfl⟩ : ∃ m', m = m' + 1 := ⟨m - 1, by omega⟩
    rw [evC, e]
    simp only [optT]
    have again := fun acc2 h2 j2 => evC_live1 (elt := elt) (cond := cond) (t := t) (own := own) (m' + 1) at_ turn xs acc2 (i + 1) k h2 (by simpa using hk) hm hd2 j2 kk P w
    rw [show k + 1 + (m' + 1) = k + (m' + 1) + 1 by omega]
    refine turn k x xs acc h j _ P fun ℓ1 h1 q => ?_
    rw [evQ]
    refine q _ _ P (fun y h2 ⟨b, eb, f1, f2⟩ => ?_) fun e h2 z => z.elim
    rw [eb]
    cases b with
    | false => exact again acc h2 (f1 rfl)
    | true =>
      simp only [optT]
      rw [show k + (m' + 1) = (k + m') + 1 by omega, evQ]
      rw [show k + m' + 1 = k + (m' + 1) by omega]
      refine f2 rfl _ _ P (fun z h3 ⟨e3, j3⟩ => ?_) fun e h2 z => z.elim
      rw [e3]
      dsimp only
      have hz : sizeOk (acc.length + 1) = true := by
        have := (at_ _ _ _ j).2
        simp at this
        exact decide_eq_true (by omega)
      rw [if_pos hz]
      exact again (acc ++ [z]) _ j3
end
end MP
set_option maxRecDepth 100000
set_option maxHeartbeats 4000000
/-! MPy2: the laws' draws. -/
namespace MP
open PySem
/-- _law_deal -/
def dealM : MDef := ⟨4, 2, [.ifs (.cmp .gt (.idx (.var 0) (.cint 0)) (.cint 0)) [.asg (.tup [.idx (.var 0) (.cint 0), .name 2]) (.bcall .divmod [.idx (.var 0) (.cint 0), .var 1]), .ret (.var 2)] [], .asg (.idx (.var 0) (.cint 2)) (.bin .add (.idx (.var 0) (.cint 2)) (.cint 1)), .asg (.name 3) (.bin .mod (.bcall .int [.bin .add (.bin .add (.bin .mul (.idx (.var 0) (.cint 1)) (.cint 41039)) (.bin .mul (.cint 14009) (.idx (.var 0) (.cint 2)))) (.cint 7)]) (.cint 2147483563)), .asg (.idx (.var 0) (.cint 1)) (.bin .mod (.bcall .int [.bin .add (.bin .mul (.var 3) (.bin .add (.bin .mod (.bcall .int [.var 3]) (.cint 5003)) (.cint 21001))) (.idx (.var 0) (.cint 2))]) (.cint 2147483563)), .ret (.bin .mod (.bcall .int [.bin .fdiv (.idx (.var 0) (.cint 1)) (.cint 977)]) (.var 1))]⟩
theorem okMul_l {i j : Int} (h1 : -(2 ^ 64) < i) (h2 : i < 2 ^ 64) : okMul i j = true := by
  unfold okMul
  rw [decide_eq_true h1, decide_eq_true h2]; rfl
theorem okMul_r {i j : Int} (h1 : -(2 ^ 64) < j) (h2 : j < 2 ^ 64) : okMul i j = true := by
  unfold okMul
  rw [decide_eq_true h1, decide_eq_true h2]; simp
theorem okDiv_s {j : Int} (h1 : 0 < j) (h2 : j < 1073741824) : okDiv j = true := by
  unfold okDiv
  rw [decide_eq_true h1, decide_eq_true h2]; rfl
theorem idx3 {h : Hpi} {a : Nat} {x y z : IV} (ha : h[a]? = some (.lst [x, y, z])) : idxIV (.ref a) (.int 0) h = some x ∧ idxIV (.ref a) (.int 1) h = some y ∧ idxIV (.ref a) (.int 2) h = some z := by
  simp only [idxIV, dictIV, itemsIV, ha]
  exact ⟨rfl, rfl, rfl⟩
theorem set3 {h : Hpi} {a : Nat} {x y z v : IV} (ha : h[a]? = some (.lst [x, y, z])) : setIdxIV (.ref a) (.int 0) v h = some (h.set a (.lst [v, y, z])) ∧ setIdxIV (.ref a) (.int 1) v h = some (h.set a (.lst [x, v, z])) ∧ setIdxIV (.ref a) (.int 2) v h = some (h.set a (.lst [x, y, v])) := by
  simp only [setIdxIV, ha]
  exact ⟨rfl, rfl, rfl⟩
theorem get_set {h : Hpi} {a : Nat} {c c' : Cell} (ha : h[a]? = some c) : (h.set a c')[a]? = some c' := List.getElem?_set_self (List.getElem?_eq_some_iff.mp ha).1
section
variable {h : Hpi} {a : Nat} {x y z v : IV} (hl : a < h.length)
include hl
theorem j30 : idxIV (.ref a) (.int 0) (h.set a (.lst [x, y, z])) = some x := (idx3 (List.getElem?_set_self hl)).1
theorem j31 : idxIV (.ref a) (.int 1) (h.set a (.lst [x, y, z])) = some y := (idx3 (List.getElem?_set_self hl)).2.1
theorem j32 : idxIV (.ref a) (.int 2) (h.set a (.lst [x, y, z])) = some z := (idx3 (List.getElem?_set_self hl)).2.2
theorem w30 : setIdxIV (.ref a) (.int 0) v (h.set a (.lst [x, y, z])) = some (h.set a (.lst [v, y, z])) := by rw [(set3 (List.getElem?_set_self hl)).1, List.set_set]
theorem w31 : setIdxIV (.ref a) (.int 1) v (h.set a (.lst [x, y, z])) = some (h.set a (.lst [x, v, z])) := by rw [(set3 (List.getElem?_set_self hl)).2.1, List.set_set]
theorem w32 : setIdxIV (.ref a) (.int 2) v (h.set a (.lst [x, y, z])) = some (h.set a (.lst [x, y, v])) := by rw [(set3 (List.getElem?_set_self hl)).2.2, List.set_set]
end
theorem deal_ok {V : Env1} {C : CSp} {a : Nat} {m p q r : Int} {h : Hpi} (ha : h[a]? = some (.lst [.int p, .int q, .int r])) (hm : 0 < m) (hm2 : m < 1073741824) :
    Wp C (bodyT V 40 dealM [.ref a, .int m] h) fun res => ∃ d p' q' r', res = .ok (.int d) (h.set a (.lst [.int p', .int q', .int r'])) ∧ 0 ≤ d ∧ d < m := by
  obtain ⟨i0, i1, i2⟩ := idx3 ha
  obtain ⟨hl, _⟩ := List.getElem?_eq_some_iff.mp ha
  have s0 : startL dealM [.ref a, .int m] = [some (.ref a), some (.int m), none, none] := rfl
  unfold bodyT
  rw [s0]
  have ok := okDiv_s hm hm2
  by_cases hp : 0 < p
  · simp only [dealM, evB, evS, evE, evL, evG, evGs, optT, getSl, i0, cmpIV, hp, decide_true, truIV, List.getElem?_cons_zero, List.getElem?_cons_succ, biIV, ok, if_true, List.length_cons, List.length_nil, (set3 ha).1, List.set_cons_zero, List.set_cons_succ]
    exact ⟨_, _, _, _, rfl, Int.emod_nonneg _ (by omega), Int.emod_lt_of_pos _ hm⟩
  · have m1 : ∀ x : Int, okMul x 41039 = true := fun x => okMul_r (by decide) (by decide)
    have m2 : ∀ x : Int, okMul 14009 x = true := fun x => okMul_l (by decide) (by decide)
    have m3 : ∀ x y : Int, okMul (x % 2147483563) y = true := fun x y => okMul_l (by have := Int.emod_nonneg x (by decide : (2147483563 : Int) ≠ 0); omega) (by have := Int.emod_lt_of_pos x (by decide : (0 : Int) < 2147483563); omega)
    have d1 : okDiv 977 = true := by decide
    have z1 : decide ((0 : Int) < 2147483563) = true := by decide
    have z2 : decide ((0 : Int) < 5003) = true := by decide
    have z3 : decide (0 < m) = true := decide_eq_true hm
    simp only [dealM, evB, evS, evE, evL, evG, evGs, optT, getSl, i0, i1, i2, cmpIV, hp, decide_false, truIV, List.getElem?_cons_zero, List.getElem?_cons_succ, biIV, binIV, ok, if_true, m1, m2, m3, d1, z1, z2, z3, (set3 ha).2.2, List.set_cons_zero, List.set_cons_succ, j30 hl, j31 hl, j32 hl, w30 hl, w31 hl, w32 hl]
    exact ⟨_, _, _, _, rfl, Int.emod_nonneg _ (by omega), Int.emod_lt_of_pos _ hm⟩
/-- _law_pail -/
def pailM (c1 c2 : Int) : MDef := ⟨5, 2, [.asg (.name 2) (.bin .add (.cint c1) (.bin .mul (.cint c2) (.var 1))), .forr (.name 3) (.val (.slice (.var 0) none (some (.cint 12)))) [.asg (.name 2) (.bin .mod (.bcall .int [.bin .add (.bin .add (.bin .mul (.var 2) (.cint 42283)) (.bin .mod (.bcall .int [.var 3]) (.cint 2147483549))) (.cint 19)]) (.cint 2147483563))], .asg (.name 4) (.ite (.cmp .lt (.var 1) (.bcall .len [.var 0])) (.bcall .int [.idx (.var 0) (.var 1)]) (.cint 0)), .asg (.name 2) (.bin .mod (.bcall .int [.bin .add (.bin .add (.bin .mul (.var 2) (.cint 43)) (.bin .mul (.bin .mod (.bcall .int [.var 4]) (.cint 2147483549)) (.cint 16033))) (.cint 5)]) (.cint 2147483563)), .ret (.lst [.ite (.or (.cmp .lt (.var 4) (.cint 0)) (.cmp .ge (.var 4) (.bin .pow (.cint 10) (.cint 15)))) (.bcall .abs [.var 4]) (.cint 0), .var 2, .cint 0])]⟩
theorem body_of {V : Env1} {C : CSp} {fuel : Nat} {d : MDef} {vs : List IV} {h : Hpi} {R : Res → Prop} (w : HB C (Cfg.no V) fuel d.body (startL d vs) h fun o => match o with
    | .nx _ h1 => R (.ok .non h1)
    | .rt v h1 => R (.ok v h1)
    | .ex _ e h1 => R (.ex e h1)
    | _ => False) : Wp C (bodyT V fuel d vs h) R := w retD R fun o q => by
  cases o with
  | nx ℓ h1 => exact q
  | rt v h1 => exact q
  | bk ℓ h1 => exact q.elim
  | ct ℓ h1 => exact q.elim
  | ex ℓ e h1 => exact q
theorem cut_int {ns : List Int} {lo hi : Option Int} : cutI (ns.map IV.int) lo hi = (cutI ns lo hi).map IV.int := by
  unfold cutI
  rw [List.length_map, ← List.map_drop, ← List.map_take]
theorem cut_len {α : Type} {xs : List α} {lo hi : Option Int} : (cutI xs lo hi).length ≤ xs.length := by
  unfold cutI
  rw [List.length_take, List.length_drop]
  omega
theorem pail_ok {V : Env1} {C : CSp} {c1 c2 : Int} {t : Nat} {ns : List Int} {h : Hpi} (hc : okMul c2 t = true) (hn : ns.length ≤ 63) :
    Wp C (bodyT V 100 (pailM c1 c2) [.kls (ns.map .int), .int t] h) fun res => ∃ g p q, res = .ok (.ref (h.length + 1)) (h ++ [g, .lst [.int p, .int q, .int 0]]) := by
  have s0 : startL (pailM c1 c2) [.kls (ns.map .int), .int t] = [some (.kls (ns.map .int)), some (.int t), none, none, none] := rfl
  have m1 : ∀ x : Int, okMul x 42283 = true := fun x => okMul_r (by decide) (by decide)
  have m2 : ∀ x : Int, okMul x 43 = true := fun x => okMul_r (by decide) (by decide)
  have m3 : ∀ x : Int, okMul x 16033 = true := fun x => okMul_r (by decide) (by decide)
  have z1 : decide ((0 : Int) < 2147483563) = true := by decide
  have z2 : decide ((0 : Int) < 2147483549) = true := by decide
  refine body_of ?_
  rw [s0]
  refine HB.cons (HS.asg fun k kx P hk hx => ?_)
  simp only [evE, optT, getSl, List.getElem?_cons_zero, List.getElem?_cons_succ, binIV, hc, if_true]
  refine hk _ _ fun k2 P2 hk2 => ?_
  simp only [evG, List.set_cons_zero, List.set_cons_succ]
  refine hk2 _ _ ?_
  refine HB.cons (HS.forr fun k kx P hk hx => ?_)
  simp only [evI, evE, evO, optT, getSl, List.getElem?_cons_zero, List.getElem?_cons_succ, sliIV, srcIV, List.getElem?_append_right (Nat.le_refl _), Nat.sub_self]
  refine hk _ _ fun D P2 w => ?_
  refine evF_live (all := cutI (ns.map IV.int) none (some 12)) (J := fun xs ℓ h' => h' = h ++ [.lst (cutI (ns.map IV.int) none (some 12))] ∧ (∀ x ∈ xs, ∃ i, x = .int i) ∧ ∃ mixed o, ℓ = [some (.kls (ns.map .int)), some (.int t), some (.int mixed), o, none]) 30 ?_ ?_ ?_ (cutI (ns.map IV.int) none (some 12)) 0 66 _ _ ?_ rfl ⟨rfl, ?_, _, _, rfl⟩ D P2 w
  · rintro xs ℓ h' ⟨rfl, _, _⟩
    simp
  · rintro ℓ h' ⟨rfl, _, mixed, o, rfl⟩
    dsimp only
    refine HB.cons (HS.asg fun k kx P hk hx => ?_)
    have own : ∃ i, evE (Cfg.no V) 96 (.ite (.cmp .lt (.var 1) (.bcall .len [.var 0])) (.bcall .int [.idx (.var 0) (.var 1)]) (.cint 0)) [some (.kls (ns.map .int)), some (.int t), some (.int mixed), o, none] (h ++ [.lst (cutI (ns.map IV.int) none (some 12))]) k kx = k (.int i) (h ++ [.lst (cutI (ns.map IV.int) none (some 12))]) := by
      by_cases ht : (t : Int) < (ns.length : Int)
      · have ix : idxIV (.kls (ns.map .int)) (.int t) (h ++ [.lst (cutI (ns.map IV.int) none (some 12))]) = some (.int (ns[t]'(by omega))) := by
          have e1 : L2.ixN (ns.map IV.int).length (t : Int) = some t := by
            unfold L2.ixN
            rw [List.length_map]
            simp [ht]
          simp only [idxIV, dictIV, itemsIV, e1]
          rw [List.getElem?_map, List.getElem?_eq_getElem (by omega)]
          rfl
        refine ⟨ns[t]'(by omega), ?_⟩
        simp only [evE, evL, optT, getSl, List.getElem?_cons_zero, List.getElem?_cons_succ, biIV, lenIV, List.length_map, cmpIV, ht, decide_true, truIV, ix]
      · refine ⟨0, ?_⟩
        simp only [evE, evL, optT, getSl, List.getElem?_cons_zero, List.getElem?_cons_succ, biIV, lenIV, List.length_map, cmpIV, ht, decide_false, truIV]
    obtain ⟨i, own⟩ := own
    rw [own]
    refine hk _ _ fun k2 P2 hk2 => ?_
    simp only [evG, List.set_cons_zero, List.set_cons_succ]
    refine hk2 _ _ ?_
    refine HB.cons (HS.asg fun k kx P hk hx => ?_)
    simp only [evE, evL, optT, getSl, List.getElem?_cons_zero, List.getElem?_cons_succ, binIV, biIV, m2, m3, z1, z2, if_true]
    refine hk _ _ fun k2 P2 hk2 => ?_
    simp only [evG, List.set_cons_zero, List.set_cons_succ]
    refine hk2 _ _ ?_
    refine HB.cons (HS.ret fun k kx P hk hx => ?_)
    have pw : binIV .pow (.int 10) (.int 15) (h ++ [.lst (cutI (ns.map IV.int) none (some 12))]) = some (.int 1000000000000000, h ++ [.lst (cutI (ns.map IV.int) none (some 12))]) := rfl
    have sz3 : sizeOk 3 = true := by decide
    by_cases c1 : i < 0
    · simp only [evE, evL, optT, getSl, List.getElem?_cons_zero, List.getElem?_cons_succ, cmpIV, truIV, biIV, c1, decide_true, if_true, List.length_cons, List.length_nil, sz3]
      refine hk _ _ ?_
      exact ⟨_, _, _, by rw [List.length_append, List.append_assoc]; rfl⟩
    · by_cases c2 : 1000000000000000 ≤ i
      · simp only [evE, evL, optT, getSl, List.getElem?_cons_zero, List.getElem?_cons_succ, cmpIV, truIV, biIV, c1, c2, pw, decide_true, decide_false, if_true, if_false, List.length_cons, List.length_nil, sz3]
        refine hk _ _ ?_
        exact ⟨_, _, _, by rw [List.length_append, List.append_assoc]; rfl⟩
      · simp only [evE, evL, optT, getSl, List.getElem?_cons_zero, List.getElem?_cons_succ, cmpIV, truIV, biIV, c1, c2, pw, decide_true, decide_false, if_true, if_false, List.length_cons, List.length_nil, sz3]
        refine hk _ _ ?_
        exact ⟨_, _, _, by rw [List.length_append, List.append_assoc]; rfl⟩
  · rintro k x xs ℓ h' ⟨rfl, hx, mixed, o, rfl⟩
    obtain ⟨i, rfl⟩ := hx _ List.mem_cons_self
    intro k2 P2 hk2
    simp only [evG, List.set_cons_zero, List.set_cons_succ]
    refine hk2 _ _ ?_
    refine HB.cons (HS.asg fun k kx P hk hx2 => ?_)
    simp only [evE, evL, optT, getSl, List.getElem?_cons_zero, List.getElem?_cons_succ, binIV, biIV, m1, z1, z2, if_true]
    refine hk _ _ fun k2 P2 hk2 => ?_
    simp only [evG, List.set_cons_zero, List.set_cons_succ]
    refine hk2 _ _ ?_
    exact HB.nil ⟨rfl, fun x hm => hx x (List.mem_cons_of_mem _ hm), _, _, rfl⟩
  · have := cut_len (xs := ns.map IV.int) (lo := none) (hi := some 12)
    rw [List.length_map] at this
    omega
  · intro x hm
    rw [cut_int] at hm
    obtain ⟨i, _, e⟩ := List.mem_map.mp hm
    exact ⟨i, e.symm⟩
/-- the pail in the cell a -/
def PailAt (h : Hpi) (a : Nat) : Prop := ∃ p q r : Int, h[a]? = some (.lst [.int p, .int q, .int r])
theorem PailAt.set {h : Hpi} {a b : Nat} {c : Cell} (p : PailAt h a) (hb : b ≠ a) : PailAt (h.set b c) a := by
  obtain ⟨x, y, z, e⟩ := p
  exact ⟨x, y, z, by rw [List.getElem?_set_ne hb]; exact e⟩
theorem PailAt.app {h : Hpi} {a : Nat} {g : List Cell} (p : PailAt h a) : PailAt (h ++ g) a := by
  obtain ⟨x, y, z, e⟩ := p
  exact ⟨x, y, z, by rw [List.getElem?_append_left (List.getElem?_eq_some_iff.mp e).1]; exact e⟩
/-- calls of _law_deal -/
def DealC (C : CSp) (f : Nat) : Prop := ∀ (h : Hpi) (a : Nat) (m : Int), PailAt h a → 0 < m → m < 1073741824 → C f [.ref a, .int m] h fun res => ∃ d p q r, res = .ok (.int d) (h.set a (.lst [.int p, .int q, .int r])) ∧ 0 ≤ d ∧ d < m
/-- _law_shuffled -/
def shufM (f : Nat) : MDef := ⟨5, 2, [.par [2, 3] [.bcall .list [.var 1], .lst []], .forr (.name 4) (.rng1 (.bcall .len [.var 2])) [.expr (.meth (.var 3) .append [.meth (.var 2) .popAt [.call f [.var 0, .bcall .len [.var 2]] [] [0, 1]]])], .ret (.var 3)]⟩
theorem HS.par2 {C : CSp} {F : Cfg} {n : Nat} {ℓ : Loc} {h : Hpi} {i j : Nat} {a b : ME} {Q : Out → Prop} (hl : HL C F n [a, b] ℓ h (fun vs h1 => match vs with
    | [v, w] => Q (.nx ((ℓ.set i (some v)).set j (some w)) h1)
    | _ => False) (fun e h1 => Q (.ex ℓ e h1))) : HS C F (n + 1) (.par [i, j] [a, b]) ℓ h Q := fun D P w =>
  hl _ _ P (fun vs h1 q => by
    rcases vs with _ | ⟨v, _ | ⟨u, _ | ⟨z, t⟩⟩⟩
    · exact q.elim
    · exact q.elim
    · exact w _ q
    · exact q.elim) fun e h1 q => w _ q
theorem rcv_lst {m : Mt} {a : Nat} {xs : List IV} {h : Hpi} (ha : h[a]? = some (.lst xs)) (hm : mtTy m = "list") : rcv m (.ref a) h = true := by
  simp only [rcv, ha, hm, decide_true]
theorem pop_at {a : Nat} {xs : List IV} {h : Hpi} {d : Int} (ha : h[a]? = some (.lst xs)) (h0 : 0 ≤ d) (h1 : d < xs.length) (hx : xs.length ≤ 16777216) : ∃ v, xs[d.toNat]? = some v ∧ mtIV .popAt (.ref a) [.int d] h = some (v, h.set a (.lst (xs.eraseIdx d.toNat))) := by
  have hk : d.toNat < xs.length := by omega
  refine ⟨xs[d.toNat], List.getElem?_eq_getElem hk, ?_⟩
  have e1 : seqIndex? d xs.length = some d.toNat := seqIndex_of h0 (by omega)
  have e2 : (decide (-(2 ^ 63) ≤ d) && decide (d < 2 ^ 63)) = true := by
    rw [decide_eq_true (by omega), decide_eq_true (by omega)]; rfl
  simp only [mtIV, ha, e1, e2, if_true, List.getElem?_eq_getElem hk]
theorem app_to {a : Nat} {xs : List IV} {h : Hpi} {v : IV} (ha : h[a]? = some (.lst xs)) (hx : xs.length < 16777216) : mtIV .append (.ref a) [v] h = some (.non, h.set a (.lst (xs ++ [v]))) := by
  have hz : sizeOk (xs.length + 1) = true := decide_eq_true (by omega)
  simp only [mtIV, ha, hz, if_true]
theorem erase_perm {α : Type} : ∀ {xs : List α} {i : Nat} {v : α}, xs[i]? = some v → (v :: xs.eraseIdx i).Perm xs
  | [], _, _, e => by simp at e
  | x :: xs, 0, v, e => by
    have e : x = v := by simpa using e
    subst e
    exact List.Perm.refl _
  | x :: xs, i + 1, v, e => by
    have e : xs[i]? = some v := by simpa using e
    exact (List.Perm.swap x v _).trans ((erase_perm e).cons x)
theorem rngL_len : ∀ (n : Nat) (lo : Int), (rngL lo n).length = n
  | 0, _ => rfl
  | n + 1, lo => by simp [rngL, rngL_len n]
theorem shuf_ok {V : Env1} {C : CSp} {f a l : Nat} {xs : List IV} {h : Hpi} (hd : DealC C f) (pa : PailAt h a) (hl : h[l]? = some (.lst xs)) (hx : xs.length < 50) :
    Wp C (bodyT V 100 (shufM f) [.ref a, .ref l] h) fun res => ∃ h' ys, res = .ok (.ref (h.length + 1)) h' ∧ h'[h.length + 1]? = some (.lst ys) ∧ ys.Perm xs ∧ PailAt h' a ∧ h'.length = h.length + 2 ∧ ∀ b, b < h.length → b ≠ a → h'[b]? = h[b]? := by
  have s0 : startL (shufM f) [.ref a, .ref l] = [some (.ref a), some (.ref l), none, none, none] := rfl
  have la : a < h.length := by obtain ⟨_, _, _, e⟩ := pa; exact (List.getElem?_eq_some_iff.mp e).1
  have sz0 : sizeOk 0 = true := by decide
  have hx0 := hx
  refine body_of ?_
  rw [s0]
  refine HB.cons (HS.par2 fun k kx P hk hx => ?_)
  have e1 : biIV .list [.ref l] h = some (.ref h.length, h ++ [.lst xs]) := by simp only [biIV, itemsIV, hl]
  simp only [evL, evE, optT, getSl, List.getElem?_cons_zero, List.getElem?_cons_succ, e1, List.length_nil, sz0, if_true]
  refine hk _ _ ?_
  dsimp only [List.set_cons_zero, List.set_cons_succ]
  have ei : (h ++ [Cell.lst xs] ++ [Cell.lst []])[h.length]? = some (.lst xs) := by simp
  have e2 : rngIV (.int 0) (.int (xs.length : Nat)) = some (.its (rngL 0 xs.length)) := by
    have o1 : okR 0 = true := by decide
    have o2 : okR (xs.length : Nat) = true := by
      unfold okR
      rw [decide_eq_true (by omega), decide_eq_true (by omega)]; rfl
    simp only [rngIV, o1, o2, Bool.and_self, if_true, Int.sub_zero, Int.toNat_natCast]
  refine HB.cons (HS.forr (HI.rng1 fun k kx P hk hx => ?_))
  simp only [evE, evL, optT, getSl, List.getElem?_cons_zero, List.getElem?_cons_succ, biIV, lenIV, ei]
  refine hk _ _ ⟨_, e2, fun D P2 w => ?_⟩
  refine evF_its (J := fun rem ℓ h' => ∃ rest found o, h'[h.length]? = some (.lst rest) ∧ h'[h.length + 1]? = some (.lst found) ∧ rest.length = rem.length ∧ found.length + rest.length < 50 ∧ (found ++ rest).Perm xs ∧ PailAt h' a ∧ h'.length = h.length + 2 ∧ (∀ b, b < h.length → b ≠ a → h'[b]? = h[b]?) ∧ ℓ = [some (.ref a), some (.ref l), some (.ref h.length), some (.ref (h.length + 1)), o]) 30 ?_ ?_ (rngL 0 xs.length) 66 _ _ (by rw [rngL_len]; omega) ?_ D P2 w
  · rintro ℓ h' ⟨rest, found, o, k1, k2, k3, k4, k5, k6, k7, k8, rfl⟩
    dsimp only
    have : rest = [] := List.eq_nil_of_length_eq_zero k3
    subst this
    rw [List.append_nil] at k5
    refine HB.cons (HS.ret fun k kx P hk hx => ?_)
    simp only [evE, optT, getSl, List.getElem?_cons_zero, List.getElem?_cons_succ]
    exact hk _ _ ⟨h', found, rfl, k2, k5, k6, k7, k8⟩
  · rintro k x rem ℓ h' ⟨rest, found, o, k1, k2, k3, k4, k5, k6, k7, k8, rfl⟩
    intro k' P2 hk2
    simp only [evG, List.set_cons_zero, List.set_cons_succ]
    refine hk2 _ _ ?_
    refine HB.cons (HS.expr fun k kx P hk hx => ?_)
    have r1 := rcv_lst (m := .append) k2 rfl
    have r2 := rcv_lst (m := .popAt) k1 rfl
    have ln : lenIV (.ref h.length) h' = some rest.length := by simp only [lenIV, k1]
    have hr : 0 < rest.length := by rw [k3]; simp
    simp only [evE, evL, optT, getSl, List.getElem?_cons_zero, List.getElem?_cons_succ, r1, r2, biIV, ln, List.length_cons, List.length_nil, Nat.beq_refl, Bool.and_self, List.cons_append, List.nil_append, List.append_nil, permL]
    refine ⟨_, hd h' a rest.length k6 (by omega) (by omega), ?_⟩
    rintro r ⟨d, p, q, r', rfl, d0, d1⟩
    dsimp only
    have n1 : (h'.set a (.lst [.int p, .int q, .int r']))[h.length]? = some (.lst rest) := by rw [List.getElem?_set_ne (by omega)]; exact k1
    obtain ⟨v, v1, v2⟩ := pop_at n1 d0 d1 (by omega)
    have n2 : ((h'.set a (.lst [.int p, .int q, .int r'])).set h.length (.lst (rest.eraseIdx d.toNat)))[h.length + 1]? = some (.lst found) := by
      rw [List.getElem?_set_ne (by omega), List.getElem?_set_ne (by omega)]; exact k2
    rw [v2]
    dsimp only
    rw [app_to n2 (by omega)]
    dsimp only
    refine hk _ _ ?_
    have hv : d.toNat < rest.length := by omega
    have len2 : (rest.eraseIdx d.toNat).length = rest.length - 1 := by rw [List.length_eraseIdx_of_lt hv]
    refine HB.nil ⟨rest.eraseIdx d.toNat, found ++ [v], _, ?_, ?_, ?_, ?_, ?_, ?_, ?_, ?_, rfl⟩
    · rw [List.getElem?_set_ne (by omega)]
      exact get_set n1
    · exact get_set n2
    · rw [len2, k3]; simp
    · rw [len2, List.length_append]; simp; omega
    · refine List.Perm.trans ?_ k5
      rw [List.append_assoc]
      refine List.Perm.append_left _ ?_
      exact erase_perm v1
    · exact ((PailAt.set (⟨p, q, r', List.getElem?_set_self (by omega)⟩ : PailAt (h'.set a _) a) (by omega)).set (by omega))
    · simp [k7]
    · intro b hb hne
      rw [List.getElem?_set_ne (by omega), List.getElem?_set_ne (by omega), List.getElem?_set_ne (by omega)]
      exact k8 b hb hne
  · refine ⟨xs, [], none, ei, by simp, by rw [rngL_len], by simp only [List.length_nil, Nat.zero_add]; exact hx0, by simp, ?_, by simp, fun b hb _ => ?_, by simp⟩
    · rw [List.append_assoc]
      exact pa.app
    · rw [List.append_assoc, List.getElem?_append_left hb]
end MP
set_option maxRecDepth 100000
set_option maxHeartbeats 4000000
/-! MPy3: closed runs, used anywhere. -/
namespace MP
open PySem
mutual
def ivEq : IV → IV → Bool
  | .non, y => (match y with
    | .non => true
    | _ => false)
  | .bl b, y => (match y with
    | .bl c => b == c
    | _ => false)
  | .int i, y => (match y with
    | .int j => decide (i = j)
    | _ => false)
  | .str s, y => (match y with
    | .str u => decide (s = u)
    | _ => false)
  | .tup xs, y => (match y with
    | .tup ys => ivsEq xs ys
    | _ => false)
  | .ref a, y => (match y with
    | .ref b => decide (a = b)
    | _ => false)
  | _, _ => false
def ivsEq : List IV → List IV → Bool
  | [], ys => ys.isEmpty
  | x :: xs, ys => (match ys with
    | y :: ys => ivEq x y && ivsEq xs ys
    | [] => false)
end
mutual
theorem ivEq_ok : ∀ {x y : IV}, ivEq x y = true → x = y
  | .non, y, h => by cases y <;> first | rfl | cases h
  | .bl b, y, h => by
    cases y with
    | bl c => exact congrArg IV.bl (eq_of_beq h)
    | _ => cases h
  | .int i, y, h => by
    cases y with
    | int c => exact congrArg IV.int (of_decide_eq_true h)
    | _ => cases h
  | .str i, y, h => by
    cases y with
    | str c => exact congrArg IV.str (of_decide_eq_true h)
    | _ => cases h
  | .ref i, y, h => by
    cases y with
    | ref c => exact congrArg IV.ref (of_decide_eq_true h)
    | _ => cases h
  | .tup xs, y, h => by
    cases y with
    | tup ys => exact congrArg IV.tup (ivsEq_ok h)
    | _ => cases h
  | .kls _, _, h => by cases h
  | .kdc _ _, _, h => by cases h
  | .err, _, h => by cases h
  | .act, _, h => by cases h
theorem ivsEq_ok : ∀ {xs ys : List IV}, ivsEq xs ys = true → xs = ys
  | [], ys, h => by
    cases ys with
    | nil => rfl
    | cons _ _ => cases h
  | x :: xs, ys, h => by
    cases ys with
    | nil => cases h
    | cons y ys =>
      obtain ⟨h1, h2⟩ := band (show (ivEq x y && ivsEq xs ys) = true from h)
      rw [ivEq_ok h1, ivsEq_ok h2]
end
/-- cells that are lists -/
def lcEq : List Cell → List Cell → Bool
  | [], ys => ys.isEmpty
  | x :: xs, ys => (match x, ys with
    | .lst a, .lst b :: ys => ivsEq a b && lcEq xs ys
    | _, _ => false)
theorem lcEq_ok : ∀ {xs ys : List Cell}, lcEq xs ys = true → xs = ys
  | [], ys, h => by
    cases ys with
    | nil => rfl
    | cons _ _ => cases h
  | x :: xs, ys, h => by
    cases x with
    | lst a =>
      cases ys with
      | nil => cases h
      | cons y ys =>
        cases y with
        | lst b =>
          obtain ⟨h1, h2⟩ := band (show (ivsEq a b && lcEq xs ys) = true from h)
          rw [ivsEq_ok h1, lcEq_ok h2]
        | _ => cases h
    | _ => cases h
mutual
theorem em_id {ι : List Nat} {n : Nat} : ∀ {v : IV}, rb 0 v = true → emV ι n v = v
  | .non, _ => rfl
  | .bl _, _ => rfl
  | .int _, _ => rfl
  | .str _, _ => rfl
  | .tup xs, h => congrArg IV.tup (ems_id (xs := xs) h)
  | .kls xs, h => congrArg IV.kls (ems_id (xs := xs) h)
  | .kdc ks xs, h => congrArg (IV.kdc ks) (ems_id (xs := xs) h)
  | .ref a, h => by
    have h : decide (a < 0) = true := h
    simp at h
  | .err, h => by cases h
  | .act, h => by cases h
theorem ems_id {ι : List Nat} {n : Nat} : ∀ {xs : List IV}, rbs 0 xs = true → emVs ι n xs = xs
  | [], _ => rfl
  | x :: xs, h => by
    obtain ⟨h1, h2⟩ := band (show (rb 0 x && rbs 0 xs) = true from h)
    show emV ι n x :: emVs ι n xs = _
    rw [em_id h1, ems_id h2]
end
mutual
theorem rb_up {m : Nat} : ∀ {v : IV}, rb 0 v = true → rb m v = true
  | .non, _ => rfl
  | .bl _, _ => rfl
  | .int _, _ => rfl
  | .str _, _ => rfl
  | .tup xs, h => rbs_up (xs := xs) h
  | .kls xs, h => rbs_up (xs := xs) h
  | .kdc ks xs, h => rbs_up (xs := xs) h
  | .ref a, h => by
    have h : decide (a < 0) = true := h
    simp at h
  | .err, h => by cases h
  | .act, h => by cases h
theorem rbs_up {m : Nat} : ∀ {xs : List IV}, rbs 0 xs = true → rbs m xs = true
  | [], _ => rfl
  | x :: xs, h => by
    obtain ⟨h1, h2⟩ := band (show (rb 0 x && rbs 0 xs) = true from h)
    show (rb m x && rbs m xs) = true
    rw [rb_up h1, rbs_up h2]; rfl
end
/-- a run that tells v and leaves the lists that it got as they were -/
def runOk (o : Option Res) (hs : Hpi) (v : IV) : Bool := match o with
  | some (.ok u h1) => ivEq u v && (rb 0 v && (nk v && (h1.all nkC && lcEq (h1.take hs.length) hs)))
  | _ => false
theorem closed {T0 T : Nat → Option MDef} {V : Env1} {d0 n fuel f : Nat} {vs0 : List IV} {hs h : Hpi} {v : IV} {ι : List Nat} (hr : runOk (runFL T0 T V fuel d0 n f vs0 hs) hs v = true) (nd : ι.Nodup) (il : ι.length = hs.length) (rv : rbs ι.length vs0 = true) (rh : hs.all (rbC ι.length) = true)
    (cells : ∀ (j i : Nat) (c : Cell), ι[j]? = some i → hs[j]? = some c → h[i]? = some (emC ι h.length c)) : Shf (RunsL T0 T V d0 n) f (emVs ι h.length vs0) h fun res => ∃ g, res = .ok v (h ++ g) := by
  unfold runOk at hr
  split at hr
  · rename_i u h1 e
    simp only [Bool.and_eq_true] at hr
    obtain ⟨k1, k2, k3, k4, k5⟩ := hr
    have eu := ivEq_ok k1
    subst eu
    have e5 := lcEq_ok k5
    refine .inr ⟨ι, vs0, hs, _, nd, il, rfl, rv, rh, cells, run_ofL e, fun r0 er => ?_⟩
    subst er
    refine ⟨by show (nk u && h1.all nkC) = true; rw [k3, k4]; rfl, (h1.drop ι.length).map (emC ι h.length), ?_⟩
    show Res.ok (emV ι h.length u) (joinH ι h h1) = _
    rw [em_id k2]
    have ej : putJ h ι (h1.map (emC ι h.length)) = h := putJ_same fun j i c e1 e2 => by
      rw [List.getElem?_map] at e2
      cases e3 : h1[j]? with
      | none => rw [e3] at e2; cases e2
      | some c0 =>
        rw [e3] at e2
        cases e2
        have hj : j < hs.length := by rw [← il]; exact (List.getElem?_eq_some_iff.mp e1).1
        refine cells j i c0 e1 ?_
        rw [← e5, List.getElem?_take, if_pos hj]
        exact e3
    unfold joinH
    rw [ej]
  · cases hr
/-- .. of values that name no cell -/
theorem closed0 {T0 T : Nat → Option MDef} {V : Env1} {d0 n fuel f : Nat} {vs : List IV} {h : Hpi} {v : IV} (hr : runOk (runFL T0 T V fuel d0 n f vs []) [] v = true) (rv : rbs 0 vs = true) : Shf (RunsL T0 T V d0 n) f vs h fun res => ∃ g, res = .ok v (h ++ g) := by
  have := closed (h := h) (ι := []) hr List.nodup_nil rfl rv rfl (fun j i c e => by simp at e)
  rw [ems_id rv] at this
  exact this
/-- a run that tells a new list -/
def runLs (o : Option Res) (xs : List IV) : Bool := match o with
  | some (.ok (.ref k) h1) => h1.all nkC && (rbs 0 xs && (match h1[k]? with
    | some (.lst ys) => ivsEq ys xs
    | _ => false))
  | _ => false
theorem closedL {T0 T : Nat → Option MDef} {V : Env1} {d0 n fuel f : Nat} {vs : List IV} {h : Hpi} {xs : List IV} (hr : runLs (runFL T0 T V fuel d0 n f vs []) xs = true) (rv : rbs 0 vs = true) : Shf (RunsL T0 T V d0 n) f vs h fun res => ∃ a g, res = .ok (.ref a) (h ++ g) ∧ h.length ≤ a ∧ (h ++ g)[a]? = some (.lst xs) := by
  unfold runLs at hr
  split at hr
  · rename_i k h1 e
    obtain ⟨k1, k2⟩ := band hr
    obtain ⟨k2, k3⟩ := band k2
    split at k3
    · rename_i ys e2
      have := ivsEq_ok k3
      subst this
      refine .inr ⟨[], vs, [], _, List.nodup_nil, rfl, (ems_id rv).symm, rv, rfl, (fun j i c e => by simp at e), run_ofL e, fun r0 er => ?_⟩
      subst er
      refine ⟨by show (nk (.ref k) && h1.all nkC) = true; rw [k1]; rfl, h.length + k, h1.map (emC [] h.length), ?_, by omega, ?_⟩
      · show Res.ok (.ref (em [] h.length k)) (putJ h [] _ ++ (h1.drop 0).map _) = _
        rw [List.drop_zero]
        have : putJ h [] (h1.map (emC [] h.length)) = h := by cases h1 <;> rfl
        rw [show ([] : List Nat) = [] from rfl, this]
        rfl
      · rw [List.getElem?_append_right (by omega), show h.length + k - h.length = k by omega, List.getElem?_map, e2]
        show some (Cell.lst (emVs [] h.length ys)) = _
        rw [ems_id k2]
    · cases k3
  · cases hr
/-! ### data -/
mutual
theorem toD_nr {h : Hpi} : ∀ (n : Nat) {v : IV}, rb 0 v = true → toD h n v = toD [] n v
  | n, .non, _ => by cases n <;> rfl
  | n, .bl _, _ => by cases n <;> rfl
  | n, .int _, _ => by cases n <;> rfl
  | n, .str _, _ => by cases n <;> rfl
  | 0, .tup _, _ => rfl
  | 0, .kls _, _ => rfl
  | n + 1, .tup xs, r => by simp only [toD, toDs_nr n (xs := xs) r]
  | n + 1, .kls xs, r => by simp only [toD, toDs_nr n (xs := xs) r]
  | n, .kdc _ _, _ => by cases n <;> rfl
  | n, .ref a, r => by
    have r : decide (a < 0) = true := r
    simp at r
  | n, .err, r => by cases r
  | n, .act, r => by cases r
theorem toDs_nr {h : Hpi} : ∀ (n : Nat) {xs : List IV}, rbs 0 xs = true → optMap (toD h n) xs = optMap (toD [] n) xs
  | n, [], _ => rfl
  | n, x :: xs, r => by
    obtain ⟨h1, h2⟩ := band (show (rb 0 x && rbs 0 xs) = true from r)
    simp only [optMap, toD_nr n h1, toDs_nr n h2]
end
theorem eq_nr {h : Hpi} {x y : IV} (hx : rb 0 x = true) (hy : rb 0 y = true) : eqIV h x y = eqIV [] x y := by
  unfold eqIV
  rw [toD_nr 60 hx, toD_nr 60 hy]
theorem eq_ls {h : Hpi} {a b : Nat} {xs ys : List IV} (ha : h[a]? = some (.lst xs)) (hb : h[b]? = some (.lst ys)) (hx : rbs 0 xs = true) (hy : rbs 0 ys = true) : eqIV h (.ref a) (.ref b) = eqIV [.lst xs, .lst ys] (.ref 0) (.ref 1) := by
  have e1 : toD h 60 (.ref a) = toD [.lst xs, .lst ys] 60 (.ref 0) := by
    show (match h[a]? with
      | some (.lst xs) => _
      | _ => none) = _
    rw [ha]
    dsimp only
    rw [toDs_nr 59 hx]
    show _ = (match optMap (toD [.lst xs, .lst ys] 59) xs with
      | some ds => some (PyData.list ds)
      | none => none)
    rw [toDs_nr (h := [.lst xs, .lst ys]) 59 hx]
    all_goals (cases optMap (toD [] 59) xs <;> rfl)
  have e2 : toD h 60 (.ref b) = toD [.lst xs, .lst ys] 60 (.ref 1) := by
    show (match h[b]? with
      | some (.lst xs) => _
      | _ => none) = _
    rw [hb]
    dsimp only
    rw [toDs_nr 59 hy]
    show _ = (match optMap (toD [.lst xs, .lst ys] 59) ys with
      | some ds => some (PyData.list ds)
      | none => none)
    rw [toDs_nr (h := [.lst xs, .lst ys]) 59 hy]
    all_goals (cases optMap (toD [] 59) ys <;> rfl)
  unfold eqIV
  rw [e1, e2]
end MP
set_option maxRecDepth 100000
set_option maxHeartbeats 0
namespace K02
open PySem PySem.Spec PyProof.Rows MP
abbrev R : PySem.W.OpenRow := PySem.W.OpenLaw.row PySem.Challenge.rw_carryfloors_k02_whole_floors_and_degrees
def top (i : Nat) : Stmt := R.prog.main.body.getD i (.Pass ⟨0, 0, 0, 0⟩)
def m0 : MDef := ⟨1, 1, [.ret (.and (.bcall (.isi .int) [.var 0]) (.not (.bcall (.isi .bool) [.var 0])))]⟩
def d0 : PDef := ⟨"is_whole", top 5, ["value"], ["value"], m0⟩ -- is_whole
def m1 : MDef := ⟨3, 3, [.ret (.and (.call 0 [.var 0] [] [0]) (.chain .le .le (.var 1) (.var 0) (.var 2)))]⟩
def d1 : PDef := ⟨"is_from_to", top 6, ["value", "low", "most"], ["value", "low", "most"], m1⟩ -- is_from_to
def m2 : MDef := ⟨2, 2, [.ret (.and (.bcall (.isi .tuple) [.var 0]) (.cmp .eq (.bcall .len [.var 0]) (.var 1)))]⟩
def d2 : PDef := ⟨"is_row_of", top 7, ["value", "many"], ["value", "many"], m2⟩ -- is_row_of
def m3 : MDef := ⟨3, 1, [.asg (.tup [.name 1, .name 2]) (.var 0), .ret (.bin .mul (.bin .sub (.var 1) (.cint 2)) (.bin .sub (.var 2) (.cint 2)))]⟩
def d3 : PDef := ⟨"spread", top 8, ["floor"], ["floor", "sides", "around"], m3⟩ -- spread
def m4 : MDef := ⟨2, 1, [.ifs (.or (.not (.call 2 [.var 0, .cint 2] [] [0, 1])) (.not (.bcall .all [.comp (.call 1 [.var 1, .glob 0, .glob 1] [] [0, 1, 2]) (.name 1) (.val (.var 0)) [] [1]]))) [.ret (.cbool false)] [], .ret (.cmp .ge (.call 3 [.var 0] [] [0]) (.glob 2))]⟩
def d4 : PDef := ⟨"has_floor_form", top 9, ["value"], ["value", "each"], m4⟩ -- has_floor_form
def m5 : MDef := ⟨1, 1, [.ret (.cmp .eq (.call 3 [.var 0] [] [0]) (.glob 2))]⟩
def d5 : PDef := ⟨"is_flat_floor", top 10, ["floor"], ["floor"], m5⟩ -- is_flat_floor
def m6 : MDef := ⟨1, 1, [.ret (.bcall .len [.idx (.glob 3) (.var 0)])]⟩
def d6 : PDef := ⟨"root_degree", top 40, ["number"], ["number"], m6⟩ -- root_degree
def m7 : MDef := ⟨3, 1, [.asg (.tup [.name 1, .name 2]) (.var 0), .ret (.tup [.call 6 [.var 1] [] [0], .ite (.cmp .eq (.var 2) (.var 1)) (.cint 1) (.call 6 [.var 2] [] [0])])]⟩
def d7 : PDef := ⟨"degrees_of", top 41, ["floor"], ["floor", "sides", "around"], m7⟩ -- degrees_of
def m8 : MDef := ⟨3, 1, [.asg (.tup [.name 1, .name 2]) (.call 7 [.var 0] [] [0]), .ret (.bin .mul (.var 1) (.var 2))]⟩
def d8 : PDef := ⟨"degree_of", top 43, ["floor"], ["floor", "many", "others"], m8⟩ -- degree_of
def m9 : MDef := ⟨4, 3, [.ret (.bcall .tuple [.comp (.ite (.cmp .eq (.var 3) (.var 1)) (.var 2) (.cint 0)) (.name 3) (.rng1 (.call 8 [.var 0] [] [0])) [] [3]])]⟩
def d9 : PDef := ⟨"exact_at", top 44, ["floor", "place", "whole"], ["floor", "place", "whole", "each"], m9⟩ -- exact_at
def m10 : MDef := ⟨2, 2, [.ret (.call 9 [.var 0, .cint 0, .var 1] [] [0, 1, 2])]⟩
def d10 : PDef := ⟨"exact_whole", top 45, ["floor", "whole"], ["floor", "whole"], m10⟩ -- exact_whole
def m11 : MDef := ⟨1, 1, [.ifs (.not (.call 4 [.var 0] [] [0])) [.raise 0 (.var 0)] []]⟩
def d11 : PDef := ⟨"check_floor", top 55, ["floor"], ["floor"], m11⟩ -- check_floor
def m12 : MDef := ⟨1, 1, [.ret (.call 4 [.var 0] [] [0])]⟩
def d12 : PDef := ⟨"is_floor", top 60, ["value"], ["value"], m12⟩ -- is_floor
def m13 : MDef := ⟨1, 1, [.expr (.call 11 [.var 0] [] [0]), .ret (.call 5 [.var 0] [] [0])]⟩
def d13 : PDef := ⟨"is_flat", top 61, ["floor"], ["floor"], m13⟩ -- is_flat
def m14 : MDef := ⟨1, 1, [.expr (.call 11 [.var 0] [] [0]), .ret (.call 8 [.var 0] [] [0])]⟩
def d14 : PDef := ⟨"degree", top 62, ["floor"], ["floor"], m14⟩ -- degree
def m15 : MDef := ⟨2, 2, [.expr (.call 11 [.var 0] [] [0]), .ifs (.not (.call 0 [.var 1] [] [0])) [.raise 2 (.var 1)] [], .ret (.call 10 [.var 0, .var 1] [] [0, 1])]⟩
def d15 : PDef := ⟨"of_whole", top 64, ["floor", "number"], ["floor", "number"], m15⟩ -- of_whole
def m16 : MDef := ⟨2, 2, [.expr (.call 11 [.var 0] [] [0]), .expr (.dead), .ret (.dead)]⟩
def d16 : PDef := ⟨"ring_size", top 68, ["floor", "ring"], ["floor", "ring"], m16⟩ -- ring_size
def m17 : MDef := ⟨2, 2, [.expr (.call 11 [.var 0] [] [0]), .expr (.dead), .ret (.dead)]⟩
def d17 : PDef := ⟨"end_of", top 73, ["floor", "way"], ["floor", "way"], m17⟩ -- end_of
def m18 : MDef := ⟨5, 2, [.asg (.name 2) (.bin .add (.cint 1903126) (.bin .mul (.cint 11185) (.var 1))), .forr (.name 3) (.val (.slice (.var 0) none (some (.cint 12)))) [.asg (.name 2) (.bin .mod (.bcall .int [.bin .add (.bin .add (.bin .mul (.var 2) (.cint 42283)) (.bin .mod (.bcall .int [.var 3]) (.cint 2147483549))) (.cint 19)]) (.cint 2147483563))], .asg (.name 4) (.ite (.cmp .lt (.var 1) (.bcall .len [.var 0])) (.bcall .int [.idx (.var 0) (.var 1)]) (.cint 0)), .asg (.name 2) (.bin .mod (.bcall .int [.bin .add (.bin .add (.bin .mul (.var 2) (.cint 43)) (.bin .mul (.bin .mod (.bcall .int [.var 4]) (.cint 2147483549)) (.cint 16033))) (.cint 5)]) (.cint 2147483563)), .ret (.lst [.ite (.or (.cmp .lt (.var 4) (.cint 0)) (.cmp .ge (.var 4) (.bin .pow (.cint 10) (.cint 15)))) (.bcall .abs [.var 4]) (.cint 0), .var 2, .cint 0])]⟩
def d18 : PDef := ⟨"_law_pail", top 75, ["script", "turn"], ["script", "turn", "mixed", "cell", "own"], m18⟩ -- _law_pail
def m19 : MDef := ⟨4, 2, [.ifs (.cmp .gt (.idx (.var 0) (.cint 0)) (.cint 0)) [.asg (.tup [.idx (.var 0) (.cint 0), .name 2]) (.bcall .divmod [.idx (.var 0) (.cint 0), .var 1]), .ret (.var 2)] [], .asg (.idx (.var 0) (.cint 2)) (.bin .add (.idx (.var 0) (.cint 2)) (.cint 1)), .asg (.name 3) (.bin .mod (.bcall .int [.bin .add (.bin .add (.bin .mul (.idx (.var 0) (.cint 1)) (.cint 41039)) (.bin .mul (.cint 14009) (.idx (.var 0) (.cint 2)))) (.cint 7)]) (.cint 2147483563)), .asg (.idx (.var 0) (.cint 1)) (.bin .mod (.bcall .int [.bin .add (.bin .mul (.var 3) (.bin .add (.bin .mod (.bcall .int [.var 3]) (.cint 5003)) (.cint 21001))) (.idx (.var 0) (.cint 2))]) (.cint 2147483563)), .ret (.bin .mod (.bcall .int [.bin .fdiv (.idx (.var 0) (.cint 1)) (.cint 977)]) (.var 1))]⟩
def d19 : PDef := ⟨"_law_deal", top 76, ["pail", "many"], ["pail", "many", "digit", "stir"], m19⟩ -- _law_deal
def m20 : MDef := ⟨5, 2, [.par [2, 3] [.bcall .list [.var 1], .lst []], .forr (.name 4) (.rng1 (.bcall .len [.var 2])) [.expr (.meth (.var 3) .append [.meth (.var 2) .popAt [.call 19 [.var 0, .bcall .len [.var 2]] [] [0, 1]]])], .ret (.var 3)]⟩
def d20 : PDef := ⟨"_law_shuffled", top 77, ["pail", "some"], ["pail", "some", "rest", "found", "turn"], m20⟩ -- _law_shuffled
def m21 : MDef := ⟨2, 2, [.ret (.cmp .eq (.bcall .repr [.var 0]) (.bcall .repr [.var 1]))]⟩
def d21 : PDef := ⟨"_law_same", top 78, ["one", "two"], ["one", "two"], m21⟩ -- _law_same
def m22 : MDef := ⟨3, 0, [.asg (.name 0) (.lst []), .forr (.name 1) (.rng2 (.cint 3) (.cint 9)) [.asg (.name 0) (.bin .add (.var 0) (.comp (.tup [.var 1, .var 2]) (.name 2) (.rng2 (.cint 3) (.cint 9)) [.cmp .ge (.bin .mul (.bin .sub (.var 1) (.cint 2)) (.bin .sub (.var 2) (.cint 2))) (.cint 4)] [2]))], .ret (.var 0)]⟩
def d22 : PDef := ⟨"_law_floors", top 79, [], ["found", "sides", "around"], m22⟩ -- _law_floors
def m23 : MDef := ⟨2, 1, [.asg (.name 1) (.lst [.call 12 [.var 0] [] [0], .call 12 [] [.var 0] [0], .lam 0 (.call 13 [.var 0] [] [0]), .cint 0, .cint 0, .cint 0, .cint 0]), .asg (.idx (.var 1) (.cint 3)) (.lam 0 (.call 14 [] [.var 0] [0])), .asg (.idx (.var 1) (.cint 4)) (.lam 0 (.call 17 [] [.cnon, .var 0] [1, 0])), .asg (.idx (.var 1) (.cint 5)) (.lam 0 (.call 16 [.var 0, .neg (.cint 1)] [] [0, 1])), .asg (.idx (.var 1) (.cint 6)) (.lam 0 (.call 15 [.var 0, .cnon] [] [0, 1])), .ret (.call 21 [.var 1, .bin .add (.lst [.cbool false, .cbool false]) (.bin .mul (.lst [.lst [.var 0]]) (.cint 5))] [] [0, 1])]⟩
def d23 : PDef := ⟨"_law_none_right", top 81, ["value"], ["value", "had"], m23⟩ -- _law_none_right
def m24 : MDef := ⟨11, 1, [.par [1, 2] [.dct [.cint 3, .cint 1, .cint 4, .cint 1, .cint 5, .cint 2, .cint 6, .cint 1, .cint 7, .cint 3, .cint 8, .cint 2], .lst []], .forr (.name 3) (.val (.call 20 [.var 0, .lrng (.cint 11)] [] [0, 1])) [.forr (.name 4) (.rng1 (.cint 11)) [.asg (.name 5) (.tup [.var 3, .var 4]), .ifs (.not (.and (.chain .lt .lt (.cint 2) (.var 3) (.cint 9)) (.and (.chain .lt .lt (.cint 2) (.var 4) (.cint 9)) (.cmp .ge (.bin .mul (.bin .sub (.var 3) (.cint 2)) (.bin .sub (.var 4) (.cint 2))) (.cint 4))))) [.ifs (.not (.call 23 [.var 5] [] [0])) [.ret (.cbool false)] [], .cnt] [], .expr (.meth (.var 2) .append [.var 5]), .asg (.name 6) (.bin .mul (.idx (.var 1) (.var 3)) (.ite (.cmp .eq (.var 3) (.var 4)) (.cint 1) (.idx (.var 1) (.var 4)))), .asg (.name 7) (.lst [.call 12 [.var 5] [] [0], .call 12 [] [.var 5] [0], .call 13 [] [.var 5] [0], .call 14 [.var 5] [] [0], .call 14 [] [.var 5] [0]]), .ifs (.not (.call 21 [.var 7, .lst [.cbool true, .cbool true, .cmp .eq (.bin .mul (.bin .sub (.var 3) (.cint 2)) (.bin .sub (.var 4) (.cint 2))) (.cint 4), .var 6, .var 6]] [] [0, 1])) [.ret (.cbool false)] [], .ifs (.or (.cmp .ne (.bcall .len [.call 15 [.var 5, .cint 7] [] [0, 1]]) (.var 6)) (.cmp .ne (.call 15 [] [.cint 0, .var 5] [1, 0]) (.bin .mul (.tup [.cint 0]) (.var 6)))) [.ret (.cbool false)] []]], .asg (.name 8) (.comp (.var 5) (.name 5) (.val (.bcall .sorted [.var 2])) [.call 13 [.var 5] [] [0]] [5]), .ifs (.or (.cmp .ne (.bcall .sorted [.var 2]) (.call 22 [] [] [])) (.cmp .ne (.var 8) (.lst [.tup [.cint 3, .cint 6], .tup [.cint 4, .cint 4], .tup [.cint 6, .cint 3]]))) [.ret (.cbool false)] [], .asg (.name 9) (.lst [.cnon, .cbool true, .cint 54, .cstr (Str.ofString "54"), .tup [], .tup [.cint 5], .tup [.cint 5, .cint 4, .cint 4], .lst [.cint 5, .cint 4], .tup [.cint 5, .cnon], .tup [.cstr (Str.ofString "5"), .cint 4], .tup [.cint 5, .cstr (Str.ofString "4")], .tup [.cbool true, .cint 8], .tup [.cint 8, .cbool true]]), .forr (.name 10) (.val (.bin .add (.var 9) (.lst [.tup [.tup [.cint 5, .cint 4]], .tup [.neg (.cint 5), .neg (.cint 4)]]))) [.ifs (.not (.call 23 [.var 10] [] [0])) [.ret (.cbool false)] []], .ret (.cbool true)]⟩
def d24 : PDef := ⟨"_law_right", top 82, ["pail"], ["pail", "parts", "met", "sides", "around", "floor", "due", "had", "flat", "odds", "odd"], m24⟩ -- _law_right
def m25 : MDef := ⟨2, 1, [.ret (.bcall .all [.comp (.call 24 [.call 18 [.var 0, .var 1] [] [0, 1]] [] [0]) (.name 1) (.rng1 (.bcall .max [.cint 1, .bcall .min [.bcall .len [.var 0], .cint 2]])) [] [1]])]⟩
def d25 : PDef := ⟨"law", top 83, ["script"], ["script", "turn"], m25⟩ -- law
def m26 : MDef := ⟨2, 1, [.tryx 4 1 [.expr (.act 0)] [.ret (.ite (.eisi 1 0) (.lst [.efld 1 0]) (.lst [.cstr (Str.ofString "other")]))], .ret (.cnon)]⟩
def d26 : PDef := ⟨"_law_refused", top 80, ["act"], ["act", "error"], m26⟩ -- _law_refused
def pt : PT where
  prog := R.prog
  pk := [d0, d1, d2, d3, d4, d5, d6, d7, d8, d9, d10, d11, d12, d13, d14, d15, d16, d17]
  lw := [(d18, false), (d19, false), (d20, false), (d21, false), (d22, false), (d23, true), (d24, false), (d25, false)]
  hl := [d26]
  cts := [("LEAST_SIDES", .int 3), ("MOST_SIDES", .int 8), ("FLAT", .int 4), ("REDUCED", .kdc [.inl 3, .inl 4, .inl 5, .inl 6, .inl 7, .inl 8] [.tup [.int 1], .tup [.int 2], .tup [.int (-1), .int 3], .tup [.int 3], .tup [.int 1, .int (-6), .int 5], .tup [.int (-2), .int 4]])]
  xc := [("InvalidFloor", "given"), ("InvalidWay", "given"), ("InvalidNumber", "given"), ("TooGreat", "given"), ("FloorError", "")]
  nr := 4
  fld := ["given"]
  pats := [(0, 1, [], [0]), (2, 2, [], [0, 1]), (1, 3, [], [0, 1, 2]), (3, 1, [], [0]), (6, 1, [], [0]), (7, 1, [], [0]), (8, 1, [], [0]), (9, 3, [], [0, 1, 2]), (4, 1, [], [0]), (11, 1, [], [0]), (5, 1, [], [0]), (10, 2, [], [0, 1]), (19, 2, [], [0, 1]), (12, 1, [], [0]), (12, 0, ["value"], [0]), (13, 1, [], [0]), (14, 0, ["floor"], [0]), (17, 0, ["way", "floor"], [1, 0]), (16, 2, [], [0, 1]), (15, 2, [], [0, 1]), (21, 2, [], [0, 1]), (20, 2, [], [0, 1]), (23, 1, [], [0]), (13, 0, ["floor"], [0]), (14, 1, [], [0]), (15, 0, ["number", "floor"], [1, 0]), (22, 0, [], []), (24, 1, [], [0]), (18, 2, [], [0, 1]), (25, 1, [], [0])]
  subs := [(0, 0, true), (0, 1, false), (0, 2, false), (0, 3, false), (0, 4, true), (1, 0, false), (1, 1, true), (1, 2, false), (1, 3, false), (1, 4, true), (2, 0, false), (2, 1, false), (2, 2, true), (2, 3, false), (2, 4, true), (3, 0, false), (3, 1, false), (3, 2, false), (3, 3, true), (3, 4, true)]
theorem chk : pt.chk = true := by decide +kernel
theorem patOk : pt.PatOk := by
  intro f n ks perm h
  have h : (f, n, ks, perm) ∈ [((0 : Nat), (1 : Nat), ([] : List Str), ([0] : List Nat)), ((2 : Nat), (2 : Nat), ([] : List Str), ([0, 1] : List Nat)), ((1 : Nat), (3 : Nat), ([] : List Str), ([0, 1, 2] : List Nat)), ((3 : Nat), (1 : Nat), ([] : List Str), ([0] : List Nat)), ((6 : Nat), (1 : Nat), ([] : List Str), ([0] : List Nat)), ((7 : Nat), (1 : Nat), ([] : List Str), ([0] : List Nat)), ((8 : Nat), (1 : Nat), ([] : List Str), ([0] : List Nat)), ((9 : Nat), (3 : Nat), ([] : List Str), ([0, 1, 2] : List Nat)), ((4 : Nat), (1 : Nat), ([] : List Str), ([0] : List Nat)), ((11 : Nat), (1 : Nat), ([] : List Str), ([0] : List Nat)), ((5 : Nat), (1 : Nat), ([] : List Str), ([0] : List Nat)), ((10 : Nat), (2 : Nat), ([] : List Str), ([0, 1] : List Nat)), ((19 : Nat), (2 : Nat), ([] : List Str), ([0, 1] : List Nat)), ((12 : Nat), (1 : Nat), ([] : List Str), ([0] : List Nat)), ((12 : Nat), (0 : Nat), (["value"] : List Str), ([0] : List Nat)), ((13 : Nat), (1 : Nat), ([] : List Str), ([0] : List Nat)), ((14 : Nat), (0 : Nat), (["floor"] : List Str), ([0] : List Nat)), ((17 : Nat), (0 : Nat), (["way", "floor"] : List Str), ([1, 0] : List Nat)), ((16 : Nat), (2 : Nat), ([] : List Str), ([0, 1] : List Nat)), ((15 : Nat), (2 : Nat), ([] : List Str), ([0, 1] : List Nat)), ((21 : Nat), (2 : Nat), ([] : List Str), ([0, 1] : List Nat)), ((20 : Nat), (2 : Nat), ([] : List Str), ([0, 1] : List Nat)), ((23 : Nat), (1 : Nat), ([] : List Str), ([0] : List Nat)), ((13 : Nat), (0 : Nat), (["floor"] : List Str), ([0] : List Nat)), ((14 : Nat), (1 : Nat), ([] : List Str), ([0] : List Nat)), ((15 : Nat), (0 : Nat), (["number", "floor"] : List Str), ([1, 0] : List Nat)), ((22 : Nat), (0 : Nat), ([] : List Str), ([] : List Nat)), ((24 : Nat), (1 : Nat), ([] : List Str), ([0] : List Nat)), ((18 : Nat), (2 : Nat), ([] : List Str), ([0, 1] : List Nat)), ((25 : Nat), (1 : Nat), ([] : List Str), ([0] : List Nat))] := h
  rcases List.mem_cons.mp h with e | h
  · cases e
    refine ⟨d0, rfl, fun kV doc pm an cdv ct us zs ws h1 h2 h3 => ?_⟩
    match us, zs, h1, h2 with
    | [a0], [], _, _ =>
      have h3 : some [a0] = some ws := h3
      cases h3
      kernel_rfl
  rcases List.mem_cons.mp h with e | h
  · cases e
    refine ⟨d2, rfl, fun kV doc pm an cdv ct us zs ws h1 h2 h3 => ?_⟩
    match us, zs, h1, h2 with
    | [a0, a1], [], _, _ =>
      have h3 : some [a0, a1] = some ws := h3
      cases h3
      kernel_rfl
  rcases List.mem_cons.mp h with e | h
  · cases e
    refine ⟨d1, rfl, fun kV doc pm an cdv ct us zs ws h1 h2 h3 => ?_⟩
    match us, zs, h1, h2 with
    | [a0, a1, a2], [], _, _ =>
      have h3 : some [a0, a1, a2] = some ws := h3
      cases h3
      kernel_rfl
  rcases List.mem_cons.mp h with e | h
  · cases e
    refine ⟨d3, rfl, fun kV doc pm an cdv ct us zs ws h1 h2 h3 => ?_⟩
    match us, zs, h1, h2 with
    | [a0], [], _, _ =>
      have h3 : some [a0] = some ws := h3
      cases h3
      kernel_rfl
  rcases List.mem_cons.mp h with e | h
  · cases e
    refine ⟨d6, rfl, fun kV doc pm an cdv ct us zs ws h1 h2 h3 => ?_⟩
    match us, zs, h1, h2 with
    | [a0], [], _, _ =>
      have h3 : some [a0] = some ws := h3
      cases h3
      kernel_rfl
  rcases List.mem_cons.mp h with e | h
  · cases e
    refine ⟨d7, rfl, fun kV doc pm an cdv ct us zs ws h1 h2 h3 => ?_⟩
    match us, zs, h1, h2 with
    | [a0], [], _, _ =>
      have h3 : some [a0] = some ws := h3
      cases h3
      kernel_rfl
  rcases List.mem_cons.mp h with e | h
  · cases e
    refine ⟨d8, rfl, fun kV doc pm an cdv ct us zs ws h1 h2 h3 => ?_⟩
    match us, zs, h1, h2 with
    | [a0], [], _, _ =>
      have h3 : some [a0] = some ws := h3
      cases h3
      kernel_rfl
  rcases List.mem_cons.mp h with e | h
  · cases e
    refine ⟨d9, rfl, fun kV doc pm an cdv ct us zs ws h1 h2 h3 => ?_⟩
    match us, zs, h1, h2 with
    | [a0, a1, a2], [], _, _ =>
      have h3 : some [a0, a1, a2] = some ws := h3
      cases h3
      kernel_rfl
  rcases List.mem_cons.mp h with e | h
  · cases e
    refine ⟨d4, rfl, fun kV doc pm an cdv ct us zs ws h1 h2 h3 => ?_⟩
    match us, zs, h1, h2 with
    | [a0], [], _, _ =>
      have h3 : some [a0] = some ws := h3
      cases h3
      kernel_rfl
  rcases List.mem_cons.mp h with e | h
  · cases e
    refine ⟨d11, rfl, fun kV doc pm an cdv ct us zs ws h1 h2 h3 => ?_⟩
    match us, zs, h1, h2 with
    | [a0], [], _, _ =>
      have h3 : some [a0] = some ws := h3
      cases h3
      kernel_rfl
  rcases List.mem_cons.mp h with e | h
  · cases e
    refine ⟨d5, rfl, fun kV doc pm an cdv ct us zs ws h1 h2 h3 => ?_⟩
    match us, zs, h1, h2 with
    | [a0], [], _, _ =>
      have h3 : some [a0] = some ws := h3
      cases h3
      kernel_rfl
  rcases List.mem_cons.mp h with e | h
  · cases e
    refine ⟨d10, rfl, fun kV doc pm an cdv ct us zs ws h1 h2 h3 => ?_⟩
    match us, zs, h1, h2 with
    | [a0, a1], [], _, _ =>
      have h3 : some [a0, a1] = some ws := h3
      cases h3
      kernel_rfl
  rcases List.mem_cons.mp h with e | h
  · cases e
    refine ⟨d19, rfl, fun kV doc pm an cdv ct us zs ws h1 h2 h3 => ?_⟩
    match us, zs, h1, h2 with
    | [a0, a1], [], _, _ =>
      have h3 : some [a0, a1] = some ws := h3
      cases h3
      kernel_rfl
  rcases List.mem_cons.mp h with e | h
  · cases e
    refine ⟨d12, rfl, fun kV doc pm an cdv ct us zs ws h1 h2 h3 => ?_⟩
    match us, zs, h1, h2 with
    | [a0], [], _, _ =>
      have h3 : some [a0] = some ws := h3
      cases h3
      kernel_rfl
  rcases List.mem_cons.mp h with e | h
  · cases e
    refine ⟨d12, rfl, fun kV doc pm an cdv ct us zs ws h1 h2 h3 => ?_⟩
    match us, zs, h1, h2 with
    | [], [z0], _, _ =>
      have h3 : some [z0] = some ws := h3
      cases h3
      kernel_rfl
  rcases List.mem_cons.mp h with e | h
  · cases e
    refine ⟨d13, rfl, fun kV doc pm an cdv ct us zs ws h1 h2 h3 => ?_⟩
    match us, zs, h1, h2 with
    | [a0], [], _, _ =>
      have h3 : some [a0] = some ws := h3
      cases h3
      kernel_rfl
  rcases List.mem_cons.mp h with e | h
  · cases e
    refine ⟨d14, rfl, fun kV doc pm an cdv ct us zs ws h1 h2 h3 => ?_⟩
    match us, zs, h1, h2 with
    | [], [z0], _, _ =>
      have h3 : some [z0] = some ws := h3
      cases h3
      kernel_rfl
  rcases List.mem_cons.mp h with e | h
  · cases e
    refine ⟨d17, rfl, fun kV doc pm an cdv ct us zs ws h1 h2 h3 => ?_⟩
    match us, zs, h1, h2 with
    | [], [z0, z1], _, _ =>
      have h3 : some [z1, z0] = some ws := h3
      cases h3
      kernel_rfl
  rcases List.mem_cons.mp h with e | h
  · cases e
    refine ⟨d16, rfl, fun kV doc pm an cdv ct us zs ws h1 h2 h3 => ?_⟩
    match us, zs, h1, h2 with
    | [a0, a1], [], _, _ =>
      have h3 : some [a0, a1] = some ws := h3
      cases h3
      kernel_rfl
  rcases List.mem_cons.mp h with e | h
  · cases e
    refine ⟨d15, rfl, fun kV doc pm an cdv ct us zs ws h1 h2 h3 => ?_⟩
    match us, zs, h1, h2 with
    | [a0, a1], [], _, _ =>
      have h3 : some [a0, a1] = some ws := h3
      cases h3
      kernel_rfl
  rcases List.mem_cons.mp h with e | h
  · cases e
    refine ⟨d21, rfl, fun kV doc pm an cdv ct us zs ws h1 h2 h3 => ?_⟩
    match us, zs, h1, h2 with
    | [a0, a1], [], _, _ =>
      have h3 : some [a0, a1] = some ws := h3
      cases h3
      kernel_rfl
  rcases List.mem_cons.mp h with e | h
  · cases e
    refine ⟨d20, rfl, fun kV doc pm an cdv ct us zs ws h1 h2 h3 => ?_⟩
    match us, zs, h1, h2 with
    | [a0, a1], [], _, _ =>
      have h3 : some [a0, a1] = some ws := h3
      cases h3
      kernel_rfl
  rcases List.mem_cons.mp h with e | h
  · cases e
    refine ⟨d23, rfl, fun kV doc pm an cdv ct us zs ws h1 h2 h3 => ?_⟩
    match us, zs, h1, h2 with
    | [a0], [], _, _ =>
      have h3 : some [a0] = some ws := h3
      cases h3
      kernel_rfl
  rcases List.mem_cons.mp h with e | h
  · cases e
    refine ⟨d13, rfl, fun kV doc pm an cdv ct us zs ws h1 h2 h3 => ?_⟩
    match us, zs, h1, h2 with
    | [], [z0], _, _ =>
      have h3 : some [z0] = some ws := h3
      cases h3
      kernel_rfl
  rcases List.mem_cons.mp h with e | h
  · cases e
    refine ⟨d14, rfl, fun kV doc pm an cdv ct us zs ws h1 h2 h3 => ?_⟩
    match us, zs, h1, h2 with
    | [a0], [], _, _ =>
      have h3 : some [a0] = some ws := h3
      cases h3
      kernel_rfl
  rcases List.mem_cons.mp h with e | h
  · cases e
    refine ⟨d15, rfl, fun kV doc pm an cdv ct us zs ws h1 h2 h3 => ?_⟩
    match us, zs, h1, h2 with
    | [], [z0, z1], _, _ =>
      have h3 : some [z1, z0] = some ws := h3
      cases h3
      kernel_rfl
  rcases List.mem_cons.mp h with e | h
  · cases e
    refine ⟨d22, rfl, fun kV doc pm an cdv ct us zs ws h1 h2 h3 => ?_⟩
    match us, zs, h1, h2 with
    | [], [], _, _ =>
      have h3 : some [] = some ws := h3
      cases h3
      kernel_rfl
  rcases List.mem_cons.mp h with e | h
  · cases e
    refine ⟨d24, rfl, fun kV doc pm an cdv ct us zs ws h1 h2 h3 => ?_⟩
    match us, zs, h1, h2 with
    | [a0], [], _, _ =>
      have h3 : some [a0] = some ws := h3
      cases h3
      kernel_rfl
  rcases List.mem_cons.mp h with e | h
  · cases e
    refine ⟨d18, rfl, fun kV doc pm an cdv ct us zs ws h1 h2 h3 => ?_⟩
    match us, zs, h1, h2 with
    | [a0, a1], [], _, _ =>
      have h3 : some [a0, a1] = some ws := h3
      cases h3
      kernel_rfl
  rcases List.mem_cons.mp h with e | h
  · cases e
    refine ⟨d25, rfl, fun kV doc pm an cdv ct us zs ws h1 h2 h3 => ?_⟩
    match us, zs, h1, h2 with
    | [a0], [], _, _ =>
      have h3 : some [a0] = some ws := h3
      cases h3
      kernel_rfl
  exact absurd h (by simp)
theorem hlpOk : pt.HlpOk := by
  intro d h
  have h : d ∈ [d26] := h
  rcases List.mem_cons.mp h with e | h
  · subst e
    intro kV doc pm an cdv ct us hl
    match us, hl with
    | [a], _ => kernel_rfl
  exact absurd h (by simp)
def names0 : List Str := ["_wall", "LEAST_SIDES", "MOST_SIDES", "FLAT", "is_whole", "is_from_to", "is_row_of", "spread", "has_floor_form", "is_flat_floor", "FRESH", "first_free", "last_free", "side_before", "side_behind", "side_second", "begin_counts", "end_counts", "met_corner", "kind_beyond", "child_rows", "KindRows", "kind_table", "MOST_NUMBERS", "BEHIND", "BEFORE", "FIRST_STAND", "Walker", "stand_behind", "FloorError"]
def names1 : List Str := ["InvalidFloor", "InvalidWay", "InvalidNumber", "TooGreat", "REDUCED", "root_degree", "degrees_of", "degree_of", "exact_at", "exact_whole", "MOST_LETTERS", "LEFT", "RIGHT", "STEP", "MIRRORS", "has_way_form", "MOST_RING", "check_floor", "check_way", "check_from_to", "check_ring", "is_floor", "is_flat", "degree", "of_whole", "Offspring", "ring_size", "told", "told_stand", "end_of"]
def names2 : List Str := ["_law_pail", "_law_deal", "_law_shuffled", "_law_same", "_law_floors", "_law_refused", "_law_none_right", "_law_right", "__name__"]
def names : List Str := names0 ++ names1 ++ names2
def lawTop : Nat := 83
def lawIx : Nat := 25
end K02
set_option maxRecDepth 100000
set_option maxHeartbeats 0
namespace K02
open PySem PySem.Spec PyProof.Rows MP PySem.W PySem.Calls HandSHeadRun
abbrev hk : Hook := hookY 4 pt
def ob (s : SharedT) : He.AlX := obsY 4 pt (getT s)
theorem ob_eq (s : SharedT) : ob s = hk.obs s.abs := obsY_eq (getT_eq s)
abbrev qv : Program := view R.prog [lawTop]
theorem join3 {α β γ δ : Type} {o : Option α} (f1 : α → β) (f2 : α → γ) (g : α → δ) {a : β} {b : γ} {c : δ} (h1 : o.map (fun s => (f1 s, f2 s)) = some (a, b)) (h2 : o.map g = some c) : o.map (fun s => (f1 s, f2 s, g s)) = some (a, b, c) := by
  cases o with
  | none => cases h1
  | some s =>
    obtain e1 : (f1 s, f2 s) = (a, b) := Option.some.inj h1
    obtain e2 : g s = c := Option.some.inj h2
    obtain ⟨e3, e4⟩ := Prod.mk.inj e1
    show some (f1 s, f2 s, g s) = _
    rw [e3, e4, e2]
theorem run0a (w : World) (os : OsState) : (endF (stepQ (denQ tabQ) R.prog (w.withFollow "special-get-raises" false)) 40000 R.prog (w.withFollow "special-get-raises" false) os).map (fun s => (looksF R.prog (boot_heap (w.withFollow "special-get-raises" false).params) s.abs, seenQ qv names (importedModules R.prog.main.body) (fun s => xlAt qv [] s && recOk R.toRowW.records s) s.abs)) = some (true, openGood qv names) := by
  kernel_rfl
theorem run0b (w : World) (os : OsState) : (endF (stepQ (denQ tabQ) R.prog (w.withFollow "special-get-raises" false)) 40000 R.prog (w.withFollow "special-get-raises" false) os).map ob = some (hk.val (w.withFollow "special-get-raises" false)) := by
  kernel_rfl
theorem run0 (w : World) : RunEq R qv hk ob 40000 names (w.withFollow "special-get-raises" false) :=
  fun os => by
    have h := join3 (o := (endF (stepQ (denQ tabQ) R.prog (w.withFollow "special-get-raises" false)) 40000 R.prog (w.withFollow "special-get-raises" false) os)) (fun s : SharedT => looksF R.prog (boot_heap (w.withFollow "special-get-raises" false).params) s.abs) (fun s : SharedT => seenQ qv names (importedModules R.prog.main.body) (fun s => xlAt qv [] s && recOk R.toRowW.records s) s.abs) ob (run0a w os) (run0b w os)
    exact h
theorem run1a (w : World) (os : OsState) : (endF (stepQ (denQ tabQ) R.prog (w.withFollow "special-get-raises" true)) 40000 R.prog (w.withFollow "special-get-raises" true) os).map (fun s => (looksF R.prog (boot_heap (w.withFollow "special-get-raises" true).params) s.abs, seenQ qv names (importedModules R.prog.main.body) (fun s => xlAt qv [] s && recOk R.toRowW.records s) s.abs)) = some (true, openGood qv names) := by
  kernel_rfl
theorem run1b (w : World) (os : OsState) : (endF (stepQ (denQ tabQ) R.prog (w.withFollow "special-get-raises" true)) 40000 R.prog (w.withFollow "special-get-raises" true) os).map ob = some (hk.val (w.withFollow "special-get-raises" true)) := by
  kernel_rfl
theorem run1 (w : World) : RunEq R qv hk ob 40000 names (w.withFollow "special-get-raises" true) :=
  fun os => by
    have h := join3 (o := (endF (stepQ (denQ tabQ) R.prog (w.withFollow "special-get-raises" true)) 40000 R.prog (w.withFollow "special-get-raises" true) os)) (fun s : SharedT => looksF R.prog (boot_heap (w.withFollow "special-get-raises" true).params) s.abs) (fun s : SharedT => seenQ qv names (importedModules R.prog.main.body) (fun s => xlAt qv [] s && recOk R.toRowW.records s) s.abs) ob (run1a w os) (run1b w os)
    exact h
theorem run (w : World) : RunEq R qv hk ob 40000 names w :=
  byRow2 "special-get-raises" (P := fun w => RunEq R qv hk ob 40000 names w) run0 run1 w
end K02
set_option maxRecDepth 100000
set_option maxHeartbeats 4000000
namespace K02
open PySem MP
abbrev rn (n f : Nat) (vs : List IV) (hs : Hpi) : Option Res := runFL pt.T0 pt.T pt.V 200 20 n f vs hs
def fl (s a : Int) : IV := .tup [.int s, .int a]
def isF (s a : Int) : Bool := (decide (2 < s) && decide (s < 9)) && ((decide (2 < a) && decide (a < 9)) && decide (4 ≤ (s - 2) * (a - 2)))
def nums : List Int := [0, 1, 2, 3, 4, 5, 6, 7, 8, 9, 10]
def pkv : List (L2.Key × IV) := [(.inl 3, .int 1), (.inl 4, .int 1), (.inl 5, .int 2), (.inl 6, .int 1), (.inl 7, .int 3), (.inl 8, .int 2)]
def partI (s : Int) : Int := if s = 5 then 2 else if s = 7 then 3 else if s = 8 then 2 else 1
def dueI (s a : Int) : Int := partI s * (if s = a then 1 else partI a)
def flatB (s a : Int) : Bool := decide ((s - 2) * (a - 2) = 4)
def zer (n : Int) : List IV := List.replicate n.toNat (.int 0)
def had (s a : Int) : List IV := [.bl true, .bl true, .bl (flatB s a), .int (dueI s a), .int (dueI s a)]
def ask (s a : Int) : Bool :=
  if isF s a then runOk (rn 4 12 [fl s a] []) [] (.bl true) && (runOk (rn 4 13 [fl s a] []) [] (.bl (flatB s a)) && (runOk (rn 4 14 [fl s a] []) [] (.int (dueI s a)) &&
    (runOk (rn 4 15 [fl s a, .int 7] []) [] (.tup (.int 7 :: zer (dueI s a - 1))) && (runOk (rn 4 15 [fl s a, .int 0] []) [] (.tup (zer (dueI s a))) && (runOk (rn 4 21 [.ref 0, .ref 1] [.lst (had s a), .lst (had s a)]) [.lst (had s a), .lst (had s a)] (.bl true) &&
    (decide (eqIV [] (.tup (zer (dueI s a))) (.tup (zer (dueI s a))) = some true) && (decide (1 ≤ dueI s a) && decide (dueI s a ≤ 100))))))))
  else runOk (rn 4 23 [fl s a] []) [] (.bl true)
theorem asked0 : (nums.all fun a => ask 0 a) = true := by decide +kernel
theorem asked1 : (nums.all fun a => ask 1 a) = true := by decide +kernel
theorem asked2 : (nums.all fun a => ask 2 a) = true := by decide +kernel
theorem askedA3 : (([0, 1, 2, 3, 4, 5] : List Int).all fun a => ask 3 a) = true := by decide +kernel
theorem askedB3 : (([6, 7, 8, 9, 10] : List Int).all fun a => ask 3 a) = true := by decide +kernel
theorem asked3 : (nums.all fun a => ask 3 a) = true := by
  have e : nums = [0, 1, 2, 3, 4, 5] ++ [6, 7, 8, 9, 10] := rfl
  rw [e, List.all_append, askedA3, askedB3]; rfl
theorem askedA4 : (([0, 1, 2, 3, 4, 5] : List Int).all fun a => ask 4 a) = true := by decide +kernel
theorem askedB4 : (([6, 7, 8, 9, 10] : List Int).all fun a => ask 4 a) = true := by decide +kernel
theorem asked4 : (nums.all fun a => ask 4 a) = true := by
  have e : nums = [0, 1, 2, 3, 4, 5] ++ [6, 7, 8, 9, 10] := rfl
  rw [e, List.all_append, askedA4, askedB4]; rfl
theorem askedA5 : (([0, 1, 2, 3, 4, 5] : List Int).all fun a => ask 5 a) = true := by decide +kernel
theorem askedB5 : (([6, 7, 8, 9, 10] : List Int).all fun a => ask 5 a) = true := by decide +kernel
theorem asked5 : (nums.all fun a => ask 5 a) = true := by
  have e : nums = [0, 1, 2, 3, 4, 5] ++ [6, 7, 8, 9, 10] := rfl
  rw [e, List.all_append, askedA5, askedB5]; rfl
theorem askedA6 : (([0, 1, 2, 3, 4, 5] : List Int).all fun a => ask 6 a) = true := by decide +kernel
theorem askedB6 : (([6, 7, 8, 9, 10] : List Int).all fun a => ask 6 a) = true := by decide +kernel
theorem asked6 : (nums.all fun a => ask 6 a) = true := by
  have e : nums = [0, 1, 2, 3, 4, 5] ++ [6, 7, 8, 9, 10] := rfl
  rw [e, List.all_append, askedA6, askedB6]; rfl
theorem askedA7 : (([0, 1, 2, 3, 4, 5] : List Int).all fun a => ask 7 a) = true := by decide +kernel
theorem askedB7 : (([6, 7, 8, 9, 10] : List Int).all fun a => ask 7 a) = true := by decide +kernel
theorem asked7 : (nums.all fun a => ask 7 a) = true := by
  have e : nums = [0, 1, 2, 3, 4, 5] ++ [6, 7, 8, 9, 10] := rfl
  rw [e, List.all_append, askedA7, askedB7]; rfl
theorem askedA8 : (([0, 1, 2, 3, 4, 5] : List Int).all fun a => ask 8 a) = true := by decide +kernel
theorem askedB8 : (([6, 7, 8, 9, 10] : List Int).all fun a => ask 8 a) = true := by decide +kernel
theorem asked8 : (nums.all fun a => ask 8 a) = true := by
  have e : nums = [0, 1, 2, 3, 4, 5] ++ [6, 7, 8, 9, 10] := rfl
  rw [e, List.all_append, askedA8, askedB8]; rfl
theorem asked9 : (nums.all fun a => ask 9 a) = true := by decide +kernel
theorem asked10 : (nums.all fun a => ask 10 a) = true := by decide +kernel
theorem asked : (nums.all fun s => nums.all fun a => ask s a) = true := by
  have e : ∀ f : Int → Bool, nums.all f = (f 0 && (f 1 && (f 2 && (f 3 && (f 4 && (f 5 && (f 6 && (f 7 && (f 8 && (f 9 && (f 10 && true))))))))))) := fun _ => rfl
  rw [e, asked0, asked1, asked2, asked3, asked4, asked5, asked6, asked7, asked8, asked9, asked10]
  rfl
def odds1 : List IV := [.non, .bl true, .int 54, .str (Str.ofString "54"), .tup [], .tup [.int 5], .tup [.int 5, .int 4, .int 4]]
def odds2 : List IV := [.tup [.int 5, .non], .tup [.str (Str.ofString "5"), .int 4], .tup [.int 5, .str (Str.ofString "4")], .tup [.bl true, .int 8], .tup [.int 8, .bl true], .tup [.tup [.int 5, .int 4]], .tup [.int (-5), .int (-4)]]
theorem odd1 : ((odds1 ++ odds2).all fun x => rb 0 x && runOk (rn 4 23 [x] []) [] (.bl true)) = true := by decide +kernel
theorem odd2 : runOk (rn 4 23 [.ref 0] [.lst [.int 5, .int 4]]) [.lst [.int 5, .int 4]] (.bl true) = true := by decide +kernel
def floors : List (Int × Int) := nums.flatMap fun s => (nums.filter (isF s)).map fun a => (s, a)
theorem floors_ok : runLs (rn 4 22 [] []) (floors.map ivII) = true := by decide +kernel
theorem floors_eq : eqIV [.lst (floors.map ivII), .lst (floors.map ivII)] (.ref 0) (.ref 1) = some true := by decide +kernel
theorem floors_rb : rbs 0 (floors.map ivII) = true := by decide +kernel
end K02
set_option maxRecDepth 100000
set_option maxHeartbeats 4000000
/-! K02p: the plain law. -/
namespace K02
open PySem MP
abbrev CL (n : Nat) : CSp := Shf (RunsL pt.T0 pt.T pt.V 20 n)
def bIn : List MS := [.asg (.name 5) (.tup [.var 3, .var 4]), .ifs (.not (.and (.chain .lt .lt (.cint 2) (.var 3) (.cint 9)) (.and (.chain .lt .lt (.cint 2) (.var 4) (.cint 9)) (.cmp .ge (.bin .mul (.bin .sub (.var 3) (.cint 2)) (.bin .sub (.var 4) (.cint 2))) (.cint 4))))) [.ifs (.not (.call 23 [.var 5] [] [0])) [.ret (.cbool false)] [], .cnt] [], .expr (.meth (.var 2) .append [.var 5]), .asg (.name 6) (.bin .mul (.idx (.var 1) (.var 3)) (.ite (.cmp .eq (.var 3) (.var 4)) (.cint 1) (.idx (.var 1) (.var 4)))), .asg (.name 7) (.lst [.call 12 [.var 5] [] [0], .call 12 [] [.var 5] [0], .call 13 [] [.var 5] [0], .call 14 [.var 5] [] [0], .call 14 [] [.var 5] [0]]), .ifs (.not (.call 21 [.var 7, .lst [.cbool true, .cbool true, .cmp .eq (.bin .mul (.bin .sub (.var 3) (.cint 2)) (.bin .sub (.var 4) (.cint 2))) (.cint 4), .var 6, .var 6]] [] [0, 1])) [.ret (.cbool false)] [], .ifs (.or (.cmp .ne (.bcall .len [.call 15 [.var 5, .cint 7] [] [0, 1]]) (.var 6)) (.cmp .ne (.call 15 [] [.cint 0, .var 5] [1, 0]) (.bin .mul (.tup [.cint 0]) (.var 6)))) [.ret (.cbool false)] []]
/-- what stands in the heap while the floors are gone through -/
structure Iv (h0 : Hpi) (A P M L : Nat) (zs : List Int) (met : List (Int × Int)) (h : Hpi) : Prop where
  le : h0.length ≤ h.length
  fr : ∀ b, b < h0.length → b ≠ A → h[b]? = h0[b]?
  p : h[P]? = some (.dct pkv)
  m : h[M]? = some (.lst (met.map ivII))
  l : h[L]? = some (.lst (zs.map .int))
  ml : M ≠ L
  mh : h0.length ≤ M
  few : met.length ≤ 1000
section
variable {h0 : Hpi} {A P M L : Nat} {zs : List Int} {met : List (Int × Int)} {h : Hpi}
theorem at_app {b : Nat} {c : Cell} {g : List Cell} (e : h[b]? = some c) : (h ++ g)[b]? = some c := by
  rw [List.getElem?_append_left (List.getElem?_eq_some_iff.mp e).1]
  exact e
theorem Iv.app (v : Iv h0 A P M L zs met h) (g : List Cell) : Iv h0 A P M L zs met (h ++ g) :=
  ⟨by have := v.le; simp; omega, fun b hb ha => by rw [List.getElem?_append_left (by have := v.le; omega)]; exact v.fr b hb ha, at_app v.p, at_app v.m, at_app v.l, v.ml, v.mh, v.few⟩
theorem Iv.put (v : Iv h0 A P M L zs met h) {x : Int × Int} (hf : met.length < 1000) : Iv h0 A P M L zs (met ++ [x]) (h.set M (.lst (met.map ivII ++ [ivII x]))) := by
  have mp : M ≠ P := fun z => by
    have := v.p
    rw [← z, v.m] at this
    cases this
  refine ⟨by have := v.le; simp; omega, fun b hb ha => ?_, ?_, ?_, ?_, v.ml, v.mh, by simp; omega⟩
  · rw [List.getElem?_set_ne (by have := v.mh; omega)]
    exact v.fr b hb ha
  · rw [List.getElem?_set_ne mp]
    exact v.p
  · rw [List.map_append]
    exact get_set v.m
  · rw [List.getElem?_set_ne v.ml]
    exact v.l
end
theorem nums_le : ∀ s ∈ nums, 0 ≤ s ∧ s ≤ 10 := by decide
theorem ask_at {s a : Int} (hs : s ∈ nums) (ha : a ∈ nums) : ask s a = true := List.all_eq_true.mp (List.all_eq_true.mp asked s hs) a ha
theorem mul_ok {s a : Int} (hs : s ∈ nums) (ha : a ∈ nums) : okMul (s - 2) (a - 2) = true := by
  have := nums_le s hs
  exact okMul_l (by omega) (by omega)
theorem eq_int {h : Hpi} {i : Int} : eqIV h (.int i) (.int i) = some true := by
  have : eqIV h (.int i) (.int i) = some (PyData.eqv (.int i) (.int i)) := rfl
  rw [this]
  simp [PyData.eqv]
theorem eq_int2 {h : Hpi} {i j : Int} : eqIV h (.int i) (.int j) = some (decide (i = j)) := by
  have : eqIV h (.int i) (.int j) = some (PyData.eqv (.int i) (.int j)) := rfl
  rw [this]
  simp [PyData.eqv]
  rfl
section
variable {n k : Nat} {ℓ : MP.Loc} {h : Hpi} {s a : Int}
/-- the test ahead -/
theorem cond_ok {o1 o2 o3 o5 o6 o7 o8 o9 o10 : Option IV} (hm : okMul (s - 2) (a - 2) = true) (kk : KV) (kx : KX) :
    evE (Cfg.no pt.V) (k + 40) (.not (.and (.chain .lt .lt (.cint 2) (.var 3) (.cint 9)) (.and (.chain .lt .lt (.cint 2) (.var 4) (.cint 9)) (.cmp .ge (.bin .mul (.bin .sub (.var 3) (.cint 2)) (.bin .sub (.var 4) (.cint 2))) (.cint 4))))) [o1, o2, o3, some (.int s), some (.int a), o5, o6, o7, o8, o9, o10] h kk kx = kk (.bl (!(isF s a))) h := by
  unfold isF
  by_cases h1 : 2 < s <;> by_cases h2 : s < 9 <;> by_cases h3 : 2 < a <;> by_cases h4 : a < 9 <;> by_cases h5 : 4 ≤ (s - 2) * (a - 2) <;>
    simp only [evE, optT, getSl, List.getElem?_cons_zero, List.getElem?_cons_succ, cmpIV, truIV, binIV, hm, if_true, h1, h2, h3, h4, h5, decide_true, decide_false, Bool.and_self, Bool.and_true, Bool.true_and, Bool.false_and, Bool.and_false, Bool.not_true, Bool.not_false]
end
theorem mulz {h : Hpi} {n : Int} (h1 : 1 ≤ n) (h2 : n ≤ 100) : binIV .mul (.tup [.int 0]) (.int n) h = some (.tup (zer n), h) := by
  simp only [binIV]
  by_cases e : n = 1
  · subst e
    rw [if_pos rfl]
    rfl
  · rw [if_neg e]
    have c : (![IV.int 0].isEmpty && (decide (2 ≤ n) && (decide (n ≤ 1000) && decide ([IV.int 0].length ≤ 1000)))) = true := by
      rw [decide_eq_true (show 2 ≤ n by omega), decide_eq_true (show n ≤ 1000 by omega)]
      rfl
    rw [if_pos c]
    have : (List.replicate n.toNat [IV.int 0]).flatten = zer n := by
      unfold zer
      induction n.toNat with
      | zero => rfl
      | succ m ih => rw [List.replicate_succ, List.replicate_succ, List.flatten_cons, ih]; rfl
    rw [this]
theorem part_at {s : Int} (h1 : 2 < s) (h2 : s < 9) : lookK (.inl s) pkv = some (.int (partI s)) := by
  have : s = 3 ∨ s = 4 ∨ s = 5 ∨ s = 6 ∨ s = 7 ∨ s = 8 := by omega
  rcases this with rfl | rfl | rfl | rfl | rfl | rfl <;> rfl
theorem zer_rb (n : Int) : rb 0 (.tup (zer n)) = true := by
  unfold zer
  show rbs 0 _ = true
  induction n.toNat with
  | zero => rfl
  | succ m ih => exact ih
/-- what the inner turns leave in the slots -/
def Lok (A P M : Nat) (s : Int) (ℓ : MP.Loc) : Prop := ∃ o4 o5 o6 o7 o8 o9 o10, ℓ = [some (.ref A), some (.ref P), some (.ref M), some (.int s), o4, o5, o6, o7, o8, o9, o10]
theorem turn2 {h0 : Hpi} {A P M L : Nat} {zs : List Int} {met : List (Int × Int)} {h : Hpi} {s a : Int} {k : Nat} (hs : s ∈ nums) (ha : a ∈ nums) (v : Iv h0 A P M L zs met h) (hf : met.length < 1000) {ℓ : MP.Loc} (hl : ∃ o5 o6 o7 o8 o9 o10, ℓ = [some (.ref A), some (.ref P), some (.ref M), some (.int s), some (.int a), o5, o6, o7, o8, o9, o10]) :
    HB (CL 4) (Cfg.no pt.V) (k + 60) bIn ℓ h fun o => match o with
      | .nx ℓ' h' => isF s a = true ∧ Lok A P M s ℓ' ∧ Iv h0 A P M L zs (met ++ [(s, a)]) h'
      | .ct ℓ' h' => isF s a = false ∧ Lok A P M s ℓ' ∧ Iv h0 A P M L zs met h'
      | _ => False := by
  obtain ⟨o5, o6, o7, o8, o9, o10, rfl⟩ := hl
  have q := ask_at hs ha
  have hm := mul_ok hs ha
  have sz2 : sizeOk 2 = true := by decide
  refine HB.cons (HS.asg fun kk kx PP hk hx => ?_)
  simp only [evE, evL, optT, getSl, List.getElem?_cons_zero, List.getElem?_cons_succ, List.length_cons, List.length_nil, sz2, if_true]
  refine hk _ _ fun k2 P2 hk2 => ?_
  simp only [evG, List.set_cons_zero, List.set_cons_succ]
  refine hk2 _ _ ?_
  refine HB.cons (HS.ifs fun kk kx PP hk hx => ?_)
  rw [show k + 57 = (k + 17) + 40 by omega, cond_ok hm]
  refine hk _ _ ⟨_, rfl, fun hF => ?_, fun hF => ?_⟩
  · have hF : isF s a = false := by simpa using hF
    unfold ask at q
    rw [hF, if_neg Bool.false_ne_true] at q
    refine HB.cons (HS.ifs fun kk kx PP hk hx => ?_)
    simp only [evE, evL, optT, getSl, List.getElem?_cons_zero, List.getElem?_cons_succ, List.length_cons, List.length_nil, Nat.beq_refl, Bool.and_self, List.append_nil, permL]
    refine ⟨_, closed0 q rfl, ?_⟩
    rintro r ⟨g, rfl⟩
    simp only [truIV]
    refine hk _ _ ⟨_, rfl, (fun z => by cases z), fun _ => ?_⟩
    refine HB.nil ?_
    exact HB.cons (HS.cnt ⟨hF, ⟨_, _, _, _, _, _, _, rfl⟩, v.app g⟩)
  · have hF : isF s a = true := by simpa using hF
    unfold ask at q
    rw [hF, if_pos rfl] at q
    simp only [Bool.and_eq_true, decide_eq_true_eq] at q
    obtain ⟨q1, q2, q3, q4, q5, q6, q7, q8, q9⟩ := q
    refine HB.nil ?_
    have dm : 2 < s ∧ s < 9 ∧ 2 < a ∧ a < 9 := by
      unfold isF at hF
      simp only [Bool.and_eq_true, decide_eq_true_eq] at hF
      exact ⟨hF.1.1, hF.1.2, hF.2.1.1, hF.2.1.2⟩
    have mp : M ≠ P := fun z => by
      have := v.p
      rw [← z, v.m] at this
      cases this
    -- met.append(floor)
    refine HB.cons (HS.expr fun kk kx PP hk hx => ?_)
    have r1 := rcv_lst (m := .append) v.m rfl
    have a1 := app_to (v := fl s a) v.m (by rw [List.length_map]; omega)
    simp only [evE, evL, optT, getSl, List.getElem?_cons_zero, List.getElem?_cons_succ, r1]
    rw [show IV.tup [IV.int s, IV.int a] = fl s a from rfl, a1]
    refine hk _ _ ?_
    have v2 := v.put (x := (s, a)) hf
    rw [show (fl s a : IV) = ivII (s, a) from rfl]
    generalize h.set M (.lst (met.map ivII ++ [ivII (s, a)])) = h2 at v2 ⊢
    -- due
    refine HB.cons (HS.asg fun kk kx PP hk hx => ?_)
    have i1 : idxIV (.ref P) (.int s) h2 = some (.int (partI s)) := by
      simp only [idxIV, dictIV, v2.p, keyIV]
      exact part_at dm.1 dm.2.1
    have i2 : idxIV (.ref P) (.int a) h2 = some (.int (partI a)) := by
      simp only [idxIV, dictIV, v2.p, keyIV]
      exact part_at dm.2.2.1 dm.2.2.2
    have pb : ∀ x : Int, 0 ≤ partI x ∧ partI x ≤ 3 := fun x => by
      unfold partI
      split
      · omega
      · split
        · omega
        · split <;> omega
    have m1 : ∀ y : Int, okMul (partI s) y = true := fun y => okMul_l (by have := pb s; omega) (by have := pb s; omega)
    have due : evE (Cfg.no pt.V) (k + 55) (.bin .mul (.idx (.var 1) (.var 3)) (.ite (.cmp .eq (.var 3) (.var 4)) (.cint 1) (.idx (.var 1) (.var 4)))) [some (.ref A), some (.ref P), some (.ref M), some (.int s), some (.int a), some (.tup [.int s, .int a]), o6, o7, o8, o9, o10] h2 kk kx = kk (.int (dueI s a)) h2 := by
      unfold dueI
      by_cases e : s = a
      · simp only [evE, optT, getSl, List.getElem?_cons_zero, List.getElem?_cons_succ, i1, i2, cmpIV, eq_int2, e, decide_true, truIV, binIV, if_true]
        rw [← e, m1]
        rfl
      · simp only [evE, optT, getSl, List.getElem?_cons_zero, List.getElem?_cons_succ, i1, i2, cmpIV, eq_int2, e, decide_false, truIV, binIV, if_false, m1, if_true]
    dsimp only
    rw [due]
    refine hk _ _ fun k2 P2 hk2 => ?_
    simp only [evG, List.set_cons_zero, List.set_cons_succ]
    refine hk2 _ _ ?_
    -- had
    refine HB.cons (HS.asg fun kk kx PP hk hx => ?_)
    simp only [evE, evL, optT, getSl, List.getElem?_cons_zero, List.getElem?_cons_succ, List.length_cons, List.length_nil, Nat.beq_refl, Bool.and_self, List.append_nil, List.nil_append, permL]
    refine ⟨_, closed0 q1 rfl, ?_⟩
    rintro r ⟨g1, rfl⟩
    simp only [evE, evL, optT, getSl, List.getElem?_cons_zero, List.getElem?_cons_succ, List.length_cons, List.length_nil, Nat.beq_refl, Bool.and_self, List.append_nil, List.nil_append, permL]
    refine ⟨_, closed0 q1 rfl, ?_⟩
    rintro r ⟨g2, rfl⟩
    dsimp only
    refine ⟨_, closed0 q2 rfl, ?_⟩
    rintro r ⟨g3, rfl⟩
    dsimp only
    refine ⟨_, closed0 q3 rfl, ?_⟩
    rintro r ⟨g4, rfl⟩
    dsimp only
    refine ⟨_, closed0 q3 rfl, ?_⟩
    rintro r ⟨g5, rfl⟩
    have sz5 : MP.sizeOk 5 = true := by decide
    simp only [sz5, if_true]
    have v3 := ((((v2.app g1).app g2).app g3).app g4).app g5
    generalize h2 ++ g1 ++ g2 ++ g3 ++ g4 ++ g5 = h3 at v3 ⊢
    refine hk _ _ fun k2 P2 hk2 => ?_
    simp only [evG, List.set_cons_zero, List.set_cons_succ]
    refine hk2 _ _ ?_
    -- the first test
    have fl0 : decide ((s - 2) * (a - 2) = 4) = flatB s a := rfl
    have had0 : [IV.bl true, IV.bl true, IV.bl (flatB s a), IV.int (dueI s a), IV.int (dueI s a)] = had s a := rfl
    refine HB.cons (HS.ifs fun kk kx PP hk hx => ?_)
    have e1 : (h3 ++ [Cell.lst (had s a)]).length = h3.length + 1 := by simp
    simp only [evE, evL, optT, getSl, List.getElem?_cons_zero, List.getElem?_cons_succ, List.length_cons, List.length_nil, Nat.beq_refl, Bool.and_self, List.append_nil, List.nil_append, permL, binIV, hm, if_true, cmpIV, eq_int2, fl0, sz5, had0, e1]
    have hcl := closed (h := h3 ++ [Cell.lst (had s a)] ++ [Cell.lst (had s a)]) (ι := [h3.length, h3.length + 1]) q6 (by simp) rfl rfl rfl (fun j i c x1 x2 => by
      match j with
      | 0 =>
        cases x1
        cases x2
        show _ = some (Cell.lst (had s a))
        simp
      | 1 =>
        cases x1
        cases x2
        show _ = some (Cell.lst (had s a))
        simp
      | j + 2 => simp at x1)
    refine ⟨_, hcl, ?_⟩
    rintro r ⟨g6, rfl⟩
    have v4 := ((v3.app [Cell.lst (had s a)]).app [Cell.lst (had s a)]).app g6
    simp only [truIV]
    generalize h3 ++ [Cell.lst (had s a)] ++ [Cell.lst (had s a)] ++ g6 = h4 at v4 ⊢
    refine hk _ _ ⟨_, rfl, (fun z => by cases z), fun _ => ?_⟩
    refine HB.nil ?_
    -- the second test
    refine HB.cons (HS.ifs fun kk kx PP hk hx => ?_)
    simp only [evE, evL, optT, getSl, List.getElem?_cons_zero, List.getElem?_cons_succ, List.length_cons, List.length_nil, Nat.beq_refl, Bool.and_self, List.append_nil, List.nil_append, List.cons_append, permL]
    refine ⟨_, closed0 q4 rfl, ?_⟩
    rintro r ⟨g7, rfl⟩
    have ln : (((IV.int 7 :: zer (dueI s a - 1)).length : Nat) : Int) = dueI s a := by
      unfold zer
      rw [List.length_cons, List.length_replicate]
      omega
    simp only [biIV, lenIV, ln, cmpIV, eq_int, Option.map_some, Bool.not_true, truIV]
    refine ⟨_, closed0 q5 rfl, ?_⟩
    rintro r ⟨g8, rfl⟩
    have sz1 : MP.sizeOk 1 = true := by decide
    have sz1' : MP.sizeOk (0 + 1) = true := by decide
    simp only [sz1, sz1', if_true, mulz q8 q9, eq_nr (zer_rb _) (zer_rb _), q7, Option.map_some, Bool.not_true]
    refine hk _ _ ⟨_, rfl, (fun z => by cases z), fun _ => ?_⟩
    refine HB.nil (HB.nil ⟨hF, ⟨_, _, _, _, _, _, _, rfl⟩, (v4.app g7).app g8⟩)
def fls (s : Int) : List (Int × Int) := (nums.filter (isF s)).map fun a => (s, a)
theorem rng11 : rngL 0 11 = nums.map .int := rfl
theorem rng11' : rngIV (.int 0) (.int 11) = some (.its (nums.map .int)) := rfl
theorem Lok.set4 {A P M : Nat} {s a : Int} {ℓ : MP.Loc} (l : Lok A P M s ℓ) : ∃ o5 o6 o7 o8 o9 o10, ℓ.set 4 (some (.int a)) = [some (.ref A), some (.ref P), some (.ref M), some (.int s), some (.int a), o5, o6, o7, o8, o9, o10] := by
  obtain ⟨o4, o5, o6, o7, o8, o9, o10, rfl⟩ := l
  exact ⟨o5, o6, o7, o8, o9, o10, rfl⟩
theorem turn1 {h0 : Hpi} {A P M L : Nat} {zs : List Int} {met : List (Int × Int)} {h : Hpi} {s : Int} {k : Nat} (hs : s ∈ nums) (v : Iv h0 A P M L zs met h) (hf : met.length ≤ 200) {ℓ : MP.Loc} (hl : Lok A P M s ℓ) :
    HB (CL 4) (Cfg.no pt.V) (k + 300) [.forr (.name 4) (.rng1 (.cint 11)) bIn] ℓ h fun o => match o with
      | .nx ℓ' h' => Lok A P M s ℓ' ∧ Iv h0 A P M L zs (met ++ fls s) h'
      | _ => False := by
  refine HB.cons (HS.forr (HI.rng1 fun kk kx PP hk hx => ?_))
  simp only [evE]
  refine hk _ _ ⟨_, rng11', fun D P2 w => ?_⟩
  rw [show k + 298 = (k + 237) + 60 + 1 by omega]
  refine evF_its (J := fun rem ℓ' h' => ∃ da ra, rem = ra.map IV.int ∧ nums = da ++ ra ∧ Lok A P M s ℓ' ∧ Iv h0 A P M L zs (met ++ (da.filter (isF s)).map fun a => (s, a)) h') 60 ?_ ?_ (nums.map .int) (k + 237) _ _ (by simp [nums]) ⟨[], nums, rfl, rfl, hl, by simpa using v⟩ D P2 w
  · rintro ℓ' h' ⟨da, ra, e1, e2, e3, e4⟩
    have : ra = [] := by cases ra with
      | nil => rfl
      | cons _ _ => cases e1
    subst this
    rw [List.append_nil] at e2
    subst e2
    exact HB.nil ⟨e3, e4⟩
  · rintro k2 x rem ℓ' h' ⟨da, ra, e1, e2, e3, e4⟩
    cases ra with
    | nil => cases e1
    | cons a ra =>
      cases e1
      have ha : a ∈ nums := by rw [e2]; simp
      have hn : da.length ≤ 11 := by
        have := congrArg List.length e2
        simp [nums] at this
        omega
      intro k3 P3 hk3
      simp only [evG]
      refine hk3 _ _ ?_
      intro D4 P4 w4
      refine turn2 (k := k2) hs ha e4 ?_ e3.set4 D4 P4 fun o q => w4 o ?_
      · rw [List.length_append, List.length_map]
        have := List.length_filter_le (isF s) da
        omega
      · cases o with
        | nx ℓ5 h5 =>
          obtain ⟨q1, q2, q3⟩ := q
          refine ⟨da ++ [a], ra, rfl, by rw [e2]; simp, q2, ?_⟩
          rw [List.filter_append, List.filter_cons_of_pos q1, List.filter_nil, List.map_append, ← List.append_assoc]
          exact q3
        | ct ℓ5 h5 =>
          obtain ⟨q1, q2, q3⟩ := q
          refine ⟨da ++ [a], ra, rfl, by rw [e2]; simp, q2, ?_⟩
          rw [List.filter_append, List.filter_cons_of_neg (by rw [q1]; exact Bool.false_ne_true), List.filter_nil, List.append_nil]
          exact q3
        | bk _ _ => exact q.elim
        | rt _ _ => exact q.elim
        | ex _ _ _ => exact q.elim
/-! ### the parts of _law_right -/
theorem deal_c (n : Nat) : DealC (CL (n + 1)) 19 := fun h a m pa hm hm2 => by
  obtain ⟨p, q, r, e⟩ := pa
  exact .inl (.inr ⟨m19, rfl, rfl, 40, deal_ok e hm hm2⟩)
def unI : IV → Int
  | .int i => i
  | _ => 0
theorem ints_of {ys : List IV} (p : ys.Perm (nums.map IV.int)) : ∃ zs : List Int, ys = zs.map IV.int ∧ zs.Perm nums := by
  refine ⟨ys.map unI, ?_, ?_⟩
  · rw [List.map_map]
    have : ∀ y ∈ ys, (IV.int ∘ unI) y = y := fun y hy => by
      obtain ⟨i, _, e⟩ := List.mem_map.mp (p.mem_iff.mp hy)
      rw [← e]; rfl
    rw [List.map_congr_left this]
    simp
  · have := p.map unI
    rw [List.map_map] at this
    have e : (unI ∘ IV.int) = id := rfl
    rw [e, List.map_id] at this
    exact this
theorem fls_len (s : Int) : (fls s).length ≤ 11 := by
  unfold fls
  rw [List.length_map]
  exact List.length_filter_le (isF s) nums
theorem flat_len : ∀ zs : List Int, (zs.flatMap fls).length ≤ 11 * zs.length
  | [] => by simp
  | z :: zs => by
    rw [List.flatMap_cons, List.length_append, List.length_cons]
    have := fls_len z
    have := flat_len zs
    omega
theorem pair_all : ∀ met : List (Int × Int), optMap pairII (met.map ivII) = some met
  | [] => rfl
  | p :: met => by
    rw [List.map_cons]
    simp only [optMap, pair_all met]
    rfl
theorem floors_srt : floors.Pairwise (fun a b => leII a b = true) := by decide +kernel
theorem floors_mem : ∀ p ∈ floors, p.1 ∈ nums ∧ p.2 ∈ nums ∧ isF p.1 p.2 = true := by decide +kernel
theorem sorted_at {M : Nat} {met : List (Int × Int)} {h : Hpi} (hm : h[M]? = some (.lst (met.map ivII))) (p : met.Perm floors) : biIV .sorted [.ref M] h = some (.ref h.length, h ++ [.lst (floors.map ivII)]) := by
  have e : srtII met = floors := srtII_uniq ((srtII_perm met).trans p) (srtII_srt met) floors_srt
  simp only [biIV, lstIV, hm, pair_all, e]
def flp (p : Int × Int) : Bool := flatB p.1 p.2
def three : List (Int × Int) := [(3, 6), (4, 4), (6, 3)]
theorem three_ok : floors.filter flp = three := by decide +kernel
theorem three_eq : eqIV [.lst (three.map ivII), .lst (three.map ivII)] (.ref 0) (.ref 1) = some true := by decide +kernel
theorem three_rb : rbs 0 (three.map ivII) = true := by decide +kernel
/-- the walk over the sides -/
def Lo0 (A P M : Nat) (ℓ : MP.Loc) : Prop := ∃ o3 o4 o5 o6 o7 o8 o9 o10, ℓ = [some (.ref A), some (.ref P), some (.ref M), o3, o4, o5, o6, o7, o8, o9, o10]
theorem sides_ok {h0 : Hpi} {A P M L : Nat} {zs : List Int} {h : Hpi} {k : Nat} (pz : zs.Perm nums) (v : Iv h0 A P M L zs [] h) {ℓ : MP.Loc} (hl : Lo0 A P M ℓ) {Q : Out → Prop} (fin : ∀ ℓ' h', Lo0 A P M ℓ' → Iv h0 A P M L zs (zs.flatMap fls) h' → Q (.nx ℓ' h')) (D : Ds) (P2 : Res → Prop) (w : ∀ o, Q o → Wp (CL 4) (D.on o) P2) :
    Wp (CL 4) (evF (Cfg.no pt.V) (k + 11 + 300 + 1) (.name 3) (.live L 0) [.forr (.name 4) (.rng1 (.cint 11)) bIn] ℓ h D) P2 := by
  have zl : zs.length = 11 := by rw [pz.length_eq]; rfl
  refine evF_live (all := zs.map IV.int) (J := fun xs ℓ' h' => ∃ dn rs, xs = rs.map IV.int ∧ zs = dn ++ rs ∧ Lo0 A P M ℓ' ∧ Iv h0 A P M L zs (dn.flatMap fls) h') 300 ?_ ?_ ?_ (zs.map IV.int) 0 (k + 11) _ _ (by rw [List.length_map, zl]; omega) rfl ⟨[], zs, rfl, rfl, hl, v⟩ D P2 w
  · rintro xs ℓ' h' ⟨dn, rs, _, _, _, e4⟩
    exact e4.l
  · rintro ℓ' h' ⟨dn, rs, e1, e2, e3, e4⟩
    have : rs = [] := by cases rs with
      | nil => rfl
      | cons _ _ => cases e1
    subst this
    rw [List.append_nil] at e2
    subst e2
    exact fin ℓ' h' e3 e4
  · rintro k2 x rem ℓ' h' ⟨dn, rs, e1, e2, e3, e4⟩
    cases rs with
    | nil => cases e1
    | cons s rs =>
      cases e1
      have hs : s ∈ nums := pz.mem_iff.mp (by rw [e2]; simp)
      have hn : dn.length ≤ 11 := by
        have := congrArg List.length e2
        rw [zl] at this
        simp at this
        omega
      intro k3 P3 hk3
      obtain ⟨o3, o4, o5, o6, o7, o8, o9, o10, rfl⟩ := e3
      simp only [evG, List.set_cons_zero, List.set_cons_succ]
      refine hk3 _ _ ?_
      intro D4 P4 w4
      refine turn1 (k := k2) hs e4 ?_ ⟨o4, o5, o6, o7, o8, o9, o10, rfl⟩ D4 P4 fun o q => w4 o ?_
      · have := flat_len dn
        omega
      · cases o with
        | nx ℓ5 h5 =>
          obtain ⟨q1, q3⟩ := q
          obtain ⟨p4, p5, p6, p7, p8, p9, p10, rfl⟩ := q1
          refine ⟨dn ++ [s], rs, rfl, by rw [e2]; simp, ⟨_, _, _, _, _, _, _, _, rfl⟩, ?_⟩
          rw [List.flatMap_append, List.flatMap_cons, List.flatMap_nil, List.append_nil]
          exact q3
        | ct ℓ5 h5 => exact q.elim
        | bk _ _ => exact q.elim
        | rt _ _ => exact q.elim
        | ex _ _ _ => exact q.elim
end K02
set_option maxRecDepth 100000
set_option maxHeartbeats 4000000
/-! K02q: the plain law, whole. -/
namespace K02
open PySem MP
theorem dct_facts : pairsK [.int 3, .int 1, .int 4, .int 1, .int 5, .int 2, .int 6, .int 1, .int 7, .int 3, .int 8, .int 2] = some pkv ∧ decide (pkv.length ≤ 15) = true ∧ pkv.foldl (fun acc kv => putI acc kv.1 kv.2) [] = pkv := ⟨rfl, rfl, rfl⟩
theorem lr_fact : (decide ((0 : Int) ≤ 11) && decide ((11 : Int) ≤ 16777216)) = true := by decide
theorem lr_rng : rngL 0 (Int.toNat 11) = nums.map IV.int := rfl
/-- the tests behind the walk: what is flat -/
theorem flats_ok {h0 : Hpi} {A P M L : Nat} {zs : List Int} {h : Hpi} {k : Nat} (pz : zs.Perm nums) (v : Iv h0 A P M L zs (zs.flatMap fls) h) {ℓ : MP.Loc} {o1 o2 o3 o4 o5 o6 o7 o8 o9 o10 : Option IV} (hl : ℓ = [o1, o2, some (.ref M), o3, o4, o5, o6, o7, o8, o9, o10]) (kk : KV) (kx : KX) (P2 : Res → Prop)
    (fin : ∀ c h', h'[c]? = some (.lst (three.map ivII)) → Iv h0 A P M L zs (zs.flatMap fls) h' → Wp (CL 4) (kk (.ref c) h') P2) :
    Wp (CL 4) (evE (Cfg.no pt.V) (k + 100) (.comp (.var 5) (.name 5) (.val (.bcall .sorted [.var 2])) [.call 13 [.var 5] [] [0]] [5]) ℓ h kk kx) P2 := by
  subst hl
  have pf : (zs.flatMap fls).Perm floors := pz.flatMap_right fls
  have so := sorted_at v.m pf
  have v1 := (v.app [.lst (floors.map ivII)]).app [.lst []]
  have ea : (h ++ [Cell.lst (floors.map ivII)])[h.length]? = some (.lst (floors.map ivII)) := by simp
  simp only [evE, evI, evL, optT, getSl, List.getElem?_cons_zero, List.getElem?_cons_succ, so, srcIV, ea, wipeL, List.set_cons_zero, List.set_cons_succ]
  have el : (h ++ [Cell.lst (floors.map ivII)]).length = h.length + 1 := by simp
  rw [el]
  rw [show k + 99 = (k + 58) + 40 + 1 by omega]
  refine evC_live1 (all := floors.map ivII) (J := fun xs acc h' => ∃ dn rs, xs = rs.map ivII ∧ floors = dn ++ rs ∧ acc = (dn.filter flp).map ivII ∧ h'[h.length]? = some (.lst (floors.map ivII)) ∧ h'[h.length + 1]? = some (.lst acc) ∧ Iv h0 A P M L zs (zs.flatMap fls) h' ∧ h.length + 1 < h'.length ∧ h0.length ≤ h.length ∧ P < h.length ∧ M < h.length ∧ L < h.length) 40 ?_ ?_ (floors.map ivII) [] 0 (k + 58) _ ?_ (by omega) rfl ?_ _ P2 ?_
  · rintro xs acc h' ⟨dn, rs, e1, e2, e3, e4, e5, e6, _⟩
    refine ⟨e4, ?_⟩
    rw [e3, e1, List.length_map, List.length_map]
    have := List.length_filter_le flp dn
    have h2 := congrArg List.length e2
    rw [List.length_append] at h2
    have : floors.length ≤ 1000 := by decide
    omega
  · rintro k2 x xs acc h' ⟨dn, rs, e1, e2, e3, e4, e5, e6, e7, e8, e9, e10, e11⟩
    cases rs with
    | nil => cases e1
    | cons p rs =>
      cases e1
      obtain ⟨m1, m2, m3⟩ := floors_mem p (by rw [e2]; simp)
      have q := ask_at m1 m2
      unfold ask at q
      rw [m3, if_pos rfl] at q
      simp only [Bool.and_eq_true, decide_eq_true_eq] at q
      obtain ⟨_, q2, _⟩ := q
      intro k3 P3 hk3
      simp only [evG, List.set_cons_zero, List.set_cons_succ]
      refine hk3 _ _ ?_
      intro k4 kx4 P4 hk4 hx4
      simp only [evE, evL, optT, getSl, List.getElem?_cons_zero, List.getElem?_cons_succ, List.length_cons, List.length_nil, Nat.beq_refl, Bool.and_self, List.append_nil, permL]
      refine ⟨_, closed0 (show runOk (rn 4 13 [ivII p] []) [] (.bl (flp p)) = true from q2) rfl, ?_⟩
      rintro r ⟨g, rfl⟩
      dsimp only
      refine hk4 _ _ ⟨flp p, rfl, fun hb => ?_, fun hb => ?_⟩
      · exact ⟨dn ++ [p], rs, rfl, by rw [e2]; simp, by rw [List.filter_append, List.filter_cons_of_neg (by rw [hb]; exact Bool.false_ne_true), List.filter_nil, List.append_nil]; exact e3, at_app e4, at_app e5, e6.app g, by rw [List.length_append]; omega, e8, e9, e10, e11⟩
      · intro k5 kx5 P5 hk5 hx5
        simp only [evE, optT, getSl, List.getElem?_cons_zero, List.getElem?_cons_succ]
        refine hk5 _ _ ⟨at_app e5, dn ++ [p], rs, rfl, by rw [e2]; simp, by rw [List.filter_append, List.filter_cons_of_pos hb, List.filter_nil, List.map_append, e3]; rfl, ?_, get_set (at_app e5), ?_, by rw [List.length_set, List.length_append]; omega, e8, e9, e10, e11⟩
        · rw [List.getElem?_set_ne (by omega)]
          exact at_app e4
        · have v2 := e6.app g
          exact ⟨by rw [List.length_set]; exact v2.le, fun b hb ha => by rw [List.getElem?_set_ne (by omega)]; exact v2.fr b hb ha, by rw [List.getElem?_set_ne (by omega)]; exact v2.p, by rw [List.getElem?_set_ne (by omega)]; exact v2.m, by rw [List.getElem?_set_ne (by omega)]; exact v2.l, v2.ml, v2.mh, v2.few⟩
  · have : floors.length ≤ 40 := by decide
    rw [List.length_map]
    omega
  · refine ⟨[], floors, rfl, rfl, rfl, ?_, ?_, v1, by simp, v.le, (List.getElem?_eq_some_iff.mp v.p).1, (List.getElem?_eq_some_iff.mp v.m).1, (List.getElem?_eq_some_iff.mp v.l).1⟩
    · exact at_app ea
    · rw [List.getElem?_append_right (by simp)]
      simp
  · rintro acc h' ⟨dn, rs, e1, e2, e3, e4, e5, e6, _⟩
    have : rs = [] := by cases rs with
      | nil => rfl
      | cons _ _ => cases e1
    subst this
    rw [List.append_nil] at e2
    subst e2
    rw [three_ok] at e3
    subst e3
    exact fin _ h' e5 e6
/-! ### the odd things -/
def oddL (r : Nat) : List IV := odds1 ++ .ref r :: odds2
theorem odd_turn {h : Hpi} {r : Nat} {x : IV} {k : Nat} (hx : x ∈ oddL r) (hr : h[r]? = some (.lst [.int 5, .int 4])) : CL 4 23 [x] h fun res => ∃ g, res = .ok (.bl true) (h ++ g) := by
  have key : ∀ y ∈ odds1 ++ odds2, CL 4 23 [y] h fun res => ∃ g, res = .ok (.bl true) (h ++ g) := fun y hy => by
    obtain ⟨q1, q2⟩ := band (List.all_eq_true.mp odd1 y hy)
    exact closed0 q2 (by show (rb 0 y && true) = true; rw [q1]; rfl)
  rcases List.mem_append.mp hx with z | z
  · exact key x (List.mem_append_left _ z)
  · rcases List.mem_cons.mp z with z | z
    · subst z
      exact closed (ι := [r]) odd2 (by simp) rfl rfl rfl fun j i c x1 x2 => by
        match j with
        | 0 =>
          cases x1
          cases x2
          exact hr
        | j + 1 => simp at x1
    · exact key x (List.mem_append_right _ z)
theorem right_ok {A : Nat} {h : Hpi} (pa : PailAt h A) : Wp (CL 4) (bodyT pt.V 500 m24 [.ref A] h) fun res => ∃ h', res = .ok (.bl true) h' ∧ h.length ≤ h'.length ∧ ∀ b, b < h.length → b ≠ A → h'[b]? = h[b]? := by
  have s0 : startL m24 [.ref A] = [some (.ref A), none, none, none, none, none, none, none, none, none, none] := rfl
  have la : A < h.length := by obtain ⟨_, _, _, e⟩ := pa; exact (List.getElem?_eq_some_iff.mp e).1
  obtain ⟨pk, pl, pf⟩ := dct_facts
  have sz0 : MP.sizeOk 0 = true := by decide
  refine body_of ?_
  rw [s0]
  refine HB.cons (HS.par2 fun kk kx PP hk hx => ?_)
  simp only [evL, evE, optT, pk, pl, pf, List.length_nil, sz0, if_true]
  refine hk _ _ ?_
  dsimp only [List.set_cons_zero, List.set_cons_succ]
  have e1 : (h ++ [Cell.dct pkv]).length = h.length + 1 := by simp
  have e2 : (h ++ [Cell.dct pkv] ++ [Cell.lst []]).length = h.length + 2 := by simp
  have e3 : (h ++ [Cell.dct pkv] ++ [Cell.lst []] ++ [Cell.lst (nums.map IV.int)]).length = h.length + 3 := by simp
  rw [e1]
  -- the sides
  refine HB.cons (HS.forr (HI.val fun kk kx PP hk hx => ?_))
  have ix : (Int.toNat 11) = 11 := rfl
  simp only [evE, evL, optT, getSl, List.getElem?_cons_zero, List.getElem?_cons_succ, lr_fact, if_true, ix, rng11, e2, List.length_cons, List.length_nil, Nat.beq_refl, Bool.and_self, List.append_nil, permL]
  have pa3 : PailAt (h ++ [Cell.dct pkv] ++ [Cell.lst []] ++ [Cell.lst (nums.map IV.int)]) A := ((pa.app).app).app
  have lc : (h ++ [Cell.dct pkv] ++ [Cell.lst []] ++ [Cell.lst (nums.map IV.int)])[h.length + 2]? = some (.lst (nums.map IV.int)) := by
    rw [List.getElem?_append_right (by rw [e2]; omega), e2]
    simp
  have c20 : CL 4 20 [.ref A, .ref (h.length + 2)] (h ++ [Cell.dct pkv] ++ [Cell.lst []] ++ [Cell.lst (nums.map IV.int)]) _ := .inl (.inr ⟨m20, rfl, rfl, 100, shuf_ok (deal_c 2) pa3 lc (by decide)⟩)
  refine ⟨_, c20, ?_⟩
  rintro r ⟨h2, ys, rfl, y1, y2, y3, y4, y5⟩
  rw [e3] at y1 y4 y5 ⊢
  obtain ⟨zs, rfl, pz⟩ := ints_of y2
  dsimp only
  have sr : srcIV (.ref (h.length + 3 + 1)) h2 = some (.live (h.length + 3 + 1) 0) := by simp only [srcIV, y1]
  have v0 : Iv h A h.length (h.length + 1) (h.length + 3 + 1) zs [] h2 := by
    refine ⟨by omega, fun b hb ha => ?_, ?_, ?_, y1, by omega, by omega, by simp⟩
    · rw [y5 b (by omega) ha, List.append_assoc, List.append_assoc, List.getElem?_append_left hb]
    · rw [y5 _ (by omega) (by omega), List.append_assoc, List.append_assoc, List.getElem?_append_right (by omega)]
      simp
    · rw [y5 _ (by omega) (by omega), List.append_assoc, List.append_assoc, List.getElem?_append_right (by omega)]
      simp
  refine hk _ _ ⟨_, sr, fun D P2 w => ?_⟩
  refine sides_ok (k := 185) pz v0 ⟨_, _, _, _, _, _, _, _, rfl⟩ (fun ℓ' h' l' v' => ?_) D P2 w
  clear hk hx w
  obtain ⟨o3, o4, o5, o6, o7, o8, o9, o10, rfl⟩ := l'
  dsimp only
  -- what is flat
  refine HB.cons (HS.asg fun kk kx PP hk hx => ?_)
  refine flats_ok (k := 396) pz v' rfl kk kx PP fun c h5 c1 v5 => ?_
  refine hk _ _ fun k2 P2 hk2 => ?_
  simp only [evG, List.set_cons_zero, List.set_cons_succ]
  refine hk2 _ _ ?_
  clear hk hx hk2
  -- the first test
  refine HB.cons (HS.ifs fun kk kx PP hk hx => ?_)
  have pfl : (zs.flatMap fls).Perm floors := pz.flatMap_right fls
  have so := sorted_at v5.m pfl
  have pn : permL ([] : List IV) [] = some [] := rfl
  simp only [evE, evL, optT, getSl, List.getElem?_cons_zero, List.getElem?_cons_succ, so, List.length_nil, Nat.beq_refl, Bool.and_self, List.append_nil, pn]
  refine ⟨_, closedL (h := h5 ++ [.lst (floors.map ivII)]) floors_ok rfl, ?_⟩
  rintro r ⟨b, g, rfl, b1, b2⟩
  have q1 : (h5 ++ [Cell.lst (floors.map ivII)] ++ g)[h5.length]? = some (.lst (floors.map ivII)) := by
    rw [List.append_assoc, List.getElem?_append_right (Nat.le_refl _)]
    simp
  have ne1 : cmpIV .ne (.ref h5.length) (.ref b) (h5 ++ [Cell.lst (floors.map ivII)] ++ g) = some false := by
    simp only [cmpIV, eq_ls q1 b2 floors_rb floors_rb, floors_eq]
    rfl
  have v6 := (v5.app [Cell.lst (floors.map ivII)]).app g
  have c2 : (h5 ++ [Cell.lst (floors.map ivII)] ++ g)[c]? = some (.lst (three.map ivII)) := at_app (at_app c1)
  simp only [ne1, truIV]
  generalize h5 ++ [Cell.lst (floors.map ivII)] ++ g = h6 at v6 c2 ⊢
  have sz2 : MP.sizeOk 2 = true := by decide
  have sz3 : MP.sizeOk 3 = true := by decide
  have th : [IV.tup [IV.int 3, IV.int 6], IV.tup [IV.int 4, IV.int 4], IV.tup [IV.int 6, IV.int 3]] = three.map ivII := rfl
  have q2 : (h6 ++ [Cell.lst (three.map ivII)])[h6.length]? = some (.lst (three.map ivII)) := by simp
  have ne2 : cmpIV .ne (.ref c) (.ref h6.length) (h6 ++ [Cell.lst (three.map ivII)]) = some false := by
    simp only [cmpIV, eq_ls (at_app c2) q2 three_rb three_rb, three_eq]
    rfl
  simp only [sz2, sz3, List.length_cons, Nat.zero_add, if_true, th, ne2]
  refine hk _ _ ⟨_, rfl, (fun z => by cases z), fun _ => ?_⟩
  clear hk hx
  refine HB.nil ?_
  have v7 := v6.app [Cell.lst (three.map ivII)]
  generalize h6 ++ [Cell.lst (three.map ivII)] = h7 at v7 ⊢
  -- the odd things
  refine HB.cons (HS.asg fun kk kx PP hk hx => ?_)
  have sz1 : MP.sizeOk 1 = true := by decide
  have sz13 : MP.sizeOk 13 = true := by decide
  simp only [evE, evL, optT, List.length_cons, List.length_nil, Nat.zero_add, sz0, sz1, sz2, sz3, sz13, if_true]
  refine hk _ _ fun k2 P2 hk2 => ?_
  simp only [evG, List.set_cons_zero, List.set_cons_succ]
  refine hk2 _ _ ?_
  clear hk hx hk2
  have n1 : (h7 ++ [Cell.lst [IV.int 5, IV.int 4]]).length = h7.length + 1 := by simp
  rw [n1]
  have l13 : [IV.non, IV.bl true, IV.int 54, IV.str (Str.ofString "54"), IV.tup [], IV.tup [IV.int 5], IV.tup [IV.int 5, IV.int 4, IV.int 4], IV.ref h7.length, IV.tup [IV.int 5, IV.non], IV.tup [IV.str (Str.ofString "5"), IV.int 4], IV.tup [IV.int 5, IV.str (Str.ofString "4")], IV.tup [IV.bl true, IV.int 8], IV.tup [IV.int 8, IV.bl true]] = odds1 ++ IV.ref h7.length :: odds2.take 5 := rfl
  rw [l13]
  have n2 : (h7 ++ [Cell.lst [IV.int 5, IV.int 4]] ++ [Cell.lst (odds1 ++ IV.ref h7.length :: odds2.take 5)]).length = h7.length + 2 := by simp
  have l2 : [IV.tup [IV.tup [IV.int 5, IV.int 4]], IV.tup [IV.int (-5), IV.int (-4)]] = odds2.drop 5 := rfl
  -- the walk over them
  refine HB.cons (HS.forr (HI.val fun kk kx PP hk hx => ?_))
  have g1 : (h7 ++ [Cell.lst [IV.int 5, IV.int 4]] ++ [Cell.lst (odds1 ++ IV.ref h7.length :: odds2.take 5)] ++ [Cell.lst (odds2.drop 5)])[h7.length + 1]? = some (.lst (odds1 ++ IV.ref h7.length :: odds2.take 5)) := by
    rw [List.getElem?_append_left (by rw [n2]; omega), List.getElem?_append_right (by rw [n1]; omega), n1]
    simp
  have g2 : (h7 ++ [Cell.lst [IV.int 5, IV.int 4]] ++ [Cell.lst (odds1 ++ IV.ref h7.length :: odds2.take 5)] ++ [Cell.lst (odds2.drop 5)])[h7.length + 2]? = some (.lst (odds2.drop 5)) := by
    rw [List.getElem?_append_right (by rw [n2]; omega), n2]
    simp
  have g0 : (h7 ++ [Cell.lst [IV.int 5, IV.int 4]] ++ [Cell.lst (odds1 ++ IV.ref h7.length :: odds2.take 5)] ++ [Cell.lst (odds2.drop 5)])[h7.length]? = some (.lst [IV.int 5, IV.int 4]) := by
    rw [List.append_assoc, List.append_assoc, List.getElem?_append_right (Nat.le_refl _)]
    simp
  have n3 : (h7 ++ [Cell.lst [IV.int 5, IV.int 4]] ++ [Cell.lst (odds1 ++ IV.ref h7.length :: odds2.take 5)] ++ [Cell.lst (odds2.drop 5)]).length = h7.length + 3 := by simp
  have ladd : odds1 ++ IV.ref h7.length :: odds2.take 5 ++ odds2.drop 5 = oddL h7.length := rfl
  have szs : MP.sizeOk ((odds1 ++ IV.ref h7.length :: odds2.take 5).length + (odds2.drop 5).length) = true := by
    rw [show (odds1 ++ IV.ref h7.length :: odds2.take 5).length + (odds2.drop 5).length = 15 from rfl]
    decide
  have ad : binIV .add (.ref (h7.length + 1)) (.ref (h7.length + 2)) (h7 ++ [Cell.lst [IV.int 5, IV.int 4]] ++ [Cell.lst (odds1 ++ IV.ref h7.length :: odds2.take 5)] ++ [Cell.lst (odds2.drop 5)]) = some (.ref (h7.length + 3), h7 ++ [Cell.lst [IV.int 5, IV.int 4]] ++ [Cell.lst (odds1 ++ IV.ref h7.length :: odds2.take 5)] ++ [Cell.lst (odds2.drop 5)] ++ [.lst (oddL h7.length)]) := by
    simp only [binIV, g1, g2, szs, if_true, n3, ladd]
  simp only [evE, evL, optT, getSl, List.getElem?_cons_zero, List.getElem?_cons_succ, List.length_cons, List.length_nil, Nat.zero_add, sz1, sz2, if_true, l2, n2, ad]
  have v8 := (((v7.app [Cell.lst [IV.int 5, IV.int 4]]).app [Cell.lst (odds1 ++ IV.ref h7.length :: odds2.take 5)]).app [Cell.lst (odds2.drop 5)]).app [Cell.lst (oddL h7.length)]
  have g0' := at_app (g := [Cell.lst (oddL h7.length)]) g0
  have g3 : (h7 ++ [Cell.lst [IV.int 5, IV.int 4]] ++ [Cell.lst (odds1 ++ IV.ref h7.length :: odds2.take 5)] ++ [Cell.lst (odds2.drop 5)] ++ [Cell.lst (oddL h7.length)])[h7.length + 3]? = some (.lst (oddL h7.length)) := by
    rw [List.getElem?_append_right (by rw [n3]; omega), n3]
    simp
  generalize h7 ++ [Cell.lst [IV.int 5, IV.int 4]] ++ [Cell.lst (odds1 ++ IV.ref h7.length :: odds2.take 5)] ++ [Cell.lst (odds2.drop 5)] ++ [Cell.lst (oddL h7.length)] = h8 at v8 g0' g3 ⊢
  have sr8 : srcIV (.ref (h7.length + 3)) h8 = some (.live (h7.length + 3) 0) := by simp only [srcIV, g3]
  refine hk _ _ ⟨_, sr8, fun D P2 w => ?_⟩
  clear hk hx
  refine evF_live (all := oddL h7.length) (J := fun xs ℓ' h' => (∀ x ∈ xs, x ∈ oddL h7.length) ∧ h'[h7.length]? = some (.lst [IV.int 5, IV.int 4]) ∧ h'[h7.length + 3]? = some (.lst (oddL h7.length)) ∧ Iv h A h.length (h.length + 1) (h.length + 3 + 1) zs (zs.flatMap fls) h' ∧ ∃ q0 q1 q2 q3 q4 q5 q6 q7 q8 q9 q10, ℓ' = [q0, q1, q2, q3, q4, q5, q6, q7, q8, q9, q10]) 92 ?_ ?_ ?_ (oddL h7.length) 0 400 _ _ (by show 15 ≤ 400; decide) rfl ⟨fun x hx => hx, g0', g3, v8, _, _, _, _, _, _, _, _, _, _, _, rfl⟩ D P2 w
  · rintro xs ℓ' h' ⟨_, _, z, _⟩
    exact z
  · rintro ℓ' h' ⟨_, _, _, v9, q0, q1, q2, q3, q4, q5, q6, q7, q8, q9, q10, rfl⟩
    dsimp only
    refine HB.cons (HS.ret fun kk kx PP hk hx => ?_)
    simp only [evE]
    exact hk _ _ ⟨h', rfl, v9.le, v9.fr⟩
  · rintro k2 x xs ℓ' h' ⟨j1, j2, j3, j4, q0, q1, q2, q3, q4, q5, q6, q7, q8, q9, q10, rfl⟩
    intro k3 P3 hk3
    simp only [evG, List.set_cons_zero, List.set_cons_succ]
    refine hk3 _ _ ?_
    refine HB.cons (HS.ifs fun kk kx PP hk hx => ?_)
    simp only [evE, evL, optT, getSl, List.getElem?_cons_zero, List.getElem?_cons_succ, List.length_cons, List.length_nil, Nat.beq_refl, Bool.and_self, List.append_nil, permL]
    refine ⟨_, odd_turn (k := 0) (j1 x List.mem_cons_self) j2, ?_⟩
    rintro r ⟨g, rfl⟩
    simp only [truIV]
    refine hk _ _ ⟨_, rfl, (fun z => by cases z), fun _ => ?_⟩
    exact HB.nil (HB.nil ⟨fun x hx => j1 x (List.mem_cons_of_mem _ hx), at_app j2, at_app j3, j4.app g, _, _, _, _, _, _, _, _, _, _, _, rfl⟩)
theorem all_snoc : ∀ {acc : List IV}, allBl acc = some true → allBl (acc ++ [.bl true]) = some true
  | [], _ => rfl
  | x :: acc, e => by
    cases x with
    | bl b =>
      simp only [allBl] at e
      cases e2 : allBl acc with
      | none => rw [e2] at e; cases e
      | some c =>
        rw [e2] at e
        have e : (b && c) = true := Option.some.inj e
        obtain ⟨rfl, rfl⟩ := band e
        simp only [List.cons_append, allBl, all_snoc e2]
        rfl
    | _ => cases e
theorem rng_mem : ∀ (n : Nat) (lo : Nat), ∀ x ∈ rngL (lo : Int) n, ∃ t : Nat, x = .int (t : Int)
  | 0, _, _, h => absurd h (by simp [rngL])
  | n + 1, lo, x, h => by
    rcases List.mem_cons.mp h with e | e
    · exact ⟨lo, e⟩
    · exact rng_mem n (lo + 1) x (by rw [Int.natCast_add]; exact e)
section
variable {C : CSp} {F : Cfg} {n : Nat} {ℓ : MP.Loc} {h : Hpi}
theorem HE.bcall {b : Bi} {es : List ME} {Q : IV → Hpi → Prop} {X : Exn → Hpi → Prop} (hl : HL C F n es ℓ h (fun vs h1 => ∃ r, biIV b vs h1 = some r ∧ Q r.1 r.2) X) : HE C F (n + 1) (.bcall b es) ℓ h Q X := fun k kx P hk hx =>
  hl _ _ P (fun vs h1 ⟨r, e, q⟩ => by
    show Wp C (optT (biIV b vs h1) _) P
    rw [e]
    exact hk _ _ q) hx
theorem HL.one {e : ME} {Q : List IV → Hpi → Prop} {X : Exn → Hpi → Prop} (he : HE C F (n + 1) e ℓ h (fun v h1 => Q [v] h1) X) : HL C F (n + 2) [e] ℓ h Q X := fun k kx P hk hx =>
  he _ _ P (fun v h1 q => hk _ _ q) hx
theorem HE.comp {elt : ME} {tg : MT} {it : MI} {ifs : List ME} {own : List Nat} {Q : IV → Hpi → Prop} {X : Exn → Hpi → Prop}
    (hi : HI C F n it ℓ h (fun s h1 => ∀ (kk : KV) (P : Res → Prop), (∀ v h2, Q v h2 → Wp C (kk v h2) P) → Wp C (evC F n elt tg s ifs own (wipeL ℓ own) h1.length (h1 ++ [.lst []]) kk) P) X) : HE C F (n + 1) (.comp elt tg it ifs own) ℓ h Q X := fun k kx P hk hx =>
  hi _ _ P (fun s h1 q => q k P hk) hx
end
/-- the law -/
theorem plain (ns : List Int) (hn : ns.length ≤ 63) : RunsL pt.T0 pt.T pt.V 20 6 lawIx [.kls (ns.map .int)] [] fun r => ∃ h, r = .ok (.bl true) h := by
  refine .inr ⟨m25, rfl, rfl, 200, ?_⟩
  have s0 : startL m25 [.kls (ns.map .int)] = [some (.kls (ns.map .int)), none] := rfl
  refine body_of ?_
  rw [s0]
  obtain ⟨t, ht, e1, e2⟩ : ∃ t : Nat, t ≤ 2 ∧ biIV .min [.int (ns.length : Int), .int 2] [] = some (.int (if (2 : Int) < ns.length then 2 else ns.length), []) ∧ biIV .max [.int 1, .int (if (2 : Int) < ns.length then 2 else ns.length)] [] = some (.int (t : Int), []) := by
    by_cases c : (2 : Int) < ns.length
    · rw [if_pos c]
      exact ⟨2, by omega, by simp only [biIV, if_pos c], rfl⟩
    · rw [if_neg c]
      by_cases c1 : (1 : Int) < ns.length
      · exact ⟨ns.length, by omega, by simp only [biIV, if_neg c], by simp only [biIV, if_pos c1]⟩
      · exact ⟨1, by omega, by simp only [biIV, if_neg c], by
          simp only [biIV]
          rw [if_neg (show ¬ ((ns.length : Int) > 1) from c1)]
          rfl⟩
  have e3 : rngIV (.int 0) (.int (t : Int)) = some (.its (rngL 0 t)) := by
    have o1 : okR 0 = true := by decide
    have o2 : okR (t : Int) = true := by
      unfold okR
      rw [decide_eq_true (by omega), decide_eq_true (by omega)]; rfl
    simp only [rngIV, o1, o2, Bool.and_self, if_true, Int.sub_zero, Int.toNat_natCast]
  have e0 : lenIV (.kls (ns.map IV.int)) [] = some ns.length := by simp only [lenIV, List.length_map]
  have e0' : biIV .len [.kls (ns.map IV.int)] [] = some (.int (ns.length : Int), []) := by simp only [biIV, e0]
  refine HB.cons (HS.ret (HE.bcall (HL.one (HE.comp (HI.rng1 fun kk kx PP hk hx => ?_)))))
  simp only [evE, evL, optT, getSl, List.getElem?_cons_zero, List.getElem?_cons_succ, e0', e1, e2]
  refine hk _ _ ⟨_, e3, fun k0 P0 hk0 => ?_⟩
  clear hk hx
  simp only [wipeL, List.set_cons_zero, List.set_cons_succ, List.length_nil, List.nil_append]
  refine evC_its (J := fun xs acc h' => (∀ x ∈ xs, ∃ n : Nat, x = .int (n : Int)) ∧ h'[0]? = some (.lst acc) ∧ allBl acc = some true ∧ acc.length + xs.length ≤ 2) 100 ?_ ?_ (rngL 0 t) [] 94 _ ?_ (by omega) ?_ _ P0 ?_
  · rintro xs acc h' ⟨_, j2, _, j4⟩
    exact ⟨j2, by omega⟩
  · rintro k x xs acc h' ⟨j1, j2, j3, j4⟩
    obtain ⟨n, rfl⟩ := j1 x List.mem_cons_self
    intro k3 P3 hk3
    simp only [evG, List.set_cons_zero, List.set_cons_succ]
    refine hk3 _ _ ?_
    intro k4 kx4 P4 hk4 hx4
    have l0 : 0 < h'.length := (List.getElem?_eq_some_iff.mp j2).1
    simp only [evE, evL, optT, getSl, List.getElem?_cons_zero, List.getElem?_cons_succ, List.length_cons, List.length_nil, Nat.beq_refl, Bool.and_self, List.append_nil, permL]
    refine ⟨_, .inl (.inr ⟨m18, rfl, rfl, 100, pail_ok (c1 := 1903126) (c2 := 11185) (t := n) (okMul_l (by decide) (by decide)) hn⟩), ?_⟩
    rintro r ⟨g, p, q, rfl⟩
    simp only [List.length_cons, List.length_nil, Nat.beq_refl, Bool.and_self, List.append_nil, permL, optT, List.getElem?_cons_zero]
    have pa : PailAt (h' ++ [g, Cell.lst [.int p, .int q, .int 0]]) (h'.length + 1) := ⟨p, q, 0, by
      rw [List.getElem?_append_right (by omega)]
      simp⟩
    refine ⟨_, .inl (.inr ⟨m24, rfl, rfl, 500, right_ok pa⟩), ?_⟩
    rintro r ⟨h5, rfl, f1, f2⟩
    dsimp only
    have f3 := f2 0 (by simp) (by omega)
    rw [List.getElem?_append_left l0, j2] at f3
    refine hk4 _ _ ⟨f3, fun x hx => j1 x (List.mem_cons_of_mem _ hx), get_set f3, all_snoc j3, ?_⟩
    simp at j4 ⊢
    omega
  · rw [rngL_len]
    omega
  · refine ⟨rng_mem t 0, rfl, rfl, ?_⟩
    rw [rngL_len]
    simp
    omega
  · rintro acc h' ⟨_, j2, j3, _⟩
    have ea : biIV .all [.ref 0] h' = some (.bl true, h') := by simp only [biIV, lstIV, j2, j3]
    exact hk0 _ _ ⟨_, ea, h', rfl⟩
end K02
set_option maxRecDepth 100000
set_option maxHeartbeats 0
open PySem PySem.W PySem.Calls PyProof.Rows
theorem PySem.Challenge.cw_carryfloors_k02_whole_floors_and_degrees_holds : PySem.Challenge.rw_carryfloors_k02_whole_floors_and_degrees.Holds := by
  w_on; o_law
  refine HandSHeadRun.head_any (r := OpenLaw.row PySem.Challenge.rw_carryfloors_k02_whole_floors_and_degrees) (q := view (OpenLaw.row PySem.Challenge.rw_carryfloors_k02_whole_floors_and_degrees).prog [K02.lawTop]) (H := K02.hk) (ob := K02.ob) (M := 40000) (loose := K02.names) (d := HandSHeadRun.topDef (OpenLaw.row PySem.Challenge.rw_carryfloors_k02_whole_floors_and_degrees).prog K02.lawTop) (kwd := []) K02.ob_eq
    (by kernel_rfl) (fun s => by kernel_rfl) K02.run (by kernel_rfl) (by kernel_rfl) (by kernel_rfl) (by rfl) (by first | assumption | decide +kernel) (by decide +kernel) ⟨rfl, rfl, rfl, rfl, rfl, by decide +kernel⟩ ?hw ?hc
  case hw => w_witness2
  case hc =>
    exact MP.end_by (t := K02.pt) (l := PySem.Challenge.rw_carryfloors_k02_whole_floors_and_degrees) (d0 := 20) (n := 6) (lx := K02.lawIx) (dl := K02.d25) (x := "script") rfl rfl (by kernel_rfl) (by kernel_rfl) (by kernel_rfl) rfl (by decide) K02.chk K02.patOk K02.hlpOk ⟨⟨rfl, by decide, by decide⟩, fun _ => rfl⟩ K02.plain
