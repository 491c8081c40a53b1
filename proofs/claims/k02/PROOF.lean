import PyProof.Rows.All
import HandS.ForMost
import HandS.TupLe
import PyProof.Rows.StrMul
import HandS.ForExc
import HandS.TryMany
import HandS.ExcInit
import HandS.ExcField
import HandS.CallSlots
import HandS.Wide
import HandS.Gcd
import HandS.IsInst
import HandS.SortInts
import HandS.Strs
import HandS.Conv
import HandS.Flow
import HandS.TupAny
import HandS.TupMul
import HandS.TryOnly
import HandS.Iter
import HandS.Zip
import HandS.Rev
import HandS.SetFor
import HandS.ExcIs
import HandS.Style
import HandS.WordsExc
import HandS.More
import HandS.Defaults
import HandS.Head0
import HandS.Head1
import HandS.Head2
import HandS.HeadEnd
import HandS.HeadHook1
import HandS.HeadHook2
import PySem.Challenge.RW_tropicbench_k02_products_and_powers
section
set_option Elab.async false
set_option linter.all false
/-! A small language, its data and its evaluator: what a program of the seat computes, over data trees and a local heap. -/
namespace TB
open PySem

/-- a dict's key -/
abbrev Ky := Sum Int Str
/-- data: trees that nobody changes any more; ref n: the n-th cell of the local heap; exc: the exception that a suite handles -/
inductive D where
  | non | bl (b : Bool) | int (i : Int) | str (s : Str) | ref (n : Nat)
  | lst (ds : List D) | tup (ds : List D) | dct (ks : List Ky) (ds : List D)
  | exc (c : Nat) (fs : List D)
instance : Inhabited D := ⟨.non⟩
/-- a cell: a list, a dict that may be changed; a list that may be read; nothing that may be asked for -/
inductive O where
  | lst (ds : List D) | dct (ks : List Ky) (ds : List D) | ro (ds : List D) | gone
abbrev Lh := List O
abbrev Env := List (Option D)
inductive Rs (α : Type) where
  | ok (a : α) (h : Lh) | exc (c : Nat) (fs : List D) (h : Lh) | stuck
def Rs.bind {α β : Type} (r : Rs α) (k : α → Lh → Rs β) : Rs β := match r with
  | .ok a h => k a h
  | .exc c fs h => .exc c fs h
  | .stuck => .stuck
def rsO {α : Type} (o : Option α) (h : Lh) : Rs α := match o with
  | some a => .ok a h
  | none => .stuck

/-! ### data -/
mutual
def D.bindRef (f : Nat → Option D) : D → Option D
  | .non => some .non
  | .bl b => some (.bl b)
  | .int i => some (.int i)
  | .str s => some (.str s)
  | .ref n => f n
  | .lst ds => (bindRefs f ds).map .lst
  | .tup ds => (bindRefs f ds).map .tup
  | .dct ks ds => (bindRefs f ds).map (.dct ks)
  | .exc _ _ => none
def bindRefs (f : Nat → Option D) : List D → Option (List D)
  | [] => some []
  | d :: ds => (d.bindRef f).bind fun d' => (bindRefs f ds).map (d' :: ·)
end
/-- the tree that a cell is over a heap -/
def thawF (h : Lh) : Nat → Nat → Option D
  | 0, _ => none
  | n + 1, k => match h[k]? with
    | some (.lst ds) => (bindRefs (thawF h n) ds).map .lst
    | some (.dct ks ds) => (bindRefs (thawF h n) ds).map (.dct ks)
    | _ => none
/-- the tree that a value is over a heap -/
def thaw (h : Lh) (n : Nat) (d : D) : Option D := d.bindRef (thawF h n)
abbrev deep : Nat := 8
mutual
def D.nref : D → Bool
  | .ref _ => false
  | .lst ds => nrefs ds
  | .tup ds => nrefs ds
  | .dct _ ds => nrefs ds
  | .exc _ _ => false
  | _ => true
def nrefs : List D → Bool
  | [] => true
  | d :: ds => d.nref && nrefs ds
end
/-- the items of a list (false) or a tuple (true) -/
def vw (h : Lh) : D → Option (Bool × List D)
  | .lst ds => some (false, ds)
  | .tup ds => some (true, ds)
  | .ref n => match h[n]? with
    | some (.lst ds) => some (false, ds)
    | some (.ro ds) => some (false, ds)
    | _ => none
  | _ => none
/-- the same of what is no list that may only be read -/
def vm (h : Lh) : D → Option (Bool × List D)
  | .lst ds => some (false, ds)
  | .tup ds => some (true, ds)
  | .ref n => match h[n]? with
    | some (.lst ds) => some (false, ds)
    | _ => none
  | _ => none
/-- a dict's keys and values -/
def vd (h : Lh) : D → Option (List Ky × List D)
  | .dct ks ds => some (ks, ds)
  | .ref n => match h[n]? with
    | some (.dct ks ds) => some (ks, ds)
    | _ => none
  | _ => none
def lim : Nat := 1000000
def truth (h : Lh) (d : D) : Option Bool := match d with
  | .non => some false
  | .bl b => some b
  | .int i => some (i != 0)
  | .str s => if s.length ≤ lim then some (s.length != 0) else none
  | d => match vw h d with
    | some (_, ds) => some (!ds.isEmpty)
    | none => none
mutual
def D.py : D → Option PyData
  | .non => some .none
  | .bl b => some (.bool b)
  | .int i => some (.int i)
  | .str s => some (.str s)
  | .lst ds => (pys ds).map .list
  | .tup ds => (pys ds).map .tuple
  | _ => none
def pys : List D → Option (List PyData)
  | [] => some []
  | d :: ds => d.py.bind fun p => (pys ds).map (p :: ·)
end
def flat : D → Bool
  | .non => true
  | .bl _ => true
  | .int _ => true
  | .str _ => true
  | _ => false
def asInt : D → Option Int
  | .int i => some i
  | _ => none
def asBl : D → Option Bool
  | .bl b => some b
  | _ => none
def intsOf : List D → Option (List Int)
  | [] => some []
  | d :: ds => (asInt d).bind fun i => (intsOf ds).map (i :: ·)
def bls : List D → Option (List Bool)
  | [] => some []
  | d :: ds => (asBl d).bind fun i => (bls ds).map (i :: ·)
def b2i (b : Bool) : Int := if b then 1 else 0
/-- equality of scalars -/
def eqS : D → D → Bool
  | .non, .non => true
  | .bl a, .bl b => a == b
  | .bl a, .int j => b2i a == j
  | .int i, .bl b => i == b2i b
  | .int i, .int j => i == j
  | .str x, .str y => x == y
  | _, _ => false
/-- a key -/
def keyOf : D → Option Ky
  | .int i => some (.inl i)
  | .str s => some (.inr s)
  | _ => none
def keyD : Ky → D
  | .inl i => .int i
  | .inr s => .str s
def look : List Ky → List D → Ky → Option D
  | k :: ks, d :: ds, q => if q = k then some d else look ks ds q
  | _, _, _ => none

/-! ### operations -/
/-- a value, or a list that is to be made -/
inductive P where
  | v (d : D) | l (ds : List D) | d (ks : List Ky) (ds : List D)
/-- fz: it is made as a tree that is never changed; else as a cell -/
def P.put (fz : Bool) (h : Lh) : P → D × Lh
  | .v x => (x, h)
  | .l ds => if fz then (.lst ds, h) else (.ref h.length, h ++ [.lst ds])
  | .d ks ds => if fz then (.dct ks ds, h) else (.ref h.length, h ++ [.dct ks ds])
def fin (fz : Bool) (o : Option P) (h : Lh) : Rs D := match o with
  | some p => .ok (p.put fz h).1 (p.put fz h).2
  | none => .stuck

inductive Bop | add | sub | mul | fdiv | mod | pow | shl | shr | band | bor
  deriving DecidableEq
inductive Cop | eq | ne | lt | le | gt | ge | is | isn | in_ | nin
  deriving DecidableEq
def okMul (i j : Int) : Bool := decide (i.natAbs < 2 ^ 64) || decide (j.natAbs < 2 ^ 64) || decide (i.natAbs.log2 + j.natAbs.log2 ≤ 900000)
def okDiv (j : Int) : Bool := decide (j.natAbs < 1073741824 ∧ j ≠ 0) || decide (0 < j ∧ j.natAbs.log2 < 9000)
def okPow (i j : Int) : Bool := decide (0 ≤ j ∧ j ≤ 1000000 ∧ i.natAbs < 2 ^ 64)
def repl (ds : List D) : Nat → List D
  | 0 => []
  | n + 1 => ds ++ repl ds n
def bop (h : Lh) : Bop → D → D → Option P
  | .add, .int i, .int j => some (.v (.int (i + j)))
  | .add, .str a, .str b => if a.length + b.length ≤ lim then some (.v (.str (a ++ b))) else none
  | .add, x, y => match vm h x, vm h y with
    | some (false, a), some (false, b) => if a.length + b.length ≤ lim then some (.l (a ++ b)) else none
    | some (true, a), some (true, b) => if a.length + b.length ≤ lim then some (.v (.tup (a ++ b))) else none
    | _, _ => none
  | .sub, .int i, .int j => some (.v (.int (i - j)))
  | .sub, .bl a, .bl b => some (.v (.int (b2i a - b2i b)))
  | .mul, .int i, .int j => if okMul i j then some (.v (.int (i * j))) else none
  | .mul, .str s, .int j => if s.length ≤ 16 ∧ 0 ≤ j ∧ j ≤ 1000 then some (.v (.str (Txt.mul s j))) else none
  | .mul, x, .int j => if (decide (-1000000 ≤ j ∧ j ≤ 1000000)) then match vm h x with
      | some (false, a) => if a.length * j.toNat ≤ lim then some (.l (repl a j.toNat)) else none
      | some (true, a) => if !a.isEmpty ∧ 2 ≤ j ∧ j ≤ 1000 ∧ a.length ≤ 1000 then some (.v (.tup (repl a j.toNat))) else none
      | none => none
    else none
  | .fdiv, .int i, .int j => if okDiv j then some (.v (.int (i.fdiv j))) else none
  | .mod, .int i, .int j => if j ≠ 0 then some (.v (.int (i.fmod j))) else none
  | .pow, .int i, .int j => if okPow i j then some (.v (.int (i ^ j.toNat))) else none
  | .shl, .int i, .int j => if okPow i j then some (.v (.int (i * 2 ^ j.toNat))) else none
  | .shr, .int i, .int j => if 0 ≤ j then some (.v (.int (i / 2 ^ j.toNat))) else none
  | .band, .int i, .int j => some (.v (.int (Builtin.bitAnd i j)))
  | .bor, .int i, .int j => some (.v (.int (Builtin.bitOr i j)))
  | _, _, _ => none
/-- two lists of unlike lengths -/
def unlike (h : Lh) (x y : D) : Bool := match vm h x, vm h y with
  | some (false, a), some (false, b) => a.length != b.length
  | _, _ => false
def eqD (h : Lh) (x y : D) : Option Bool := if unlike h x y then some false else match thaw h deep x, thaw h deep y with
  | some a, some b => match a.py, b.py with
    | some p, some q => if SeqAt.shaped p && SeqAt.shaped q then some (PyData.eqv p q) else none
    | _, _ => none
  | _, _ => none
def inD (h : Lh) (x y : D) : Option Bool := match vd h y with
  | some (ks, _) => match keyOf x with
    | some k => some (ks.any fun q => decide (q = k))
    | none => none
  | none => match y with
    | .str t => match x with
      | .str s => some (!(Builtin.Str.occurrences t s 0 t.length 1).isEmpty)
      | _ => none
    | y => match vw h y with
      | some (_, ds) => if flat x && ds.all flat then some (ds.any fun z => eqS z x) else none
      | none => none
def isNon : D → Bool
  | .non => true
  | _ => false
def isD : D → D → Option Bool
  | x, .non => some (isNon x)
  | .bl a, .bl b => some (a == b)
  | _, _ => none
/-- tuples of whole numbers, from the first unlike pair on -/
def lxT (r : Int → Int → Bool) (z : Nat → Nat → Bool) (ns ms : List Int) : Bool := Ob.lexAt (fun j => decide (ns.getD j 0 = ms.getD j 0)) (fun j => r (ns.getD j 0) (ms.getD j 0)) (z ns.length ms.length) 0 (min ns.length ms.length)
def lxO (r : Int → Int → Bool) (z : Nat → Nat → Bool) (a b : List D) : Option Bool := match intsOf a, intsOf b with
  | some ns, some ms => some (lxT r z ns ms)
  | _, _ => none
def cop (h : Lh) : Cop → D → D → Option Bool
  | .eq, x, y => eqD h x y
  | .ne, x, y => (eqD h x y).map (!·)
  | .lt, .int i, .int j => some (decide (i < j))
  | .le, .int i, .int j => some (decide (i ≤ j))
  | .gt, .int i, .int j => some (decide (j < i))
  | .ge, .int i, .int j => some (decide (j ≤ i))
  | .lt, .tup a, .tup b => lxO (fun i j => decide (i < j)) (fun n m => decide (n < m)) a b
  | .gt, .tup a, .tup b => lxO (fun i j => decide (j < i)) (fun n m => decide (n > m)) a b
  | .is, x, y => isD x y
  | .isn, x, y => (isD x y).map (!·)
  | .in_, x, y => inD h x y
  | .nin, x, y => (inD h x y).map (!·)
  | _, _, _ => none

/-! ### places -/
/-- a place as Python counts it -/
def place (i : Int) (n : Nat) : Option Nat := if 0 ≤ i then (if i < n then some i.toNat else none) else if -(n : Int) ≤ i then some (i + n).toNat else none
def okIx (i : Int) : Bool := decide (-(2 ^ 62) ≤ i ∧ i < 2 ^ 62)
def sIx (n d : Nat) : Option Int → Nat
  | none => d
  | some v => if v < 0 then (v + (n : Int)).toNat else min v.toNat n
def cutL {α : Type} (xs : List α) (lo hi : Option Int) : List α := (xs.drop (sIx xs.length 0 lo)).take (sIx xs.length xs.length hi - sIx xs.length 0 lo)
def item (h : Lh) (x i : D) : Option D := match vd h x with
  | some (ks, ds) => match keyOf i with
    | some k => look ks ds k
    | none => none
  | none => match i with
    | .int i => if okIx i then match vw h x with
      | some (_, ds) => match place i ds.length with
        | some k => ds[k]?
        | none => none
      | none => match x with
        | .str s => if s.length ≤ lim then match place i s.length with
            | some k => match s.cps.toList[k]? with
              | some c => some (.str ⟨#[c]⟩)
              | none => none
            | none => none
          else none
        | _ => none
      else none
    | _ => none
def bound : Option D → Option (Option Int)
  | none => some none
  | some (.int i) => some (some i)
  | _ => none
def slice (h : Lh) (x : D) (a b : Option Int) : Option P := match vw h x with
  | some (false, ds) => some (.l (cutL ds a b))
  | some (true, ds) => some (.v (.tup (cutL ds a b)))
  | none => match x with
    | .str s => if s.length ≤ lim then some (.v (.str ⟨((s.cps.toList.drop (sIx s.length 0 a)).take (sIx s.length s.length b - sIx s.length 0 a)).toArray⟩)) else none
    | _ => none

/-! ### built-in functions -/
inductive Bi | len | abs | max | min | max2 | min2 | sum | sorted | list | tuple | int | str | all | any | gcd | lenset | sortset | rlist
  deriving DecidableEq
def maxI : Int → List Int → Int
  | m, [] => m
  | m, i :: r => maxI (if i > m then i else m) r
def minI : Int → List Int → Int
  | m, [] => m
  | m, i :: r => minI (if i < m then i else m) r
def insI (i : Int) : List Int → List Int
  | [] => [i]
  | j :: r => if i ≤ j then i :: j :: r else j :: insI i r
def sortI : List Int → List Int
  | [] => []
  | i :: r => insI i (sortI r)
def dedI : List Int → List Int
  | [] => []
  | i :: r => if i ∈ r then dedI r else i :: dedI r
def okRng (i : Int) : Bool := decide (-1000000 ≤ i ∧ i ≤ 1000000)
def upto (lo : Int) : Nat → List D
  | 0 => []
  | n + 1 => .int lo :: upto (lo + 1) n
def lenF (h : Lh) (x : D) : Option P := match vw h x with
  | some (_, ds) => some (.v (.int ds.length))
  | none => match vd h x with
    | some (ks, _) => some (.v (.int ks.length))
    | none => match x with
      | .str s => if s.length ≤ lim then some (.v (.int s.length)) else none
      | _ => none
def absF : D → Option P
  | .int i => some (.v (.int (if i < 0 then -i else i)))
  | _ => none
def max2F : D → D → Option P
  | .int i, .int j => some (.v (.int (if j > i then j else i)))
  | _, _ => none
def min2F : D → D → Option P
  | .int i, .int j => some (.v (.int (if j < i then j else i)))
  | _, _ => none
/-- of a list of whole numbers -/
def intsF (h : Lh) (F : List Int → Option P) (x : D) : Option P := match vw h x with
  | some (false, ds) => match intsOf ds with
    | some is => F is
    | none => none
  | _ => none
def blsF (h : Lh) (F : List Bool → Bool) (x : D) : Option P := match vw h x with
  | some (false, ds) => match bls ds with
    | some is => some (.v (.bl (F is)))
    | none => none
  | _ => none
def seqF (h : Lh) (F : List D → P) (x : D) : Option P := match vw h x with
  | some (_, ds) => some (F ds)
  | none => none
def intF : D → Option P
  | .int i => some (.v (.int i))
  | .bl b => some (.v (.int (if b then 1 else 0)))
  | _ => none
def strF : D → Option P
  | .int i => if i.natAbs.log2 < 1920 then some (.v (.str (toString i))) else none
  | _ => none
def setF (h : Lh) (F : List Int → P) (x : D) : Option P := match vw h x with
  | some (_, ds) => if ds.length ≤ 4000 then match intsOf ds with
      | some is => some (F is)
      | none => none
    else none
  | none => none
def rlistF : D → Option P
  | .int n => if okRng n then some (.l (upto 0 n.toNat)) else none
  | _ => none
def gcdF : D → D → Option P
  | .int i, .int j => some (.v (.int (Int.gcd i j)))
  | _, _ => none
def maxF : List Int → Option P
  | i :: r => some (.v (.int (maxI i r)))
  | [] => none
def minF : List Int → Option P
  | i :: r => some (.v (.int (minI i r)))
  | [] => none
def one (F : D → Option P) : List D → Option P
  | [x] => F x
  | _ => none
def two (F : D → D → Option P) : List D → Option P
  | [x, y] => F x y
  | _ => none
def bfn (h : Lh) : Bi → List D → Option P
  | .len => one (lenF h)
  | .abs => one absF
  | .max2 => two max2F
  | .min2 => two min2F
  | .max => one (intsF h maxF)
  | .min => one (intsF h minF)
  | .sum => one (intsF h fun is => some (.v (.int is.sum)))
  | .sorted => one (intsF h fun is => some (.l ((sortI is).map .int)))
  | .list => one (seqF h .l)
  | .tuple => one (seqF h fun ds => .v (.tup ds))
  | .int => one intF
  | .str => one strF
  | .all => one (blsF h fun bs => bs.all id)
  | .any => one (blsF h fun bs => bs.any id)
  | .gcd => two gcdF
  | .lenset => one (setF h fun is => .v (.int (dedI is).length))
  | .sortset => one (setF h fun is => .l ((sortI (dedI is)).map .int))
  | .rlist => one rlistF

/-! ### methods: what they hand back and the cell that they change -/
inductive Me | append | pop | popAt | extend | insert
  deriving DecidableEq
/-- of a cell's list: the value, the list behind -/
def meL (h : Lh) : Me → List D → List D → Option (D × List D)
  | .append, ds, [x] => if ds.length < lim then some (.non, ds ++ [x]) else none
  | .pop, ds, [] => match ds.getLast? with
    | some x => some (x, ds.dropLast)
    | none => none
  | .popAt, ds, [.int i] => if okIx i then match place i ds.length with
      | some k => match ds[k]? with
        | some x => some (x, ds.eraseIdx k)
        | none => none
      | none => none
    else none
  | .extend, ds, [x] => match vm h x with
    | some (false, es) => if ds.length + es.length ≤ lim then some (.non, ds ++ es) else none
    | _ => none
  | _, _, _ => none
def met (h : Lh) (m : Me) (x : D) (as : List D) : Rs D := match x with
  | .ref n => match h[n]? with
    | some (.lst ds) => match meL h m ds as with
      | some (d, ds') => .ok d (h.set n (.lst ds'))
      | none => .stuck
    | _ => .stuck
  | _ => .stuck
/-- x[i] = v -/
def setIx (h : Lh) (x i v : D) : Option Lh := match x with
  | .ref n => match h[n]? with
    | some (.lst ds) => match i with
      | .int i => if okIx i then match place i ds.length with
          | some k => some (h.set n (.lst (ds.set k v)))
          | none => none
        else none
      | _ => none
    | _ => none
  | _ => none

/-! ### kinds -/
inductive Ty | int | bool | str | list | tuple | dict
  deriving DecidableEq
def isTy (h : Lh) (t : Ty) (d : D) : Option Bool := match d with
  | .non => some false
  | .bl _ => some (t == .bool || t == .int)
  | .int _ => some (t == .int)
  | .str _ => some (t == .str)
  | .exc _ _ => none
  | d => match vw h d with
    | some (false, _) => some (t == .list)
    | some (true, _) => some (t == .tuple)
    | none => match vd h d with
      | some _ => some (t == .dict)
      | none => none
def isTys (h : Lh) : List Ty → D → Option Bool
  | [], _ => some false
  | t :: ts, d => match isTy h t d with
    | some true => some true
    | some false => isTys h ts d
    | none => none
end TB

end

section
set_option Elab.async false
set_option linter.all false
namespace TB
open PySem

/-- how a def is called: over the heap at hand; on its own, tree in, tree out; the same with a cell lent as the first argument; over trees of cells, a scalar out -/
inductive Cm | inl | pure | box | snap
  deriving DecidableEq
mutual
inductive E
  | var (i : Nat) | cst (d : D)
  | bin (o : Bop) (fz : Bool) (a b : E) | neg (a : E)
  | cmp (o : Cop) (a b : E) | chn (o p : Cop) (a b c : E)
  | and (a b : E) | or (a b : E) | not (a : E) | ite (c a b : E)
  | lst (fz : Bool) (es : Es) | tup (es : Es) | dct (fz : Bool) (ks : List Ky) (vs : Es)
  | ix (a i : E) | slc (fz : Bool) (a : E) (lo hi : Eo)
  | call (m : Cm) (f : Nat) (es : Es) (pm : List Nat)
  | bi (b : Bi) (fz : Bool) (es : Es) | bi1 (b : Bi) (fz : Bool) (a : E) | me (m : Me) (o : E) (es : Es)
  | isi (ts : List Ty) (a : E) | isx (i c : Nat) | fld (i f : Nat)
  | comp (fz : Bool) (own : List Nat) (t : Tg) (it : It) (c : Eo) (e : E)
inductive Es
  | nil | cons (e : E) (es : Es)
inductive Eo
  | no | so (e : E)
inductive It
  | ex (e : E) | r1 (a : E) | r2 (a b : E) | r3 (a b c : E) | zip (a b : E) | enu (a : E) | rev (a : E) | ks (i : Nat)
inductive Tg
  | nm (i : Nat) | tp (ts : Tgs) | sub (a i : E)
inductive Tgs
  | nil | cons (t : Tg) (ts : Tgs)
end
mutual
inductive S
  | ex (e : E) | asg (t : Tg) (e : E) | par (is : List Nat) (es : Es) | ret (e : E) | ret0
  | ite (c : E) (a b : Ss) | whl (c : E) (b : Ss) | fr (t : Tg) (it : It) (b : Ss)
  | rse (c : Nat) (es : Es) | tr (b : Ss) (hs : Hs) | pas | brk | cnt
inductive Ss
  | nil | cons (s : S) (ss : Ss)
inductive Hs
  | nil | cons (c : Nat) (i : Option Nat) (b : Ss) (hs : Hs)
end

structure Cx where
  call : Nat → List D → Lh → Rs D
  loop : Nat
  /-- c is a class below k -/
  sub : Nat → Nat → Bool

/-! ### what is walked -/
inductive Sr
  | seq (d : D) | rng (lo st : Int) (n : Nat) | zip (a b : D) | enu (d : D) | rev (d : D) | keys (ks : List Ky)
def Sr.len (h : Lh) : Sr → Option Nat
  | .keys ks => some ks.length
  | .seq d => (vw h d).map fun p => p.2.length
  | .rng _ _ n => some n
  | .zip a b => match vw h a, vw h b with
    | some (_, xs), some (_, ys) => if xs.length = ys.length then some xs.length else none
    | _, _ => none
  | .enu d => match vw h d with
    | some (false, ds) => some ds.length
    | _ => none
  | .rev d => (vw h d).map fun p => p.2.length
def Sr.at (h : Lh) (i : Nat) : Sr → Option D
  | .keys ks => (ks[i]?).map keyD
  | .seq d => (vw h d).bind fun p => p.2[i]?
  | .rng lo st _ => some (.int (lo + i * st))
  | .zip a b => match vw h a, vw h b with
    | some (_, xs), some (_, ys) => match xs[i]?, ys[i]? with
      | some x, some y => some (.tup [x, y])
      | _, _ => none
    | _, _ => none
  | .enu d => (vw h d).bind fun p => (p.2[i]?).map fun x => .tup [.int i, x]
  | .rev d => (vw h d).bind fun p => p.2[p.2.length - 1 - i]?
/-- turns: n in all, k to come -/
def turns {α : Type} (src : Sr) (step : D → α → Lh → Rs α) (n : Nat) : Nat → α → Lh → Rs α
  | 0, a, h => if src.len h = some n then .ok a h else .stuck
  | k + 1, a, h => if src.len h = some n then match src.at h (n - (k + 1)) with
      | some d => (step d a h).bind fun a h => turns src step n k a h
      | none => .stuck
    else .stuck
def noexc {α : Type} : Rs α → Rs α
  | .exc _ _ _ => .stuck
  | r => r
def wipe (σ : Env) : List Nat → Env
  | [] => σ
  | v :: vs => (wipe σ vs).set v none

/-! ### calls -/
def thaws (h : Lh) : List D → Option (List D)
  | [] => some []
  | d :: ds => (thaw h deep d).bind fun x => (thaws h ds).map (x :: ·)
def arrange (vs : List D) : List Nat → Option (List D)
  | [] => some []
  | i :: is => (vs[i]?).bind fun v => (arrange vs is).map (v :: ·)
def callPure (c : Nat → List D → Lh → Rs D) (f : Nat) (as : List D) (h : Lh) : Rs D :=
  if nrefs as then match c f as [] with
    | .ok d h1 => match thaw h1 deep d with
      | some d' => .ok d' h
      | none => .stuck
    | .exc k fs h1 => match thaws h1 fs with
      | some fs' => .exc k fs' h
      | none => .stuck
    | .stuck => .stuck
  else .stuck
def callBox (c : Nat → List D → Lh → Rs D) (f : Nat) (as : List D) (h : Lh) : Rs D := match as with
  | .ref b :: rest => if nrefs rest then match h[b]? with
      | some (.lst ds) => if nrefs ds then match c f (.ref 0 :: rest) [.lst ds] with
          | .ok d (.lst ds' :: h1) => if nrefs ds' then match thaw (.gone :: h1) deep d with
              | some d' => .ok d' (h.set b (.lst ds'))
              | none => .stuck
            else .stuck
          | .exc k fs (.lst ds' :: h1) => if nrefs ds' then match thaws (.gone :: h1) fs with
              | some fs' => .exc k fs' (h.set b (.lst ds'))
              | none => .stuck
            else .stuck
          | _ => .stuck
        else .stuck
      | _ => .stuck
    else .stuck
  | _ => .stuck
def callSnap (c : Nat → List D → Lh → Rs D) (f : Nat) (as : List D) (h : Lh) : Rs D := match thaws h as with
  | some as' => match c f as' [] with
    | .ok d _ => if flat d then .ok d h else .stuck
    | _ => .stuck
  | none => .stuck
def callM (cx : Cx) (m : Cm) (f : Nat) (as : List D) (h : Lh) : Rs D := match m with
  | .inl => cx.call f as h
  | .pure => callPure cx.call f as h
  | .box => callBox cx.call f as h
  | .snap => callSnap cx.call f as h

def getV (σ : Env) (i : Nat) : Option D := match σ[i]? with
  | some (some (.exc _ _)) => none
  | some (some d) => some d
  | _ => none
mutual
def E.ev (cx : Cx) (σ : Env) : E → Lh → Rs D
  | .var i, h => rsO (getV σ i) h
  | .cst d, h => .ok d h
  | .bin o fz a b, h => (a.ev cx σ h).bind fun x h => (b.ev cx σ h).bind fun y h => fin fz (bop h o x y) h
  | .neg a, h => (a.ev cx σ h).bind fun x h => match x with
    | .int i => .ok (.int (-i)) h
    | _ => .stuck
  | .cmp o a b, h => (a.ev cx σ h).bind fun x h => (b.ev cx σ h).bind fun y h => rsO ((cop h o x y).map .bl) h
  | .chn o p a b c, h => (a.ev cx σ h).bind fun x h => (b.ev cx σ h).bind fun y h => match cop h o x y with
    | some true => (c.ev cx σ h).bind fun z h => rsO ((cop h p y z).map .bl) h
    | some false => .ok (.bl false) h
    | none => .stuck
  | .and a b, h => (a.ev cx σ h).bind fun x h => match truth h x with
    | some true => b.ev cx σ h
    | some false => .ok x h
    | none => .stuck
  | .or a b, h => (a.ev cx σ h).bind fun x h => match truth h x with
    | some true => .ok x h
    | some false => b.ev cx σ h
    | none => .stuck
  | .not a, h => (a.ev cx σ h).bind fun x h => rsO ((truth h x).map fun b => .bl (!b)) h
  | .ite c a b, h => (c.ev cx σ h).bind fun x h => match truth h x with
    | some true => a.ev cx σ h
    | some false => b.ev cx σ h
    | none => .stuck
  | .lst fz es, h => (es.ev cx σ h).bind fun xs h => if xs.length ≤ lim then fin fz (some (.l xs)) h else .stuck
  | .tup es, h => (es.ev cx σ h).bind fun xs h => if xs.length ≤ lim then .ok (.tup xs) h else .stuck
  | .dct fz ks vs, h => (vs.ev cx σ h).bind fun ys h => if ks.length = ys.length then fin fz (some (.d ks ys)) h else .stuck
  | .ix a i, h => (a.ev cx σ h).bind fun x h => (i.ev cx σ h).bind fun y h => rsO (item h x y) h
  | .slc fz a lo hi, h => (a.ev cx σ h).bind fun x h => (lo.ev cx σ h).bind fun y h => match bound y with
    | some b => (hi.ev cx σ h).bind fun z h => (match bound z with
      | some c => fin fz (slice h x b c) h
      | none => .stuck)
    | none => .stuck
  | .call m f es pm, h => (es.ev cx σ h).bind fun xs h => match arrange xs pm with
    | some as => callM cx m f as h
    | none => .stuck
  | .bi b fz es, h => (es.ev cx σ h).bind fun xs h => fin fz (bfn h b xs) h
  | .bi1 b fz a, h => (a.ev cx σ h).bind fun x h => fin fz (bfn h b [x]) h
  | .me m o es, h => (o.ev cx σ h).bind fun x h => match vm h x with
    | some (false, _) => (es.ev cx σ h).bind fun ys h => met h m x ys
    | _ => .stuck
  | .isi ts a, h => (a.ev cx σ h).bind fun x h => rsO ((isTys h ts x).map .bl) h
  | .isx i c, h => match σ[i]? with
    | some (some (.exc k _)) => .ok (.bl (cx.sub k c)) h
    | _ => .stuck
  | .fld i f, h => match σ[i]? with
    | some (some (.exc _ fs)) => rsO (fs[f]?) h
    | _ => .stuck
  | .comp fz own t it c e, h => (it.ev cx σ h).bind fun src h => match src.len h with
    | some n => if n ≤ lim then
        (turns src (fun d acc h => noexc ((t.as cx (wipe σ own) d h).bind fun σ2 h => (c.ev cx σ2 h).bind fun b h => match b with
          | some b => (match truth h b with
            | some true => (e.ev cx σ2 h).bind fun x h => .ok (acc ++ [x]) h
            | some false => .ok acc h
            | none => .stuck)
          | none => (e.ev cx σ2 h).bind fun x h => .ok (acc ++ [x]) h)) n n [] h).bind fun ds h => fin fz (some (.l ds)) h
      else .stuck
    | none => .stuck
def Es.ev (cx : Cx) (σ : Env) : Es → Lh → Rs (List D)
  | .nil, h => .ok [] h
  | .cons e es, h => (e.ev cx σ h).bind fun x h => (es.ev cx σ h).bind fun xs h => .ok (x :: xs) h
def Eo.ev (cx : Cx) (σ : Env) : Eo → Lh → Rs (Option D)
  | .no, h => .ok none h
  | .so e, h => (e.ev cx σ h).bind fun x h => .ok (some x) h
def It.ev (cx : Cx) (σ : Env) : It → Lh → Rs Sr
  | .ex e, h => (e.ev cx σ h).bind fun x h => .ok (.seq x) h
  | .r1 a, h => (a.ev cx σ h).bind fun x h => match x with
    | .int j => if okRng j then .ok (.rng 0 1 j.toNat) h else .stuck
    | _ => .stuck
  | .r2 a b, h => (a.ev cx σ h).bind fun x h => (b.ev cx σ h).bind fun y h => match x, y with
    | .int i, .int j => if okRng i && okRng j then .ok (.rng i 1 (j - i).toNat) h else .stuck
    | _, _ => .stuck
  | .r3 a b c, h => (a.ev cx σ h).bind fun x h => (b.ev cx σ h).bind fun y h => (c.ev cx σ h).bind fun z h => match x, y, z with
    | .int i, .int j, .int k => if decide (k = -1) && (okRng i && okRng j) then .ok (.rng i (-1) (i - j).toNat) h else .stuck
    | _, _, _ => .stuck
  | .zip a b, h => (a.ev cx σ h).bind fun x h => (b.ev cx σ h).bind fun y h => .ok (.zip x y) h
  | .enu a, h => (a.ev cx σ h).bind fun x h => .ok (.enu x) h
  | .rev a, h => (a.ev cx σ h).bind fun x h => .ok (.rev x) h
  | .ks i, h => match getV σ i with
    | some (.dct ks _) => .ok (.keys ks) h
    | _ => .stuck
def Tg.as (cx : Cx) (σ : Env) : Tg → D → Lh → Rs Env
  | .nm i, d, h => .ok (σ.set i (some d)) h
  | .tp ts, d, h => match vw h d with
    | some (_, ds) => ts.as cx σ ds h
    | none => .stuck
  | .sub a i, d, h => (a.ev cx σ h).bind fun x h => (i.ev cx σ h).bind fun y h => match setIx h x y d with
    | some h' => .ok σ h'
    | none => .stuck
def Tgs.as (cx : Cx) (σ : Env) : Tgs → List D → Lh → Rs Env
  | .nil, [], h => .ok σ h
  | .cons t ts, d :: ds, h => (t.as cx σ d h).bind fun σ h => ts.as cx σ ds h
  | _, _, _ => .stuck
end
end TB

end

section
set_option Elab.async false
set_option linter.all false
namespace TB
open PySem

inductive Fl
  | nx (σ : Env) | rt (d : D) | bk (σ : Env) | ct (σ : Env)
/-- a statement's end: an exception with the slots as they stand -/
inductive Rf
  | ok (f : Fl) (h : Lh) | exc (c : Nat) (fs : List D) (σ : Env) (h : Lh) | stuck
/-- an expression's end in a statement -/
def Rs.at {α : Type} (r : Rs α) (σ : Env) (k : α → Lh → Rf) : Rf := match r with
  | .ok a h => k a h
  | .exc c fs h => .exc c fs σ h
  | .stuck => .stuck
def Rf.then (r : Rf) (k : Env → Lh → Rf) : Rf := match r with
  | .ok (.nx σ) h => k σ h
  | r => r
/-- a loop's turn: next and continue go on, break ends -/
def Rf.turn (r : Rf) (k : Env → Lh → Rf) : Rf := match r with
  | .ok (.nx σ) h => k σ h
  | .ok (.ct σ) h => k σ h
  | .ok (.bk σ) h => .ok (.nx σ) h
  | r => r
def whl (test : Env → Lh → Rs Bool) (body : Env → Lh → Rf) : Nat → Env → Lh → Rf
  | 0, _, _ => .stuck
  | n + 1, σ, h => (test σ h).at σ fun b h => match b with
    | true => (body σ h).turn fun σ h => whl test body n σ h
    | false => .ok (.nx σ) h
/-- a for's turns: n in all, k to come -/
def fors (src : Sr) (step : D → Env → Lh → Rf) (n : Nat) : Nat → Env → Lh → Rf
  | 0, σ, h => if src.len h = some n then .ok (.nx σ) h else .stuck
  | k + 1, σ, h => if src.len h = some n then match src.at h (n - (k + 1)) with
      | some d => (step d σ h).turn fun σ h => fors src step n k σ h
      | none => .stuck
    else .stuck
def setAll (σ : Env) : List Nat → List D → Option Env
  | [], [] => some σ
  | i :: is, d :: ds => setAll (σ.set i (some d)) is ds
  | _, _ => none
mutual
def S.ev (cx : Cx) : S → Env → Lh → Rf
  | .ex e, σ, h => (e.ev cx σ h).at σ fun _ h => .ok (.nx σ) h
  | .asg t e, σ, h => (e.ev cx σ h).at σ fun d h => (noexc (t.as cx σ d h)).at σ fun σ' h => .ok (.nx σ') h
  | .par is es, σ, h => (es.ev cx σ h).at σ fun ds h => match setAll σ is ds with
    | some σ' => .ok (.nx σ') h
    | none => .stuck
  | .ret e, σ, h => (e.ev cx σ h).at σ fun d h => .ok (.rt d) h
  | .ret0, σ, h => .ok (.rt .non) h
  | .ite c a b, σ, h => (c.ev cx σ h).at σ fun x h => match truth h x with
    | some true => a.ev cx σ h
    | some false => b.ev cx σ h
    | none => .stuck
  | .whl c b, σ, h => TB.whl (fun σ h => (c.ev cx σ h).bind fun x h => rsO (truth h x) h) (fun σ h => b.ev cx σ h) cx.loop σ h
  | .fr t it b, σ, h => (it.ev cx σ h).at σ fun src h => match src.len h with
    | some n => fors src (fun d σ h => (noexc (t.as cx σ d h)).at σ fun σ h => b.ev cx σ h) n n σ h
    | none => .stuck
  | .rse c es, σ, h => (es.ev cx σ h).at σ fun ds h => .exc c ds σ h
  | .tr b hs, σ, h => match b.ev cx σ h with
    | .exc c fs σ h => hs.ev cx c fs σ h
    | r => r
  | .pas, σ, h => .ok (.nx σ) h
  | .brk, σ, h => .ok (.bk σ) h
  | .cnt, σ, h => .ok (.ct σ) h
def Ss.ev (cx : Cx) : Ss → Env → Lh → Rf
  | .nil, σ, h => .ok (.nx σ) h
  | .cons s ss, σ, h => (s.ev cx σ h).then fun σ h => ss.ev cx σ h
def Hs.ev (cx : Cx) (c : Nat) (fs : List D) : Hs → Env → Lh → Rf
  | .nil, σ, h => .exc c fs σ h
  | .cons k i b hs, σ, h => if cx.sub c k then (match i with
      | some i => (match b.ev cx (σ.set i (some (.exc c fs))) h with
        | .ok (.nx σ) h => .ok (.nx (σ.set i none)) h
        | .ok (.bk σ) h => .ok (.bk (σ.set i none)) h
        | .ok (.ct σ) h => .ok (.ct (σ.set i none)) h
        | .ok (.rt d) h => .ok (.rt d) h
        | _ => .stuck)
      | none => (match b.ev cx σ h with
        | .ok f h => .ok f h
        | _ => .stuck))
    else hs.ev cx c fs σ h
end
/-- a def: parameters, slots, body -/
structure Fd where
  np : Nat
  ns : Nat
  body : Ss
structure Pg where
  fds : List Fd
  loop : Nat
  sub : Nat → Nat → Bool
def startE (ns : Nat) (as : List D) : Env := as.map some ++ List.replicate (ns - as.length) none
def Rf.res : Rf → Rs D
  | .ok (.rt d) h => .ok d h
  | .ok (.nx _) h => .ok .non h
  | .exc c fs _ h => .exc c fs h
  | _ => .stuck
def run (p : Pg) : Nat → Nat → List D → Lh → Rs D
  | 0, _, _, _ => .stuck
  | n + 1, f, as, h => match p.fds[f]? with
    | some fd => if as.length = fd.np then (fd.body.ev ⟨run p n, p.loop, p.sub⟩ (startE fd.ns as) h).res else .stuck
    | none => .stuck
end TB

end

section
set_option Elab.async false
set_option linter.all false
set_option maxHeartbeats 1000000
namespace TB
open PySem L2

abbrev Frag := PySem.W.Frag
abbrev Av := Addr → Prop

/-! ### values over the abstract heap -/
/-- u stands at a (a dict may be locked meanwhile) -/
def At (H : Hp) (a : Addr) : HO → Prop
  | .dK kvs => Rd H a (.dK kvs)
  | u => H a = some u
mutual
/-- the datum d is the value x over H: trees stand apart from Av and from the cells α -/
inductive Rep (A : Av) (α : List Addr) (H : Hp) : D → L2.V → Prop
  | non : Rep A α H .non .non
  | bl (b : Bool) : Rep A α H (.bl b) (.bl b)
  | int (i : Int) : Rep A α H (.int i) (.int i)
  | str (s : Str) : Rep A α H (.str s) (.str s)
  | ref {n : Nat} {a : Addr} : α[n]? = some a → Rep A α H (.ref n) (.ref a)
  | lst {ds : List D} {a : Addr} {xs : List L2.V} : a ∉ α → ¬ A a → At H a (.lst xs) → Reps A α H ds xs → Rep A α H (.lst ds) (.ref a)
  | tup {ds : List D} {a : Addr} {xs : List L2.V} : a ∉ α → ¬ A a → At H a (.tup xs) → Reps A α H ds xs → Rep A α H (.tup ds) (.ref a)
  | dct {ks : List Ky} {ds : List D} {a : Addr} {kvs : List (L2.Key × L2.V)} : a ∉ α → ¬ A a → At H a (.dK kvs) → kvs.map (·.1) = ks → Reps A α H ds (kvs.map (·.2)) → Rep A α H (.dct ks ds) (.ref a)
inductive Reps (A : Av) (α : List Addr) (H : Hp) : List D → List L2.V → Prop
  | nil : Reps A α H [] []
  | cons {d : D} {x : L2.V} {ds : List D} {xs : List L2.V} : Rep A α H d x → Reps A α H ds xs → Reps A α H (d :: ds) (x :: xs)
end

mutual
theorem Rep.imp {A A' : Av} {α α' : List Addr} {H H' : Hp} (hr : ∀ (n : Nat) (a : Addr), α[n]? = some a → α'[n]? = some a) (hk : ∀ a u, a ∉ α → ¬ A a → At H a u → a ∉ α' ∧ ¬ A' a ∧ At H' a u) :
    ∀ {d : D} {x : L2.V}, Rep A α H d x → Rep A' α' H' d x
  | _, _, .non => .non
  | _, _, .bl b => .bl b
  | _, _, .int i => .int i
  | _, _, .str s => .str s
  | _, _, .ref h => .ref (hr _ _ h)
  | _, _, .lst h1 h2 h3 h4 => let ⟨a, b, c⟩ := hk _ _ h1 h2 h3; .lst a b c (Reps.imp hr hk h4)
  | _, _, .tup h1 h2 h3 h4 => let ⟨a, b, c⟩ := hk _ _ h1 h2 h3; .tup a b c (Reps.imp hr hk h4)
  | _, _, .dct h1 h2 h3 h4 h5 => let ⟨a, b, c⟩ := hk _ _ h1 h2 h3; .dct a b c h4 (Reps.imp hr hk h5)
theorem Reps.imp {A A' : Av} {α α' : List Addr} {H H' : Hp} (hr : ∀ (n : Nat) (a : Addr), α[n]? = some a → α'[n]? = some a) (hk : ∀ a u, a ∉ α → ¬ A a → At H a u → a ∉ α' ∧ ¬ A' a ∧ At H' a u) :
    ∀ {ds : List D} {xs : List L2.V}, Reps A α H ds xs → Reps A' α' H' ds xs
  | _, _, .nil => .nil
  | _, _, .cons h t => .cons (Rep.imp hr hk h) (Reps.imp hr hk t)
end
section
variable {A : Av} {α : List Addr} {H : Hp}
theorem Reps.length {ds : List D} {xs : List L2.V} (h : Reps A α H ds xs) : ds.length = xs.length := by
  induction ds generalizing xs with
  | nil => cases h; rfl
  | cons d ds ih => cases h with | cons a b => simp [ih b]
theorem Reps.get {ds : List D} {xs : List L2.V} (h : Reps A α H ds xs) {i : Nat} {d : D} (e : ds[i]? = some d) : ∃ x, xs[i]? = some x ∧ Rep A α H d x := by
  induction ds generalizing xs i with
  | nil => simp at e
  | cons d0 ds ih =>
    cases h with
    | cons a b =>
      cases i with
      | zero => simp at e; subst e; exact ⟨_, rfl, a⟩
      | succ i => simpa using ih b (by simpa using e)
theorem Reps.get' {ds : List D} {xs : List L2.V} (h : Reps A α H ds xs) {i : Nat} {x : L2.V} (e : xs[i]? = some x) : ∃ d, ds[i]? = some d ∧ Rep A α H d x := by
  have hl := h.length
  have hi : i < xs.length := (List.getElem?_eq_some_iff.mp e).1
  obtain ⟨y, e2, r⟩ := h.get (i := i) (d := ds[i]'(by omega)) (by simp)
  rw [e] at e2; cases e2
  exact ⟨_, by simp, r⟩
theorem Reps.append {ds es : List D} {xs ys : List L2.V} (h : Reps A α H ds xs) (k : Reps A α H es ys) : Reps A α H (ds ++ es) (xs ++ ys) := by
  induction ds generalizing xs with
  | nil => cases h; exact k
  | cons d ds ih => cases h with | cons a b => exact .cons a (ih b)
theorem Reps.one {d : D} {x : L2.V} (h : Rep A α H d x) : Reps A α H [d] [x] := .cons h .nil
theorem Reps.take {ds : List D} {xs : List L2.V} (h : Reps A α H ds xs) (n : Nat) : Reps A α H (ds.take n) (xs.take n) := by
  induction n generalizing ds xs with
  | zero => exact .nil
  | succ n ih =>
    cases h with
    | nil => exact .nil
    | cons a b => exact .cons a (ih b)
theorem Reps.drop {ds : List D} {xs : List L2.V} (h : Reps A α H ds xs) (n : Nat) : Reps A α H (ds.drop n) (xs.drop n) := by
  induction n generalizing ds xs with
  | zero => exact h
  | succ n ih =>
    cases h with
    | nil => exact .nil
    | cons a b => exact ih b
theorem Reps.set {ds : List D} {xs : List L2.V} {d : D} {x : L2.V} (h : Reps A α H ds xs) (r : Rep A α H d x) (n : Nat) : Reps A α H (ds.set n d) (xs.set n x) := by
  induction n generalizing ds xs with
  | zero =>
    cases h with
    | nil => exact .nil
    | cons a b => exact .cons r b
  | succ n ih =>
    cases h with
    | nil => exact .nil
    | cons a b => exact .cons a (ih b)
theorem Reps.eraseIdx {ds : List D} {xs : List L2.V} (h : Reps A α H ds xs) (n : Nat) : Reps A α H (ds.eraseIdx n) (xs.eraseIdx n) := by
  induction n generalizing ds xs with
  | zero =>
    cases h with
    | nil => exact .nil
    | cons a b => exact b
  | succ n ih =>
    cases h with
    | nil => exact .nil
    | cons a b => exact .cons a (ih b)
theorem Reps.dropLast {ds : List D} {xs : List L2.V} (h : Reps A α H ds xs) : Reps A α H ds.dropLast xs.dropLast := by
  rw [List.dropLast_eq_take, List.dropLast_eq_take, h.length]
  exact h.take _
end

/-! ### the local heap -/
/-- the cell o at a -/
def Ob (A : Av) (α : List Addr) (H : Hp) (a : Addr) : O → Prop
  | .lst ds => ∃ xs, H a = some (.lst xs) ∧ Reps A α H ds xs
  | .dct ks ds => ∃ kvs, H a = some (.dK kvs) ∧ kvs.map (·.1) = ks ∧ Reps A α H ds (kvs.map (·.2))
  | .ro ds => ∃ xs, Rd H a (.lst xs) ∧ Reps A α H ds xs
  | .gone => ∃ o, H a = some o
structure HRel (A : Av) (α : List Addr) (h : Lh) (H : Hp) : Prop where
  len : α.length = h.length
  nd : α.Nodup
  av : ∀ a, A a → a ∉ α ∧ ∃ o, H a = some o
  at_ : ∀ (i : Nat) (o : O), h[i]? = some o → ∃ a, α[i]? = some a ∧ Ob A α H a o
/-- what a run may do: new cells, the old cells changed, all else as it was -/
structure Ext (α : List Addr) (H : Hp) (α' : List Addr) (H' : Hp) : Prop where
  pre : ∃ l, α' = α ++ l
  new : ∀ b, b ∈ α' → b ∉ α → H b = none
  keep : ∀ a o, H a = some o → a ∉ α → H' a = some o
section
variable {A : Av} {α α' α'' : List Addr} {h h' : Lh} {H H' H'' : Hp}
theorem Ext.refl : Ext α H α H := ⟨⟨[], by simp⟩, fun b h n => absurd h n, fun _ _ e _ => e⟩
theorem Ext.get (e : Ext α H α' H') {n : Nat} {a : Addr} (g : α[n]? = some a) : α'[n]? = some a := by
  obtain ⟨l, rfl⟩ := e.pre
  rw [List.getElem?_append_left (List.getElem?_eq_some_iff.mp g).1]; exact g
theorem Ext.mem (e : Ext α H α' H') {a : Addr} (g : a ∈ α) : a ∈ α' := by
  obtain ⟨l, rfl⟩ := e.pre
  exact List.mem_append_left _ g
theorem Ext.out (e : Ext α H α' H') {a : Addr} {o : HO} (q : H a = some o) (n : a ∉ α) : a ∉ α' := fun hm => by
  have := e.new a hm n
  rw [q] at this; cases this
theorem Ext.trans (e : Ext α H α' H') (f : Ext α' H' α'' H'') : Ext α H α'' H'' := by
  refine ⟨?_, fun b hb n => ?_, fun a o q n => ?_⟩
  · obtain ⟨l, rfl⟩ := e.pre
    obtain ⟨l', rfl⟩ := f.pre
    exact ⟨l ++ l', by simp⟩
  · by_cases hb' : b ∈ α'
    · exact e.new b hb' n
    · have q := f.new b hb hb'
      cases r : H b with
      | none => rfl
      | some o => rw [e.keep b o r n] at q; cases q
  · exact f.keep a o (e.keep a o q n) (e.out q n)
theorem Rd.ex {a : Addr} {u : HO} (r : Rd H a u) : ∃ o, H a = some o := by
  rcases r with r | ⟨o, r⟩
  · exact ⟨_, r⟩
  · exact ⟨_, r⟩
theorem At.ex {a : Addr} {u : HO} (r : At H a u) : ∃ o, H a = some o := by
  cases u with
  | dK kvs => exact Rd.ex (show Rd H a (.dK kvs) from r)
  | _ => exact ⟨_, r⟩
theorem Ext.at (e : Ext α H α' H') {a : Addr} {u : HO} (n : a ∉ α) (r : At H a u) : a ∉ α' ∧ At H' a u := by
  obtain ⟨o, q⟩ := r.ex
  refine ⟨e.out q n, ?_⟩
  cases u with
  | dK kvs =>
    rcases (show Rd H a (.dK kvs) from r) with r | ⟨o, r⟩
    · exact .inl (e.keep _ _ r n)
    · exact .inr ⟨o, e.keep _ _ r n⟩
  | _ => exact e.keep _ _ r n
theorem Ext.rd (e : Ext α H α' H') {a : Addr} {u : HO} (n : a ∉ α) (r : Rd H a u) : a ∉ α' ∧ Rd H' a u := by
  obtain ⟨o, q⟩ := Rd.ex r
  refine ⟨e.out q n, ?_⟩
  rcases r with r | ⟨o, r⟩
  · exact .inl (e.keep _ _ r n)
  · exact .inr ⟨o, e.keep _ _ r n⟩
theorem Rep.ext (e : Ext α H α' H') {d : D} {x : L2.V} (r : Rep A α H d x) : Rep A α' H' d x :=
  r.imp (fun _ _ g => e.get g) fun a u n m q => ⟨(e.at n q).1, m, (e.at n q).2⟩
theorem Reps.ext (e : Ext α H α' H') {ds : List D} {xs : List L2.V} (r : Reps A α H ds xs) : Reps A α' H' ds xs :=
  r.imp (fun _ _ g => e.get g) fun a u n m q => ⟨(e.at n q).1, m, (e.at n q).2⟩

/-- a new tree's root -/
theorem Ext.alloc {p : Addr} {o : HO} (n : H p = none) : Ext α H α (upd H p o) :=
  ⟨⟨[], by simp⟩, fun b h k => absurd h k, fun a u q _ => by rw [upd_ne (ne_of_none q n)]; exact q⟩
theorem HRel.mem (R : HRel A α h H) {a : Addr} (m : a ∈ α) : ∃ (i : Nat) (o : O), h[i]? = some o ∧ α[i]? = some a ∧ Ob A α H a o := by
  obtain ⟨i, hi, e⟩ := List.getElem_of_mem m
  have hl := R.len
  obtain ⟨b, e2, q⟩ := R.at_ i (h[i]'(by omega)) (by simp)
  have : α[i]? = some a := by rw [List.getElem?_eq_getElem hi, e]
  rw [this] at e2; cases e2
  exact ⟨i, _, by simp, this, q⟩
theorem Ob.ex {a : Addr} {o : O} (q : Ob A α H a o) : ∃ u, H a = some u := by
  cases o with
  | lst ds => obtain ⟨_, e, _⟩ := q; exact ⟨_, e⟩
  | dct ks ds => obtain ⟨_, e, _⟩ := q; exact ⟨_, e⟩
  | ro ds => obtain ⟨_, e, _⟩ := q; exact Rd.ex e
  | gone => exact q
theorem HRel.there (R : HRel A α h H) {a : Addr} (m : a ∈ α) : ∃ u, H a = some u := by
  obtain ⟨_, _, _, _, q⟩ := R.mem m
  exact q.ex
theorem HRel.fresh (R : HRel A α h H) {p : Addr} (n : H p = none) : p ∉ α ∧ ¬ A p := by
  refine ⟨fun m => ?_, fun m => ?_⟩
  · obtain ⟨u, e⟩ := R.there m
    rw [n] at e; cases e
  · obtain ⟨_, u, e⟩ := R.av p m
    rw [n] at e; cases e
/-- an object's words over another heap -/
theorem Ob.imp {A' : Av} {a : Addr} {o : O} (q : Ob A α H a o) (e : ∀ u, H a = some u → H' a = some u) (r : ∀ ds xs, Reps A α H ds xs → Reps A' α' H' ds xs) : Ob A' α' H' a o := by
  cases o with
  | lst ds => obtain ⟨xs, h1, h2⟩ := q; exact ⟨xs, e _ h1, r _ _ h2⟩
  | dct ks ds => obtain ⟨kvs, h1, h2, h3⟩ := q; exact ⟨kvs, e _ h1, h2, r _ _ h3⟩
  | ro ds =>
    obtain ⟨xs, h1, h2⟩ := q
    refine ⟨xs, ?_, r _ _ h2⟩
    rcases h1 with h1 | ⟨o, h1⟩
    · exact .inl (e _ h1)
    · exact .inr ⟨o, e _ h1⟩
  | gone => obtain ⟨u, h1⟩ := q; exact ⟨u, e _ h1⟩
/-- a new tree's root beside the cells -/
theorem HRel.alloc (R : HRel A α h H) {p : Addr} {o : HO} (n : H p = none) : HRel A α h (upd H p o) where
  len := R.len
  nd := R.nd
  av := fun a m => ⟨(R.av a m).1, by
    obtain ⟨_, u, e⟩ := R.av a m
    exact ⟨u, by rw [upd_ne (ne_of_none e n)]; exact e⟩⟩
  at_ := fun i o' e => by
    obtain ⟨a, g, q⟩ := R.at_ i o' e
    exact ⟨a, g, q.imp (fun u z => by rw [upd_ne (ne_of_none z n)]; exact z) fun _ _ r => r.ext (Ext.alloc n)⟩
/-- a new cell -/
theorem Ext.push {p : Addr} {o : HO} (n : H p = none) : Ext α H (α ++ [p]) (upd H p o) :=
  ⟨⟨[p], rfl⟩, fun b h k => by
    rcases List.mem_append.mp h with h | h
    · exact absurd h k
    · rw [List.mem_singleton.mp h]; exact n, fun a u q _ => by rw [upd_ne (ne_of_none q n)]; exact q⟩
theorem HRel.push (R : HRel A α h H) {p : Addr} {o : HO} {o' : O} (n : H p = none) (q : Ob A (α ++ [p]) (upd H p o) p o') : HRel A (α ++ [p]) (h ++ [o']) (upd H p o) where
  len := by simp [R.len]
  nd := by
    rw [List.nodup_append]
    refine ⟨R.nd, by simp, fun a ha b hb => ?_⟩
    rw [List.mem_singleton.mp hb]
    rintro rfl
    exact (R.fresh n).1 ha
  av := fun a m => by
    obtain ⟨m1, u, e⟩ := R.av a m
    refine ⟨fun hm => ?_, u, by rw [upd_ne (ne_of_none e n)]; exact e⟩
    rcases List.mem_append.mp hm with hm | hm
    · exact m1 hm
    · rw [List.mem_singleton.mp hm, n] at e; cases e
  at_ := fun i u e => by
    by_cases hi : i < h.length
    · rw [List.getElem?_append_left hi] at e
      obtain ⟨a, g, w⟩ := R.at_ i u e
      exact ⟨a, (Ext.push (o := o) n).get g, w.imp (fun u z => by rw [upd_ne (ne_of_none z n)]; exact z) fun _ _ r => r.ext (Ext.push n)⟩
    · have hi' : i = h.length := by
        have := (List.getElem?_eq_some_iff.mp e).1
        simp at this; omega
      subst hi'
      rw [List.getElem?_append_right (Nat.le_refl _)] at e
      simp at e; subst e
      exact ⟨p, by rw [← R.len, List.getElem?_append_right (Nat.le_refl _)]; simp, q⟩
/-- a cell is changed -/
theorem Ext.set {a : Addr} {o : HO} (m : a ∈ α) : Ext α H α (upd H a o) :=
  ⟨⟨[], by simp⟩, fun b h k => absurd h k, fun b u q k => by
    rw [upd_ne (fun e => k (by rw [e]; exact m))]; exact q⟩
theorem HRel.set (R : HRel A α h H) {i : Nat} {a : Addr} {o : HO} {o' : O} (g : α[i]? = some a) (q : Ob A α (upd H a o) a o') : HRel A α (h.set i o') (upd H a o) where
  len := by simp [R.len]
  nd := R.nd
  av := fun b m => by
    obtain ⟨m1, u, e⟩ := R.av b m
    exact ⟨m1, u, by rw [upd_ne (fun z => m1 (by rw [z]; exact List.mem_of_getElem? g))]; exact e⟩
  at_ := fun j u e => by
    have hi := (List.getElem?_eq_some_iff.mp g).1
    by_cases hj : i = j
    · subst hj
      rw [List.getElem?_set_self (by rw [← R.len]; exact hi)] at e
      cases e
      exact ⟨a, g, q⟩
    · rw [List.getElem?_set_ne hj] at e
      obtain ⟨b, g', w⟩ := R.at_ j u e
      have hb : b ≠ a := fun z => by
        subst z
        have h1 := List.getElem?_eq_some_iff.mp g
        have h2 := List.getElem?_eq_some_iff.mp g'
        exact hj ((List.getElem_inj R.nd).mp (h1.2.trans h2.2.symm))
      exact ⟨b, g', w.imp (fun u z => by rw [upd_ne hb]; exact z) fun _ _ r => r.ext (Ext.set (List.mem_of_getElem? g))⟩
end
end TB

end

section
set_option Elab.async false
set_option linter.all false
set_option maxHeartbeats 1000000
namespace TB
open PySem L2

/-! ### trees of cells -/
mutual
theorem bindRef_rep {A : Av} {α : List Addr} {H : Hp} {f : Nat → Option D} (hf : ∀ (k : Nat) (d' : D) (a : Addr), f k = some d' → α[k]? = some a → Rep A [] H d' (.ref a)) :
    ∀ (d d' : D) (x : L2.V), Rep A α H d x → d.bindRef f = some d' → Rep A [] H d' x
  | .non, _, _, r, e => by cases r; cases e; exact .non
  | .bl b, _, _, r, e => by cases r; cases e; exact .bl b
  | .int i, _, _, r, e => by cases r; cases e; exact .int i
  | .str s, _, _, r, e => by cases r; cases e; exact .str s
  | .ref n, d', _, r, e => by cases r with | ref g => exact hf n d' _ e g
  | .lst ds, d', _, r, e => by
    cases r with
    | lst h1 h2 h3 h4 =>
      obtain ⟨ds', e1, rfl⟩ := Option.map_eq_some_iff.mp (show (bindRefs f ds).map D.lst = some d' from e)
      exact .lst (by simp) h2 h3 (bindRefs_rep hf ds ds' _ h4 e1)
  | .tup ds, d', _, r, e => by
    cases r with
    | tup h1 h2 h3 h4 =>
      obtain ⟨ds', e1, rfl⟩ := Option.map_eq_some_iff.mp (show (bindRefs f ds).map D.tup = some d' from e)
      exact .tup (by simp) h2 h3 (bindRefs_rep hf ds ds' _ h4 e1)
  | .dct ks ds, d', _, r, e => by
    cases r with
    | dct h1 h2 h3 h4 h5 =>
      obtain ⟨ds', e1, rfl⟩ := Option.map_eq_some_iff.mp (show (bindRefs f ds).map (D.dct ks) = some d' from e)
      exact .dct (by simp) h2 h3 h4 (bindRefs_rep hf ds ds' _ h5 e1)
  | .exc _ _, _, _, r, _ => by cases r
theorem bindRefs_rep {A : Av} {α : List Addr} {H : Hp} {f : Nat → Option D} (hf : ∀ (k : Nat) (d' : D) (a : Addr), f k = some d' → α[k]? = some a → Rep A [] H d' (.ref a)) :
    ∀ (ds ds' : List D) (xs : List L2.V), Reps A α H ds xs → bindRefs f ds = some ds' → Reps A [] H ds' xs
  | [], _, _, r, e => by cases r; cases e; exact .nil
  | d :: ds, ds', _, r, e => by
    cases r with
    | cons r1 r2 =>
      obtain ⟨d1, e1, e2⟩ := Option.bind_eq_some_iff.mp (show (d.bindRef f).bind (fun d' => (bindRefs f ds).map (d' :: ·)) = some ds' from e)
      obtain ⟨ds1, e3, rfl⟩ := Option.map_eq_some_iff.mp e2
      exact .cons (bindRef_rep hf d d1 _ r1 e1) (bindRefs_rep hf ds ds1 _ r2 e3)
end
section
variable {A : Av} {α : List Addr} {h : Lh} {H : Hp}
theorem thawF_rep (R : HRel A α h H) : ∀ (n k : Nat) (d' : D) (a : Addr), thawF h n k = some d' → α[k]? = some a → Rep A [] H d' (.ref a)
  | 0, _, _, _, e, _ => by cases e
  | n + 1, k, d', a, e, g => by
    have ih := thawF_rep R n
    have na : ¬ A a := fun m => (R.av a m).1 (List.mem_of_getElem? g)
    unfold thawF at e
    cases q : h[k]? with
    | none => rw [q] at e; cases e
    | some o =>
      rw [q] at e
      obtain ⟨b, g', w⟩ := R.at_ k o q
      rw [g] at g'; cases g'
      cases o with
      | lst ds =>
        obtain ⟨ds', e1, rfl⟩ := Option.map_eq_some_iff.mp e
        obtain ⟨xs, w1, w2⟩ := w
        exact .lst (by simp) na w1 (bindRefs_rep ih ds ds' _ w2 e1)
      | ro ds => cases e
      | dct ks ds =>
        obtain ⟨ds', e1, rfl⟩ := Option.map_eq_some_iff.mp e
        obtain ⟨kvs, w1, w2, w3⟩ := w
        exact .dct (by simp) na (.inl w1) w2 (bindRefs_rep ih ds ds' _ w3 e1)
      | gone => cases e
theorem thaw_rep (R : HRel A α h H) {n : Nat} {d d' : D} {x : L2.V} (r : Rep A α H d x) (e : thaw h n d = some d') : Rep A [] H d' x :=
  bindRef_rep (thawF_rep R n) d d' x r e
theorem thaws_rep (R : HRel A α h H) : ∀ {ds ds' : List D} {xs : List L2.V}, Reps A α H ds xs → thaws h ds = some ds' → Reps A [] H ds' xs
  | [], _, _, r, e => by cases r; cases e; exact .nil
  | d :: ds, ds', _, r, e => by
    cases r with
    | cons r1 r2 =>
      obtain ⟨d1, e1, e2⟩ := Option.bind_eq_some_iff.mp (show (thaw h deep d).bind (fun x => (thaws h ds).map (x :: ·)) = some ds' from e)
      obtain ⟨ds1, e3, rfl⟩ := Option.map_eq_some_iff.mp e2
      exact .cons (thaw_rep R r1 e1) (thaws_rep R r2 e3)
/-- a tree without cells stands over any cells that it stands apart from -/
theorem Rep.of_nil {A' : Av} {d : D} {x : L2.V} (hk : ∀ a, ¬ A a → a ∉ α ∧ ¬ A' a) (r : Rep A [] H d x) : Rep A' α H d x :=
  r.imp (fun n a g => by simp at g) fun a u _ m q => ⟨(hk a m).1, (hk a m).2, q⟩
theorem Reps.of_nil {A' : Av} {ds : List D} {xs : List L2.V} (hk : ∀ a, ¬ A a → a ∉ α ∧ ¬ A' a) (r : Reps A [] H ds xs) : Reps A' α H ds xs :=
  r.imp (fun n a g => by simp at g) fun a u _ m q => ⟨(hk a m).1, (hk a m).2, q⟩
end
mutual
theorem Rep.nref {A A' : Av} {α α' : List Addr} {H : Hp} (hk : ∀ a u, a ∉ α → ¬ A a → At H a u → a ∉ α' ∧ ¬ A' a) : ∀ (d : D) (x : L2.V), d.nref = true → Rep A α H d x → Rep A' α' H d x
  | .non, _, _, r => by cases r; exact .non
  | .bl b, _, _, r => by cases r; exact .bl b
  | .int i, _, _, r => by cases r; exact .int i
  | .str s, _, _, r => by cases r; exact .str s
  | .ref n, _, e, _ => by cases e
  | .lst ds, _, e, r => by cases r with | lst h1 h2 h3 h4 => exact .lst (hk _ _ h1 h2 h3).1 (hk _ _ h1 h2 h3).2 h3 (Reps.nref hk ds _ e h4)
  | .tup ds, _, e, r => by cases r with | tup h1 h2 h3 h4 => exact .tup (hk _ _ h1 h2 h3).1 (hk _ _ h1 h2 h3).2 h3 (Reps.nref hk ds _ e h4)
  | .dct ks ds, _, e, r => by cases r with | dct h1 h2 h3 h4 h5 => exact .dct (hk _ _ h1 h2 h3).1 (hk _ _ h1 h2 h3).2 h3 h4 (Reps.nref hk ds _ e h5)
  | .exc _ _, _, _, r => by cases r
theorem Reps.nref {A A' : Av} {α α' : List Addr} {H : Hp} (hk : ∀ a u, a ∉ α → ¬ A a → At H a u → a ∉ α' ∧ ¬ A' a) : ∀ (ds : List D) (xs : List L2.V), nrefs ds = true → Reps A α H ds xs → Reps A' α' H ds xs
  | [], _, _, r => by cases r; exact .nil
  | d :: ds, _, e, r => by
    cases r with
    | cons r1 r2 =>
      have e' : (d.nref && nrefs ds) = true := e
      rw [Bool.and_eq_true] at e'
      exact .cons (Rep.nref hk d _ e'.1 r1) (Reps.nref hk ds _ e'.2 r2)
end
section
variable {A : Av} {α : List Addr} {h : Lh} {H : Hp} {K : Frag}
/-! ### views -/
theorem vw_list (R : HRel A α h H) {d : D} {x : L2.V} {ds : List D} (r : Rep A α H d x) (e : vw h d = some (false, ds)) : ∃ a xs, x = .ref a ∧ Rd H a (.lst xs) ∧ Reps A α H ds xs := by
  cases r with
  | lst h1 h2 h3 h4 => cases e; exact ⟨_, _, rfl, .inl h3, h4⟩
  | @ref n a g =>
    have e' : (match h[n]? with
      | some (.lst ds) => some (false, ds)
      | some (.ro ds) => some (false, ds)
      | _ => none) = some (false, ds) := e
    cases q : h[n]? with
    | none => rw [q] at e'; cases e'
    | some o =>
      rw [q] at e'
      obtain ⟨b, g', w⟩ := R.at_ n o q
      rw [g] at g'; cases g'
      cases o with
      | lst es => cases e'; obtain ⟨xs, w1, w2⟩ := w; exact ⟨_, _, rfl, .inl w1, w2⟩
      | ro es => cases e'; obtain ⟨xs, w1, w2⟩ := w; exact ⟨_, _, rfl, w1, w2⟩
      | dct _ _ => cases e'
      | gone => cases e'
  | _ => cases e
theorem vm_list (R : HRel A α h H) {d : D} {x : L2.V} {ds : List D} (r : Rep A α H d x) (e : vm h d = some (false, ds)) : ∃ a xs, x = .ref a ∧ H a = some (.lst xs) ∧ Reps A α H ds xs := by
  cases r with
  | lst h1 h2 h3 h4 => cases e; exact ⟨_, _, rfl, h3, h4⟩
  | @ref n a g =>
    have e' : (match h[n]? with
      | some (.lst ds) => some (false, ds)
      | _ => none) = some (false, ds) := e
    cases q : h[n]? with
    | none => rw [q] at e'; cases e'
    | some o =>
      rw [q] at e'
      obtain ⟨b, g', w⟩ := R.at_ n o q
      rw [g] at g'; cases g'
      cases o with
      | lst es => cases e'; obtain ⟨xs, w1, w2⟩ := w; exact ⟨_, _, rfl, w1, w2⟩
      | _ => cases e'
  | _ => cases e
theorem vm_tup (R : HRel A α h H) {d : D} {x : L2.V} {ds : List D} (r : Rep A α H d x) (e : vm h d = some (true, ds)) : ∃ a xs, x = .ref a ∧ H a = some (.tup xs) ∧ Reps A α H ds xs := by
  cases r with
  | tup h1 h2 h3 h4 => cases e; exact ⟨_, _, rfl, h3, h4⟩
  | @ref n a g =>
    have e' : (match h[n]? with
      | some (.lst ds) => some (false, ds)
      | _ => none) = some (true, ds) := e
    cases q : h[n]? with
    | none => rw [q] at e'; cases e'
    | some o =>
      rw [q] at e'
      cases o <;> cases e'
  | _ => cases e
theorem vw_tup (R : HRel A α h H) {d : D} {x : L2.V} {ds : List D} (r : Rep A α H d x) (e : vw h d = some (true, ds)) : ∃ a xs, x = .ref a ∧ H a = some (.tup xs) ∧ Reps A α H ds xs := by
  cases r with
  | tup h1 h2 h3 h4 => cases e; exact ⟨_, _, rfl, h3, h4⟩
  | @ref n a g =>
    have e' : (match h[n]? with
      | some (.lst ds) => some (false, ds)
      | some (.ro ds) => some (false, ds)
      | _ => none) = some (true, ds) := e
    cases q : h[n]? with
    | none => rw [q] at e'; cases e'
    | some o =>
      rw [q] at e'
      cases o <;> cases e'
  | _ => cases e
theorem vd_dict (R : HRel A α h H) {d : D} {x : L2.V} {ks : List Ky} {ds : List D} (r : Rep A α H d x) (e : vd h d = some (ks, ds)) : ∃ a kvs, x = .ref a ∧ Rd H a (.dK kvs) ∧ kvs.map (·.1) = ks ∧ Reps A α H ds (kvs.map (·.2)) := by
  cases r with
  | dct h1 h2 h3 h4 h5 => cases e; exact ⟨_, _, rfl, h3, h4, h5⟩
  | @ref n a g =>
    have e' : (match h[n]? with
      | some (.dct ks ds) => some (ks, ds)
      | _ => none) = some (ks, ds) := e
    cases q : h[n]? with
    | none => rw [q] at e'; cases e'
    | some o =>
      rw [q] at e'
      obtain ⟨b, g', w⟩ := R.at_ n o q
      rw [g] at g'; cases g'
      cases o with
      | dct es _ => cases e'; obtain ⟨kvs, w1, w2, w3⟩ := w; exact ⟨_, _, rfl, .inl w1, w2, w3⟩
      | _ => cases e'
  | _ => cases e
theorem Rep.of_flat {d : D} {x : L2.V} (f : flat d = true) (r : Rep A α H d x) {A' : Av} {α' : List Addr} {H' : Hp} : Rep A' α' H' d x := by
  cases r with
  | non => exact .non
  | bl b => exact .bl b
  | int i => exact .int i
  | str s => exact .str s
  | _ => cases f
theorem SqL.rd {a : Addr} {xs : List L2.V} (r : Rd H a (.lst xs)) : SqL K H a xs := .inl r
theorem SqT.rd {a : Addr} {xs : List L2.V} (r : Rd H a (.tup xs)) : SqT K H a xs := .inl r
end

/-! ### the slots; the wishes -/
/-- the exception that a suite handles: the slot of its name, its object, its dict, its class -/
structure Xh where
  i : Nat
  a : Addr
  d : Option Addr
  c : Value
  k : Nat
abbrev Xi := Option Xh
/-- what is fixed for a whole text: its written part, the addresses of its exceptions' classes, their fields; the suite's exception -/
structure G where
  K : Frag
  cls : Nat → Addr
  flds : Nat → List Str
  sub : Nat → Nat → Bool
  n : Nat
  xi : Xi
/-- an exception's own dict -/
def XDict (g : G) (A : Av) (α : List Addr) (H : Hp) (c : Nat) (fs : List D) (d : Option Addr) : Prop :=
  (c < g.n ∧ fs.length = (g.flds c).length) ∧ ((fs = [] ∧ d = none) ∨ ∃ dd ps, d = some dd ∧ dd ∉ α ∧ ¬ A dd ∧ H dd = some (.xd ps) ∧
    ∀ (j : Nat) (f : Str) (v : D), (g.flds c)[j]? = some f → fs[j]? = some v → ∃ x, ps.lookup f = some x ∧ Rep A α H v x)
inductive SRep (g : G) (ξ : Xi) (A : Av) (α : List Addr) (H : Hp) (i : Nat) : D → L2.V → Prop
  | rep {d : D} {x : L2.V} : Rep A α H d x → SRep g ξ A α H i d x
  | exc {c : Nat} {fs : List D} {x : L2.V} : (∀ e, ξ = some e → e.i = i → x = .ref e.a ∧ e.c = .ref (g.cls c) ∧ g.sub c e.k = true ∧ XDict g A α H c fs e.d) → SRep g ξ A α H i (.exc c fs) x
/-- the slots: what the evaluator knows of them -/
def ERel (g : G) (ξ : Xi) (A : Av) (α : List Addr) (H : Hp) (env : Env) (σ : L2.St) : Prop :=
  env.length = σ.length ∧ ∀ (i : Nat) (d : D), env[i]? = some (some d) → ∃ x, σ[i]? = some (some x) ∧ SRep g ξ A α H i d x
structure Rl (g : G) (ξ : Xi) (A : Av) (α : List Addr) (h : Lh) (env : Env) (σ : L2.St) (H : Hp) : Prop where
  e : ERel g ξ A α H env σ
  h : HRel A α h H
  x : ξ = g.xi
section
variable {g : G} {ξ : Xi} {A : Av} {α α' : List Addr} {h h' : Lh} {env : Env} {σ : L2.St} {H H' : Hp}
theorem XDict.ext (e : Ext α H α' H') {c : Nat} {fs : List D} {d : Option Addr} (x : XDict g A α H c fs d) : XDict g A α' H' c fs d := by
  obtain ⟨hl, x⟩ := x
  refine ⟨hl, ?_⟩
  rcases x with x | ⟨dd, ps, h1, h2, h3, h4, h5⟩
  · exact .inl x
  · refine .inr ⟨dd, ps, h1, e.out h4 h2, h3, e.keep _ _ h4 h2, fun j f v a b => ?_⟩
    obtain ⟨x, k, r⟩ := h5 j f v a b
    exact ⟨x, k, r.ext e⟩
theorem SRep.ext (e : Ext α H α' H') {i : Nat} {d : D} {x : L2.V} (r : SRep g ξ A α H i d x) : SRep g ξ A α' H' i d x := by
  cases r with
  | rep r => exact .rep (r.ext e)
  | exc k => exact .exc fun e' h1 h2 => let ⟨k1, k2, k3, k4⟩ := k e' h1 h2; ⟨k1, k2, k3, k4.ext e⟩
theorem ERel.ext (e : Ext α H α' H') (r : ERel g ξ A α H env σ) : ERel g ξ A α' H' env σ :=
  ⟨r.1, fun i d q => let ⟨x, k, s⟩ := r.2 i d q; ⟨x, k, s.ext e⟩⟩
theorem Rl.step (R : Rl g ξ A α h env σ H) (e : Ext α H α' H') (k : HRel A α' h' H') : Rl g ξ A α' h' env σ H' := ⟨R.e.ext e, k, R.x⟩
theorem ERel.set (r : ERel g ξ A α H env σ) {i : Nat} {d : D} {x : L2.V} (s : SRep g ξ A α H i d x) : ERel g ξ A α H (env.set i (some d)) (σ.set i (some x)) := by
  refine ⟨by simp [r.1], fun j d' q => ?_⟩
  by_cases hj : i = j
  · subst hj
    have hi : i < env.length := by
      have := (List.getElem?_eq_some_iff.mp q).1
      simpa using this
    rw [List.getElem?_set_self hi] at q
    cases q
    exact ⟨x, by rw [List.getElem?_set_self (by rw [← r.1]; exact hi)], s⟩
  · rw [List.getElem?_set_ne hj] at q
    rw [List.getElem?_set_ne hj]
    exact r.2 j d' q
/-- a slot is emptied -/
theorem ERel.clear' (r : ERel g ξ A α H env σ) {i : Nat} (z : Option L2.V) : ERel g ξ A α H (env.set i none) (σ.set i z) := by
  refine ⟨by simp [r.1], fun j d' q => ?_⟩
  by_cases hj : i = j
  · subst hj
    have hi : i < env.length := by
      have := (List.getElem?_eq_some_iff.mp q).1
      simpa using this
    rw [List.getElem?_set_self hi] at q
    cases q
  · rw [List.getElem?_set_ne hj] at q
    rw [List.getElem?_set_ne hj]
    exact r.2 j d' q
theorem ERel.clear (r : ERel g ξ A α H env σ) {i : Nat} : ERel g ξ A α H (env.set i none) (σ.set i none) := r.clear' none
/-- what is wanted behind an expression -/
def PostE (g : G) (A : Av) (α : List Addr) (H : Hp) (σ : L2.St) (W : L2.WX) (Q : L2.VK) : Rs D → Prop
  | .ok d h' => ∀ α' H' x, Ext α H α' H' → HRel A α' h' H' → Rep A α' H' d x → Q x H'
  | .exc c fs h' => ∀ α' H' d, Ext α H α' H' → HRel A α' h' H' → XDict g A α' H' c fs d → W (.ref (g.cls c)) d σ H'
  | .stuck => False
def PostT (g : G) (A : Av) (α : List Addr) (H : Hp) (σ : L2.St) (W : L2.WX) (Q : Bool → Hp → Prop) : Rs D → Prop
  | .ok d h' => ∃ b, truth h' d = some b ∧ ∀ α' H', Ext α H α' H' → HRel A α' h' H' → Q b H'
  | .exc c fs h' => ∀ α' H' d, Ext α H α' H' → HRel A α' h' H' → XDict g A α' H' c fs d → W (.ref (g.cls c)) d σ H'
  | .stuck => False
def PostA (g : G) (A : Av) (α : List Addr) (H : Hp) (σ : L2.St) (W : L2.WX) (Q : List L2.V → Hp → Prop) : Rs (List D) → Prop
  | .ok ds h' => ∀ α' H' xs, Ext α H α' H' → HRel A α' h' H' → Reps A α' H' ds xs → Q xs H'
  | .exc c fs h' => ∀ α' H' d, Ext α H α' H' → HRel A α' h' H' → XDict g A α' H' c fs d → W (.ref (g.cls c)) d σ H'
  | .stuck => False
/-- the reading of an expression: the evaluator comes through, and what it tells is enough -/
def vE (g : G) (W : L2.WX) (cx : Cx) (m : E) : L2.TE := fun σ H Q => ∃ ξ A α h env, Rl g ξ A α h env σ H ∧ PostE g A α H σ W Q (m.ev cx env h)
def vT (g : G) (W : L2.WX) (cx : Cx) (m : E) : L2.TT := fun σ H Q => ∃ ξ A α h env, Rl g ξ A α h env σ H ∧ PostT g A α H σ W Q (m.ev cx env h)
def vA (g : G) (W : L2.WX) (cx : Cx) (ms : Es) : L2.TA := fun σ H Q => ∃ ξ A α h env, Rl g ξ A α h env σ H ∧ PostA g A α H σ W Q (ms.ev cx env h)
variable {W : L2.WX} {cx : Cx}
theorem PostE.mono {Q : L2.VK} {r : Rs D} (P : PostE g A α H σ W Q r) (e : Ext α H α' H') : PostE g A α' H' σ W Q r := by
  cases r with
  | ok d h' => exact fun α2 H2 x e2 => P α2 H2 x (e.trans e2)
  | exc c fs h' => exact fun α2 H2 d e2 => P α2 H2 d (e.trans e2)
  | stuck => exact P
theorem PostT.mono {Q : Bool → Hp → Prop} {r : Rs D} (P : PostT g A α H σ W Q r) (e : Ext α H α' H') : PostT g A α' H' σ W Q r := by
  cases r with
  | ok d h' =>
    obtain ⟨b, q, P⟩ := P
    exact ⟨b, q, fun α2 H2 e2 => P α2 H2 (e.trans e2)⟩
  | exc c fs h' => exact fun α2 H2 d e2 => P α2 H2 d (e.trans e2)
  | stuck => exact P
theorem PostA.mono {Q : List L2.V → Hp → Prop} {r : Rs (List D)} (P : PostA g A α H σ W Q r) (e : Ext α H α' H') : PostA g A α' H' σ W Q r := by
  cases r with
  | ok d h' => exact fun α2 H2 x e2 => P α2 H2 x (e.trans e2)
  | exc c fs h' => exact fun α2 H2 d e2 => P α2 H2 d (e.trans e2)
  | stuck => exact P
/-- one after another: m first, whose value goes on -/
theorem vE_bind {m : E} {Q : L2.VK} {k : D → Lh → Rs D} {R' : L2.V → Hp → Prop} (R : Rl g ξ A α h env σ H) (P : PostE g A α H σ W Q ((m.ev cx env h).bind k))
    (f : ∀ d h1 α1 H1 x, Ext α H α1 H1 → Rl g ξ A α1 h1 env σ H1 → Rep A α1 H1 d x → PostE g A α1 H1 σ W Q (k d h1) → R' x H1) : vE g W cx m σ H R' := by
  refine ⟨ξ, A, α, h, env, R, ?_⟩
  cases q : m.ev cx env h with
  | ok d h1 =>
    rw [q] at P
    exact fun α1 H1 x e k1 r => f d h1 α1 H1 x e (R.step e k1) r (PostE.mono P e)
  | exc c fs h1 => rw [q] at P; exact P
  | stuck => rw [q] at P; exact P
theorem vE_bindT {m : E} {Q : Bool → Hp → Prop} {k : D → Lh → Rs D} {R' : L2.V → Hp → Prop} (R : Rl g ξ A α h env σ H) (P : PostT g A α H σ W Q ((m.ev cx env h).bind k))
    (f : ∀ d h1 α1 H1 x, Ext α H α1 H1 → Rl g ξ A α1 h1 env σ H1 → Rep A α1 H1 d x → PostT g A α1 H1 σ W Q (k d h1) → R' x H1) : vE g W cx m σ H R' := by
  refine ⟨ξ, A, α, h, env, R, ?_⟩
  cases q : m.ev cx env h with
  | ok d h1 =>
    rw [q] at P
    exact fun α1 H1 x e k1 r => f d h1 α1 H1 x e (R.step e k1) r (PostT.mono P e)
  | exc c fs h1 => rw [q] at P; exact P
  | stuck => rw [q] at P; exact P
theorem vA_bind {m : Es} {Q : L2.VK} {k : List D → Lh → Rs D} {R' : List L2.V → Hp → Prop} (R : Rl g ξ A α h env σ H) (P : PostE g A α H σ W Q ((m.ev cx env h).bind k))
    (f : ∀ d h1 α1 H1 x, Ext α H α1 H1 → Rl g ξ A α1 h1 env σ H1 → Reps A α1 H1 d x → PostE g A α1 H1 σ W Q (k d h1) → R' x H1) : vA g W cx m σ H R' := by
  refine ⟨ξ, A, α, h, env, R, ?_⟩
  cases q : m.ev cx env h with
  | ok d h1 =>
    rw [q] at P
    exact fun α1 H1 x e k1 r => f d h1 α1 H1 x e (R.step e k1) r (PostE.mono P e)
  | exc c fs h1 => rw [q] at P; exact P
  | stuck => rw [q] at P; exact P
/-- the end: the value is there -/
theorem PostE.here {Q : L2.VK} {d : D} {x : L2.V} (P : PostE g A α H σ W Q (.ok d h)) (R : HRel A α h H) (r : Rep A α H d x) : Q x H := P α H x .refl R r
/-- a value, or a new tree | cell -/
theorem PostE.new {Q : L2.VK} {fz : Bool} {ds : List D} {xs : List L2.V} (P : PostE g A α H σ W Q (fin fz (some (.l ds)) h)) (R : HRel A α h H) (r : Reps A α H ds xs) {p : Addr} (n : H p = none) : Q (.ref p) (upd H p (.lst xs)) := by
  cases fz with
  | true => exact P α _ _ (Ext.alloc n) (R.alloc n) (.lst (R.fresh n).1 (R.fresh n).2 upd_same (r.ext (Ext.alloc n)))
  | false =>
    refine P (α ++ [p]) _ _ (Ext.push n) (R.push (o' := .lst ds) n ⟨xs, upd_same, r.ext (Ext.push n)⟩) (.ref ?_)
    rw [← R.len, List.getElem?_append_right (Nat.le_refl _)]; simp
end
end TB

end

section
set_option Elab.async false
set_option linter.all false
set_option maxHeartbeats 1000000
namespace TB
open PySem L2

section
variable {X : L2.Cx}
theorem weakE {e : Expr} {t t' : L2.TE} (h : PE X e t) (i : ∀ σ H Q, t' σ H Q → t σ H Q) : PE X e t' := ⟨fun pins s σ H Q I w => h.run pins s σ H Q I (i σ H Q w)⟩
theorem weakT {e : Expr} {t t' : L2.TT} (h : PT X e t) (i : ∀ σ H Q, t' σ H Q → t σ H Q) : PT X e t' := ⟨fun pins s σ H Q I w => h.run pins s σ H Q I (i σ H Q w)⟩
theorem weakW {e : Expr} {t t' : L2.TT} (h : PW X e t) (i : ∀ σ H Q, t' σ H Q → t σ H Q) : PW X e t' := ⟨fun wh pins s σ H Q I w => h.run wh pins s σ H Q I (i σ H Q w)⟩
theorem weakA {e : List Expr} {t t' : L2.TA} (h : PA X e t) (i : ∀ σ H Q, t' σ H Q → t σ H Q) : PA X e t' := ⟨fun p pins s σ H Q I w => h.run p pins s σ H Q I (i σ H Q w)⟩
theorem weakK {e : List Keyword} {t t' : L2.TA} (h : PK X e t) (i : ∀ σ H Q, t' σ H Q → t σ H Q) : PK X e t' := ⟨fun p pins s σ H Q I w => h.run p pins s σ H Q I (i σ H Q w)⟩
theorem weakS {e : Stmt} {t t' : L2.TS} (h : PS X e t) (i : ∀ D σ H, t' D σ H → t D σ H) : PS X e t' := ⟨fun pins s σ H D I w => h.run pins s σ H D I (i D σ H w)⟩
theorem weakSs {e : List Stmt} {t t' : L2.TS} (h : PSs X e t) (i : ∀ D σ H, t' D σ H → t D σ H) : PSs X e t' := ⟨fun pins s σ H D I w => h.run pins s σ H D I (i D σ H w)⟩
theorem weakG {e : Expr} {t t' : L2.TG} (h : PG X e t) (i : ∀ v σ H Q, t' v σ H Q → t v σ H Q) : PG X e t' := ⟨fun pins s σ H v u Q I r w => h.run pins s σ H v u Q I r (i v σ H Q w)⟩
theorem orE {e : Expr} {t t' : L2.TE} (h : PE X e t) (h' : PE X e t') : PE X e (fun σ H Q => t σ H Q ∨ t' σ H Q) := ⟨fun pins s σ H Q I w => w.elim (h.run pins s σ H Q I) (h'.run pins s σ H Q I)⟩
theorem orC {f : Value} {r r' : List L2.V → Hp → L2.VK → Prop} (h : CallR X f r) (h' : CallR X f r') : CallR X f (fun xs H Q => r xs H Q ∨ r' xs H Q) :=
  fun pins s σ H xs us Q I r w => w.elim (h pins s σ H xs us Q I r) (h' pins s σ H xs us Q I r)
theorem weakC {f : Value} {r r' : List L2.V → Hp → L2.VK → Prop} (h : CallR X f r) (i : ∀ xs H Q, r' xs H Q → r xs H Q) : CallR X f r' :=
  fun pins s σ H xs us Q I rr w => h pins s σ H xs us Q I rr (i xs H Q w)
theorem weakO {f : Value → Value → Sem Value} {r r' : L2.R2} (h : OpR X f r) (i : ∀ x y H Q, r' x y H Q → r x y H Q) : OpR X f r' :=
  fun pins s σ H x y v u Q I rx ry w => h pins s σ H x y v u Q I rx ry (i x y H Q w)

variable {g : G} {W : L2.WX} {cx : Cx} {pos : Pos}
/-! ### names, constants -/
theorem s_var {i : Nat} {x : Str} (hN : X.N[i]? = some x) (hv : Vis X.env.scope x) (hd : (x == ("__debug__" : Str)) = false) (hcd : (x == ("__classdict__" : Str)) = false) :
    PE X (.Name x pos) (vE g W cx (.var i)) := by
  refine weakE (pe_var hN hv hd hcd) fun σ H Q ⟨ξ, A, α, h, env, R, P⟩ => ?_
  have P : PostE g A α H σ W Q (rsO (getV env i) h) := P
  unfold getV at P
  cases q : env[i]? with
  | none => rw [q] at P; exact P.elim
  | some o =>
    cases o with
    | none => rw [q] at P; exact P.elim
    | some d =>
      obtain ⟨x, e, s⟩ := R.e.2 i d q
      cases s with
      | rep r =>
        refine ⟨x, e, ?_⟩
        rw [q] at P
        cases r with
        | non => exact PostE.here P R.h .non
        | bl b => exact PostE.here P R.h (.bl b)
        | int b => exact PostE.here P R.h (.int b)
        | str b => exact PostE.here P R.h (.str b)
        | ref k => exact PostE.here P R.h (.ref k)
        | lst h1 h2 h3 h4 => exact PostE.here P R.h (.lst h1 h2 h3 h4)
        | tup h1 h2 h3 h4 => exact PostE.here P R.h (.tup h1 h2 h3 h4)
        | dct h1 h2 h3 h4 h5 => exact PostE.here P R.h (.dct h1 h2 h3 h4 h5)
      | exc k => rw [q] at P; exact P.elim
theorem s_int {i : Int} {j : Option Nat ⊕ Nat} {k} : PE X (.Constant (.int i) k pos) (vE g W cx (.cst (.int i))) :=
  weakE pe_int fun σ H Q ⟨ξ, A, α, h, env, R, P⟩ => PostE.here (d := .int i) P R.h (.int i)
theorem s_bl {b : Bool} {k} : PE X (.Constant (.bool b) k pos) (vE g W cx (.cst (.bl b))) :=
  weakE pe_bl fun σ H Q ⟨ξ, A, α, h, env, R, P⟩ => PostE.here (d := .bl b) P R.h (.bl b)
theorem s_non {k} : PE X (.Constant .none k pos) (vE g W cx (.cst .non)) :=
  weakE pe_non fun σ H Q ⟨ξ, A, α, h, env, R, P⟩ => PostE.here (d := .non) P R.h .non
theorem s_str {x : Str} {k} : PE X (.Constant (.str x) k pos) (vE g W cx (.cst (.str x))) :=
  weakE pe_str fun σ H Q ⟨ξ, A, α, h, env, R, P⟩ => PostE.here (d := .str x) P R.h (.str x)
/-- a module's constant -/
inductive Cst : D → Value → Prop
  | int (i : Int) (t : Tok) : Cst (.int i) (.int i t)
  | str (x : Str) (t : Tok) : Cst (.str x) (.str x t)
theorem s_glob {x : Str} {d : D} {u : Value} (hg : Gl X x) (hm : X.mg x = some u) (c : Cst d u) (hd : (x == ("__debug__" : Str)) = false) : PE X (.Name x pos) (vE g W cx (.cst d)) := by
  cases c with
  | int i t => exact weakE (pe_glob (v := .int i) hg hm ⟨t, rfl⟩ hd) fun σ H Q ⟨ξ, A, α, h, env, R, P⟩ => PostE.here (d := .int i) P R.h (.int i)
  | str x t => exact weakE (pe_glob (v := .str x) hg hm ⟨t, rfl⟩ hd) fun σ H Q ⟨ξ, A, α, h, env, R, P⟩ => PostE.here (d := .str x) P R.h (.str x)

/-! ### two-place operators -/
variable {ξ : Xi} {A : Av} {α : List Addr} {h : Lh} {env : Env} {σ : L2.St} {H : Hp}
def opOf : Bop → Operator
  | .add => .Add | .sub => .Sub | .mul => .Mult | .fdiv => .FloorDiv | .mod => .Mod | .pow => .Pow | .shl => .LShift | .shr => .RShift | .band => .BitAnd | .bor => .BitOr
/-- a rule for an operator whose answer the evaluator knows -/
def OpOk (X : L2.Cx) (g : G) (o : Bop) : Prop := ∃ r : L2.R2, OpR X (binaryOp (opOf o)) r ∧
  ∀ (W : L2.WX) (A : Av) (α : List Addr) (h : Lh) (σ : L2.St) (H : Hp) (Q : L2.VK) (fz : Bool) (dx dy : D) (x y : L2.V), HRel A α h H → Rep A α H dx x → Rep A α H dy y → PostE g A α H σ W Q (fin fz (bop h o dx dy) h) → r x y H Q
theorem lim_le {n : Nat} (e : n ≤ lim) : n ≤ sizeLine := Nat.le_trans e (by unfold lim; rw [sizeLine_eq]; decide)
theorem lim_lt {n : Nat} (e : n < lim) : n < sizeLine := Nat.lt_of_lt_of_le e (lim_le (Nat.le_refl _))
theorem PostE.tupNew {Q : L2.VK} {ds : List D} {xs : List L2.V} {fz : Bool} (P : PostE g A α H σ W Q (fin fz (some (.v (.tup ds))) h)) (R : HRel A α h H) (r : Reps A α H ds xs) {p : Addr} (n : H p = none) : Q (.ref p) (upd H p (.tup xs)) :=
  P α _ _ (Ext.alloc n) (R.alloc n) (.tup (R.fresh n).1 (R.fresh n).2 upd_same (r.ext (Ext.alloc n)))
theorem repl_eq (ds : List D) : ∀ n, repl ds n = (List.replicate n ds).flatten
  | 0 => rfl
  | n + 1 => by rw [repl, repl_eq ds n, List.replicate_succ, List.flatten_cons]
theorem Reps.repl {ds : List D} {xs : List L2.V} (r : Reps A α H ds xs) : ∀ n, Reps A α H (TB.repl ds n) (List.replicate n xs).flatten
  | 0 => .nil
  | n + 1 => by
    rw [TB.repl, List.replicate_succ, List.flatten_cons]
    exact r.append (Reps.repl r n)
theorem vm_tree {d : D} {ds : List D} (e : vm h d = some (true, ds)) : d = .tup ds := by
  cases d with
  | tup es => cases e; rfl
  | ref n =>
    have e' : (match h[n]? with
      | some (.lst ds) => some (false, ds)
      | _ => none) = some (true, ds) := e
    cases q : h[n]? with
    | none => rw [q] at e'; cases e'
    | some o => rw [q] at e'; cases o <;> cases e'
  | _ => cases e
theorem ok_add : OpOk X g .add := by
  refine ⟨_, op_add.or (op_add_str.or (op_cat.or op_catA)), fun W A α h σ H Q fz dx dy x y R rx ry P => ?_⟩
  have lists : ∀ {dx dy : D} {x y : L2.V} (rx : Rep A α H dx x) (ry : Rep A α H dy y), PostE g A α H σ W Q (fin fz (match vm h dx, vm h dy with
      | some (false, a), some (false, b) => if a.length + b.length ≤ lim then some (.l (a ++ b)) else none
      | some (true, a), some (true, b) => if a.length + b.length ≤ lim then some (.v (.tup (a ++ b))) else none
      | _, _ => none) h) → rCat x y H Q ∨ rCatA X.K x y H Q := by
    intro dx dy x y rx ry P
    cases e1 : vm h dx with
    | none => rw [e1] at P; exact P.elim
    | some p =>
      obtain ⟨k, a⟩ := p
      cases e2 : vm h dy with
      | none => rw [e1, e2] at P; cases k <;> exact P.elim
      | some p2 =>
        obtain ⟨k2, b⟩ := p2
        rw [e1, e2] at P
        cases k with
        | false =>
          cases k2 with
          | true => exact P.elim
          | false =>
            obtain ⟨p, xs, rfl, hp, r1⟩ := vm_list R rx e1
            obtain ⟨q, ys, rfl, hq, r2⟩ := vm_list R ry e2
            dsimp only at P
            by_cases hl : a.length + b.length ≤ lim
            · rw [if_pos hl] at P
              exact .inl ⟨p, q, xs, ys, rfl, rfl, hp, hq, by rw [← r1.length, ← r2.length]; exact lim_le hl, fun z n => PostE.new P R (r1.append r2) n⟩
            · rw [if_neg hl] at P; exact P.elim
        | true =>
          cases k2 with
          | false => exact P.elim
          | true =>
            obtain ⟨p, xs, rfl, hp, r1⟩ := vm_tup R rx e1
            obtain ⟨q, ys, rfl, hq, r2⟩ := vm_tup R ry e2
            dsimp only at P
            by_cases hl : a.length + b.length ≤ lim
            · rw [if_pos hl] at P
              refine .inr ⟨p, q, xs, ys, rfl, rfl, .inl (.inl hp), .inl (.inl hq), by rw [← r1.length, ← r2.length]; exact lim_le hl, fun z => ?_, fun _ z => ?_, fun _ _ z n => PostE.tupNew P R (r1.append r2) n⟩
              · subst z
                cases r1
                rw [vm_tree e2] at ry
                exact PostE.here (d := .tup ([] ++ b)) P R ry
              · subst z
                cases r2
                rw [List.append_nil] at P
                rw [vm_tree e1] at rx
                exact PostE.here (d := .tup a) P R rx
            · rw [if_neg hl] at P; exact P.elim
  cases rx with
  | int i =>
    cases ry with
    | int j => exact .inl ⟨i, j, rfl, rfl, PostE.here (d := .int (i + j)) P R (.int _)⟩
    | _ => exact P.elim
  | str i =>
    cases ry with
    | str j =>
      refine .inr (.inl ⟨i, j, rfl, rfl, ?_⟩)
      have P : PostE g A α H σ W Q (fin fz (if i.length + j.length ≤ lim then some (.v (.str (i ++ j))) else none) h) := P
      by_cases hl : i.length + j.length ≤ lim
      · rw [if_pos hl] at P
        exact ⟨lim_le hl, PostE.here (d := .str (i ++ j)) P R (.str _)⟩
      · rw [if_neg hl] at P; exact P.elim
    | _ => exact P.elim
  | non => cases ry <;> exact P.elim
  | bl b => cases ry <;> exact P.elim
  | ref k => exact .inr (.inr (lists (.ref k) ry P))
  | lst h1 h2 h3 h4 => exact .inr (.inr (lists (.lst h1 h2 h3 h4) ry P))
  | tup h1 h2 h3 h4 => exact .inr (.inr (lists (.tup h1 h2 h3 h4) ry P))
  | dct h1 h2 h3 h4 h5 => exact .inr (.inr (lists (.dct h1 h2 h3 h4 h5) ry P))
theorem ok_ii {o : Bop} {C : Int → Int → Prop} {f : Int → Int → Int} (hr : OpR X (binaryOp (opOf o)) (rI C fun i j => .int (f i j)))
    (hb : ∀ h dx dy p, bop h o dx dy = some p → ∃ i j, dx = .int i ∧ dy = .int j ∧ C i j ∧ p = .v (.int (f i j))) : OpOk X g o := by
  refine ⟨_, hr, fun W A α h σ H Q fz dx dy x y R rx ry P => ?_⟩
  cases q : bop h o dx dy with
  | none => rw [q] at P; exact P.elim
  | some p =>
    obtain ⟨i, j, rfl, rfl, c, rfl⟩ := hb h dx dy p q
    cases rx
    cases ry
    rw [q] at P
    exact ⟨i, j, rfl, rfl, c, PostE.here (d := .int (f i j)) P R (.int _)⟩
theorem ite_some {α : Type} {c : Prop} [Decidable c] {a p : α} (e : (if c then some a else none) = some p) : c ∧ p = a := by
  by_cases h : c
  · rw [if_pos h] at e; cases e; exact ⟨h, rfl⟩
  · rw [if_neg h] at e; cases e
theorem op_subB : OpR X (binaryOp .Sub) (fun x y H Q => ∃ a b, x = .bl a ∧ y = .bl b ∧ Q (.int (b2i a - b2i b)) H) := by
  intro pins s σ H x y v u Q I rx ry h
  obtain ⟨a, b, rfl, rfl, q⟩ := h
  cases rx
  cases ry
  exact PyProof.Rows.sub_bool ⟨.int _, H, I.tok _, ⟨_, rfl⟩, q⟩
theorem ok_sub : OpOk X g .sub := by
  refine ⟨_, op_sub.or op_subB, fun W A α h σ H Q fz dx dy x y R rx ry P => ?_⟩
  cases rx with
  | int i => cases ry with
    | int j => exact .inl ⟨i, j, rfl, rfl, PostE.here (d := .int (i - j)) P R (.int _)⟩
    | _ => exact P.elim
  | bl i => cases ry with
    | bl j => exact .inr ⟨i, j, rfl, rfl, PostE.here (d := .int (b2i i - b2i j)) P R (.int _)⟩
    | _ => exact P.elim
  | _ => cases ry <;> exact P.elim
theorem ok_band : OpOk X g .band := ok_ii (C := fun _ _ => True) (f := fun i j => Builtin.bitAnd i j) (weakO op_and fun x y H Q ⟨i, j, a, b, _, q⟩ => ⟨i, j, a, b, q⟩) fun h dx dy p e => by
  cases dx with
  | int i => cases dy with
    | int j => cases e; exact ⟨i, j, rfl, rfl, trivial, rfl⟩
    | _ => cases e
  | _ => cases dy <;> cases e
theorem ok_bor : OpOk X g .bor := ok_ii (C := fun _ _ => True) (f := fun i j => Builtin.bitOr i j) (weakO op_or fun x y H Q ⟨i, j, a, b, _, q⟩ => ⟨i, j, a, b, q⟩) fun h dx dy p e => by
  cases dx with
  | int i => cases dy with
    | int j => cases e; exact ⟨i, j, rfl, rfl, trivial, rfl⟩
    | _ => cases e
  | _ => cases dy <;> cases e
theorem ok_pow : OpOk X g .pow := ok_ii (C := CPow) (f := fun i j => i ^ j.toNat) op_pow fun h dx dy p e => by
  cases dx with
  | int i => cases dy with
    | int j =>
      obtain ⟨c, rfl⟩ := ite_some (show (if okPow i j then some (P.v (.int (i ^ j.toNat))) else none) = some p from e)
      exact ⟨i, j, rfl, rfl, (of_decide_eq_true c : 0 ≤ j ∧ j ≤ 1000000 ∧ i.natAbs < 2 ^ 64), rfl⟩
    | _ => cases e
  | _ => cases dy <;> cases e
theorem ok_shl : OpOk X g .shl := ok_ii (C := CPow) (f := fun i j => i * 2 ^ j.toNat) op_shl fun h dx dy p e => by
  cases dx with
  | int i => cases dy with
    | int j =>
      obtain ⟨c, rfl⟩ := ite_some (show (if okPow i j then some (P.v (.int (i * 2 ^ j.toNat))) else none) = some p from e)
      exact ⟨i, j, rfl, rfl, (of_decide_eq_true c : 0 ≤ j ∧ j ≤ 1000000 ∧ i.natAbs < 2 ^ 64), rfl⟩
    | _ => cases e
  | _ => cases dy <;> cases e
theorem ok_shr : OpOk X g .shr := ok_ii (C := fun _ j => 0 ≤ j) (f := fun i j => i / 2 ^ j.toNat) op_shr fun h dx dy p e => by
  cases dx with
  | int i => cases dy with
    | int j =>
      obtain ⟨c, rfl⟩ := ite_some (show (if 0 ≤ j then some (P.v (.int (i / 2 ^ j.toNat))) else none) = some p from e)
      exact ⟨i, j, rfl, rfl, c, rfl⟩
    | _ => cases e
  | _ => cases dy <;> cases e
theorem ok_mod : OpOk X g .mod := ok_ii (C := fun _ j => j ≠ 0) (f := fun i j => i.fmod j) op_modN fun h dx dy p e => by
  cases dx with
  | int i => cases dy with
    | int j =>
      obtain ⟨c, rfl⟩ := ite_some (show (if j ≠ 0 then some (P.v (.int (i.fmod j))) else none) = some p from e)
      exact ⟨i, j, rfl, rfl, c, rfl⟩
    | _ => cases e
  | _ => cases dy <;> cases e
theorem ok_fdiv : OpOk X g .fdiv := ok_ii (C := fun i j => CDivN i j ∨ CDivW i j) (f := fun i j => i.fdiv j) (weakO (op_fdivN.or op_fdivW) fun x y H Q ⟨i, j, a, b, c, q⟩ => by
    rcases c with c | c
    · exact .inl ⟨i, j, a, b, c, q⟩
    · refine .inr ⟨i, j, a, b, c, ?_⟩
      have h0 : (0 : Int) < j := c.1
      have q : Q (.int (i.fdiv j)) H := q
      rw [Int.fdiv_eq_ediv_of_nonneg i (Int.le_of_lt h0)] at q
      exact q) fun h dx dy p e => by
  cases dx with
  | int i => cases dy with
    | int j =>
      obtain ⟨c, rfl⟩ := ite_some (show (if okDiv j then some (P.v (.int (i.fdiv j))) else none) = some p from e)
      refine ⟨i, j, rfl, rfl, ?_, rfl⟩
      unfold okDiv at c
      rw [Bool.or_eq_true] at c
      rcases c with c | c
      · exact .inl ⟨(of_decide_eq_true c).2, (of_decide_eq_true c).1⟩
      · exact .inr (of_decide_eq_true c : 0 < j ∧ j.natAbs.log2 < 9000)
    | _ => cases e
  | _ => cases dy <;> cases e
theorem okMul_C {i j : Int} (c : okMul i j = true) : CMul i j ∨ CMulW i j := by
  unfold okMul at c
  rw [Bool.or_eq_true, Bool.or_eq_true] at c
  rcases c with (c | c) | c
  · have := of_decide_eq_true c
    exact .inl (.inl (by omega))
  · have := of_decide_eq_true c
    exact .inl (.inr (by omega))
  · have := of_decide_eq_true c
    exact .inr (show _ < _ by omega)
theorem op_mulS : OpR X (binaryOp .Mult) (fun x y H Q => ∃ s j, x = .str s ∧ y = .int j ∧ (s.length ≤ 16 ∧ 0 ≤ j ∧ j ≤ 1000) ∧ Q (.str (Txt.mul s j)) H) := by
  intro pins s σ H x y v u Q I rx ry h
  obtain ⟨a, j, rfl, rfl, ⟨h1, h2, h3⟩, q⟩ := h
  obtain ⟨t, rfl⟩ := rx
  obtain ⟨t', rfl⟩ := ry
  exact SB.mul (PyProof.Rows.mulOk_of 16 1000 h1 (by omega) (by omega) (by decide) (by decide)) fun t2 k => ⟨.str _, H, I.tok _, ⟨_, rfl⟩, q⟩
theorem ok_mul : OpOk X g .mul := by
  refine ⟨_, op_mul.or (op_mulW.or (op_rep.or (op_repT.or op_mulS))), fun W A α h σ H Q fz dx dy x y R rx ry P => ?_⟩
  cases ry with
  | int j =>
    have lists : ∀ {dx : D} {x : L2.V} (rx : Rep A α H dx x), PostE g A α H σ W Q (fin fz (if (decide (-1000000 ≤ j ∧ j ≤ 1000000)) then match vm h dx with
        | some (false, a) => if a.length * j.toNat ≤ lim then some (.l (repl a j.toNat)) else none
        | some (true, a) => if !a.isEmpty ∧ 2 ≤ j ∧ j ≤ 1000 ∧ a.length ≤ 1000 then some (.v (.tup (repl a j.toNat))) else none
        | none => none
      else none) h) → rRep x (.int j) H Q ∨ rRepT X.K x (.int j) H Q := by
      intro dx x rx P
      by_cases hj : (decide (-1000000 ≤ j ∧ j ≤ 1000000)) = true
      · rw [if_pos hj] at P
        have hj := of_decide_eq_true hj
        cases e1 : vm h dx with
        | none => rw [e1] at P; exact P.elim
        | some p =>
          obtain ⟨k, a⟩ := p
          rw [e1] at P
          cases k with
          | false =>
            obtain ⟨p, xs, rfl, hp, r1⟩ := vm_list R rx e1
            dsimp only at P
            by_cases hl : a.length * j.toNat ≤ lim
            · rw [if_pos hl] at P
              refine .inl ⟨p, j, xs, rfl, rfl, hp, by omega, by omega, by rw [← r1.length]; exact lim_le hl, fun z n => PostE.new P R (r1.repl _) n⟩
            · rw [if_neg hl] at P; exact P.elim
          | true =>
            obtain ⟨p, xs, rfl, hp, r1⟩ := vm_tup R rx e1
            dsimp only at P
            by_cases hl : (!a.isEmpty) = true ∧ 2 ≤ j ∧ j ≤ 1000 ∧ a.length ≤ 1000
            · rw [if_pos hl] at P
              refine .inr ⟨p, j, xs, rfl, rfl, .inl (.inl hp), fun z => ?_, hl.2.1, hl.2.2.1, by rw [← r1.length]; exact hl.2.2.2, fun z n => PostE.tupNew P R (r1.repl _) n⟩
              subst z
              cases r1
              exact absurd hl.1 (by decide)
            · rw [if_neg hl] at P; exact P.elim
      · rw [if_neg hj] at P; exact P.elim
    cases rx with
    | int i =>
      have P : PostE g A α H σ W Q (fin fz (if okMul i j then some (.v (.int (i * j))) else none) h) := P
      by_cases hc : okMul i j = true
      · rw [if_pos hc] at P
        have q := PostE.here (d := .int (i * j)) P R (.int _)
        rcases okMul_C hc with c | c
        · exact .inl ⟨i, j, rfl, rfl, c, q⟩
        · exact .inr (.inl ⟨i, j, rfl, rfl, c, q⟩)
      · rw [if_neg hc] at P; exact P.elim
    | non => exact .inr (.inr ((lists .non P).imp_right .inl))
    | bl b => exact .inr (.inr ((lists (.bl b) P).imp_right .inl))
    | str b =>
      have P : PostE g A α H σ W Q (fin fz (if b.length ≤ 16 ∧ 0 ≤ j ∧ j ≤ 1000 then some (.v (.str (Txt.mul b j))) else none) h) := P
      by_cases hc : b.length ≤ 16 ∧ 0 ≤ j ∧ j ≤ 1000
      · rw [if_pos hc] at P
        exact .inr (.inr (.inr (.inr ⟨b, j, rfl, rfl, hc, PostE.here (d := .str (Txt.mul b j)) P R (.str _)⟩)))
      · rw [if_neg hc] at P; exact P.elim
    | ref k => exact .inr (.inr ((lists (.ref k) P).imp_right .inl))
    | lst h1 h2 h3 h4 => exact .inr (.inr ((lists (.lst h1 h2 h3 h4) P).imp_right .inl))
    | tup h1 h2 h3 h4 => exact .inr (.inr ((lists (.tup h1 h2 h3 h4) P).imp_right .inl))
    | dct h1 h2 h3 h4 h5 => exact .inr (.inr ((lists (.dct h1 h2 h3 h4 h5) P).imp_right .inl))
  | _ => cases rx <;> exact P.elim
theorem op_all (o : Bop) : OpOk X g o := by
  cases o
  · exact ok_add
  · exact ok_sub
  · exact ok_mul
  · exact ok_fdiv
  · exact ok_mod
  · exact ok_pow
  · exact ok_shl
  · exact ok_shr
  · exact ok_band
  · exact ok_bor
theorem s_bin {o : Bop} {fz : Bool} {a b : Expr} {ma mb : E} (ha : PE X a (vE g W cx ma)) (hb : PE X b (vE g W cx mb)) : PE X (.BinOp a (opOf o) b pos) (vE g W cx (.bin o fz ma mb)) := by
  obtain ⟨r, hr, k⟩ := op_all (X := X) (g := g) o
  refine weakE (pe_op hr ha hb) fun σ H Q ⟨ξ, A, α, h, env, R, P⟩ => ?_
  exact vE_bind R P fun d h1 α1 H1 x e1 R1 r1 P1 => vE_bind R1 P1 fun d2 h2 α2 H2 y e2 R2 r2 P2 => k W A α2 h2 σ H2 Q fz d d2 x y R2.h (r1.ext e2) r2 P2
theorem s_neg {a : Expr} {ma : E} (ha : PE X a (vE g W cx ma)) : PE X (.UnaryOp .USub a pos) (vE g W cx (.neg ma)) := by
  refine weakE (pe_un un_neg ha) fun σ H Q ⟨ξ, A, α, h, env, R, P⟩ => ?_
  refine vE_bind R P fun d h1 α1 H1 x e1 R1 r1 P1 => ?_
  cases r1 with
  | int i => exact ⟨i, rfl, PostE.here (d := .int (-i)) P1 R1.h (.int _)⟩
  | _ => exact P1.elim
end
end TB

end

section
set_option Elab.async false
set_option linter.all false
set_option maxHeartbeats 1000000
namespace TB
open PySem L2

section
variable {X : L2.Cx} {g : G} {W : L2.WX} {cx : Cx} {pos : Pos}
variable {ξ : Xi} {A : Av} {α : List Addr} {h : Lh} {env : Env} {σ : L2.St} {H : Hp}
/-! ### comparisons -/
def copOf : Cop → CmpOp
  | .eq => .Eq | .ne => .NotEq | .lt => .Lt | .le => .LtE | .gt => .Gt | .ge => .GtE | .is => .Is | .isn => .IsNot | .in_ => .In | .nin => .NotIn
def CmpOk (X : L2.Cx) (o : Cop) : Prop := ∃ r : L2.R2, OpR X (compareOp (copOf o)) r ∧
  ∀ (A : Av) (α : List Addr) (h : Lh) (H : Hp) (Q : L2.VK) (dx dy : D) (x y : L2.V) (b : Bool), HRel A α h H → Rep A α H dx x → Rep A α H dy y → cop h o dx dy = some b → Q (.bl b) H → r x y H Q
mutual
theorem dp_of {K : Frag} : ∀ (d : D) (x : L2.V) (p : PyData), Rep A [] H d x → d.py = some p → Dp K H x p
  | .non, _, _, r, e => by cases r; cases e; exact .non
  | .bl b, _, _, r, e => by cases r; cases e; exact .bl b
  | .int i, _, _, r, e => by cases r; cases e; exact .int i
  | .str s, _, _, r, e => by cases r; cases e; exact .str s
  | .ref n, _, _, _, e => by cases e
  | .lst ds, _, p, r, e => by
    cases r with
    | lst h1 h2 h3 h4 =>
      obtain ⟨ps, e1, rfl⟩ := Option.map_eq_some_iff.mp (show (pys ds).map PyData.list = some p from e)
      exact .lst (.inl (.inl h3)) (dps_of ds _ ps h4 e1)
  | .tup ds, _, p, r, e => by
    cases r with
    | tup h1 h2 h3 h4 =>
      obtain ⟨ps, e1, rfl⟩ := Option.map_eq_some_iff.mp (show (pys ds).map PyData.tuple = some p from e)
      exact .tup (.inl (.inl h3)) (dps_of ds _ ps h4 e1)
  | .dct _ _, _, _, _, e => by cases e
  | .exc _ _, _, _, _, e => by cases e
theorem dps_of {K : Frag} : ∀ (ds : List D) (xs : List L2.V) (ps : List PyData), Reps A [] H ds xs → pys ds = some ps → DpAll K H xs ps
  | [], _, _, r, e => by cases r; cases e; exact .nil
  | d :: ds, _, ps, r, e => by
    cases r with
    | cons r1 r2 =>
      obtain ⟨p, e1, e2⟩ := Option.bind_eq_some_iff.mp (show d.py.bind (fun p => (pys ds).map (p :: ·)) = some ps from e)
      obtain ⟨qs, e3, rfl⟩ := Option.map_eq_some_iff.mp e2
      exact .cons (dp_of d _ p r1 e1) (dps_of ds _ qs r2 e3)
end
/-- two lists of unlike lengths -/
def rUn (b : Bool) : L2.R2 := fun x y H Q => ∃ p q xs ys, x = .ref p ∧ y = .ref q ∧ H p = some (.lst xs) ∧ H q = some (.lst ys) ∧ xs.length ≠ ys.length ∧ Q (.bl b) H
theorem un_sizes {pins : List (Addr × Obj)} {s : Shared} {p q : Addr} {xs ys : List L2.V} (I : L2.Inv X pins σ H s) (hp : H p = some (.lst xs)) (hq : H q = some (.lst ys)) (hn : xs.length ≠ ys.length) :
    ∃ us ws : Array Value, s.heap.IsList p us ∧ s.heap.IsList q ws ∧ (us.size != ws.size) = true := by
  obtain ⟨us, r1, p1, _⟩ := I.list (.inl (.inl hp))
  obtain ⟨ws, r2, p2, _⟩ := I.list (.inl (.inl hq))
  refine ⟨_, _, p1.isList, p2.isList, ?_⟩
  have e1 := r1.length
  have e2 := r2.length
  simp only [List.size_toArray, bne_iff_ne]
  omega
theorem op_eqU (hu : X.A.units < cLine) : OpR X (compareOp .Eq) (rUn false) := by
  intro pins s σ H x y v u Q I rx ry h
  obtain ⟨p, q, xs, ys, rfl, rfl, hp, hq, hn, k⟩ := h
  cases rx
  cases ry
  obtain ⟨us, ws, p1, p2, hz⟩ := un_sizes I hp hq hn
  exact SeqAt.eq_list_lengthsAt p1 p2 hz hu ⟨.bl false, H, I, rfl, k⟩
theorem op_neU (hu : X.A.units < cLine) : OpR X (compareOp .NotEq) (rUn true) := by
  intro pins s σ H x y v u Q I rx ry h
  obtain ⟨p, q, xs, ys, rfl, rfl, hp, hq, hn, k⟩ := h
  cases rx
  cases ry
  obtain ⟨us, ws, p1, p2, hz⟩ := un_sizes I hp hq hn
  exact SeqAt.RcNeAt.lists_lengths p1 p2 hz hu _ _ _ _ ⟨.bl true, H, I, rfl, k⟩
theorem unlike_lists (R : HRel A α h H) {dx dy : D} {x y : L2.V} (rx : Rep A α H dx x) (ry : Rep A α H dy y) (e : unlike h dx dy = true) :
    ∃ p q xs ys, x = .ref p ∧ y = .ref q ∧ H p = some (.lst xs) ∧ H q = some (.lst ys) ∧ xs.length ≠ ys.length := by
  unfold unlike at e
  cases e1 : vm h dx with
  | none => rw [e1] at e; cases e
  | some p =>
    obtain ⟨k, a⟩ := p
    cases e2 : vm h dy with
    | none => rw [e1, e2] at e; cases k <;> cases e
    | some p2 =>
      obtain ⟨k2, b⟩ := p2
      rw [e1, e2] at e
      cases k with
      | true => cases e
      | false =>
        cases k2 with
        | true => cases e
        | false =>
          obtain ⟨p, xs, rfl, hp, r1⟩ := vm_list R rx e1
          obtain ⟨q, ys, rfl, hq, r2⟩ := vm_list R ry e2
          have e : (a.length != b.length) = true := e
          rw [bne_iff_ne, r1.length, r2.length] at e
          exact ⟨p, q, xs, ys, rfl, rfl, hp, hq, e⟩
theorem eqD_cases (R : HRel A α h H) {dx dy : D} {x y : L2.V} {b : Bool} (rx : Rep A α H dx x) (ry : Rep A α H dy y) (e : eqD h dx dy = some b) {K : Frag} :
    (b = false ∧ ∃ p q xs ys, x = .ref p ∧ y = .ref q ∧ H p = some (.lst xs) ∧ H q = some (.lst ys) ∧ xs.length ≠ ys.length) ∨
      ∃ p q, Dp K H x p ∧ Dp K H y q ∧ SeqAt.shaped p = true ∧ SeqAt.shaped q = true ∧ b = PyData.eqv p q := by
  unfold eqD at e
  by_cases hu : unlike h dx dy = true
  · rw [if_pos hu] at e
    cases e
    exact .inl ⟨rfl, unlike_lists R rx ry hu⟩
  · rw [if_neg hu] at e
    cases e1 : thaw h deep dx with
    | none => rw [e1] at e; cases e
    | some a =>
      cases e2 : thaw h deep dy with
      | none => rw [e1, e2] at e; cases e
      | some c =>
        rw [e1, e2] at e
        dsimp only at e
        cases e3 : a.py with
        | none => rw [e3] at e; cases e
        | some p =>
          cases e4 : c.py with
          | none => rw [e3, e4] at e; cases e
          | some q =>
            rw [e3, e4] at e
            obtain ⟨c1, c2⟩ := ite_some e
            rw [Bool.and_eq_true] at c1
            exact .inr ⟨p, q, dp_of a _ p (thaw_rep R rx e1) e3, dp_of c _ q (thaw_rep R ry e2) e4, c1.1, c1.2, c2⟩
theorem cmp_eq (hu : X.A.units + 64 < cLine) : CmpOk X .eq := by
  refine ⟨_, (op_eqD hu).or (op_eqU (by omega)), fun A α h H Q dx dy x y b R rx ry e q => ?_⟩
  rcases eqD_cases (K := X.K) R rx ry e with ⟨rfl, p, q', xs, ys, rfl, rfl, h1, h2, h3⟩ | ⟨p, q', h1, h2, h3, h4, rfl⟩
  · exact .inr ⟨p, q', xs, ys, rfl, rfl, h1, h2, h3, q⟩
  · exact .inl ⟨p, q', h1, h2, h3, h4, q⟩
theorem cmp_ne (hu : X.A.units + 64 < cLine) : CmpOk X .ne := by
  refine ⟨_, (op_neD hu).or (op_neU (by omega)), fun A α h H Q dx dy x y b R rx ry e q => ?_⟩
  obtain ⟨b', e', rfl⟩ := Option.map_eq_some_iff.mp (show (eqD h dx dy).map (!·) = some b from e)
  rcases eqD_cases (K := X.K) R rx ry e' with ⟨rfl, p, q', xs, ys, rfl, rfl, h1, h2, h3⟩ | ⟨p, q', h1, h2, h3, h4, rfl⟩
  · exact .inr ⟨p, q', xs, ys, rfl, rfl, h1, h2, h3, q⟩
  · exact .inl ⟨p, q', h1, h2, h3, h4, q⟩
theorem cmp_ii {o : Cop} {f : Int → Int → Bool} (hr : OpR X (compareOp (copOf o)) (rI0 fun i j => .bl (f i j)))
    (hb : ∀ h dx dy b, cop h o dx dy = some b → ∃ i j, dx = .int i ∧ dy = .int j ∧ b = f i j) : CmpOk X o := by
  refine ⟨_, hr, fun A α h H Q dx dy x y b R rx ry e q => ?_⟩
  obtain ⟨i, j, rfl, rfl, rfl⟩ := hb h dx dy b e
  cases rx
  cases ry
  exact ⟨i, j, rfl, rfl, q⟩
theorem intsOf_V {ds : List D} {xs : List L2.V} {is : List Int} (r : Reps A α H ds xs) (e : intsOf ds = some is) : xs = is.map L2.V.int := by
  induction ds generalizing xs is with
  | nil => cases r; cases e; rfl
  | cons d ds ih =>
    cases r with
    | cons r1 r2 =>
      obtain ⟨i, e1, e2⟩ := Option.bind_eq_some_iff.mp (show (asInt d).bind (fun i => (intsOf ds).map (i :: ·)) = some is from e)
      obtain ⟨js, e3, rfl⟩ := Option.map_eq_some_iff.mp e2
      cases r1 with
      | int j => cases e1; rw [ih r2 e3]; rfl
      | _ => cases e1
/-- an order of tuples of whole numbers -/
def rLx (K : PySem.W.Frag) (r : Int → Int → Bool) (z : Nat → Nat → Bool) : L2.R2 := fun x y H Q => ∃ (a b : Addr) (ns ms : List Int), (x = .ref a ∧ y = .ref b) ∧ ((SqT K H a (ns.map L2.V.int) ∧ SqT K H b (ms.map L2.V.int)) ∧ Q (.bl (lxT r z ns ms)) H)
theorem op_lx {o : CmpOp} {r : Int → Int → Bool} {z : Nat → Nat → Bool} (hc : ∀ x y : Value, compareOp o x y = richCompare o x y) (hu : X.A.units < cLine) (hi : ∀ (A : Around) (s : Shared) (a b : Int) (t u : Tok), Ob.RcOp o A s (.int a t) (.int b u) (r a b))
    (ht : ∀ {A : Around} {s : Shared} {l b : Addr} {vs ws : Array Value} {e q : Nat → Bool}, s.heap.IsTuple l vs → s.heap.IsTuple b ws → A.units < cLine → (∀ j (h1 : j < vs.size) (h2 : j < ws.size), SeqAt.EqAt A.in1 s vs[j] ws[j] (e j)) →
      (∀ j (h1 : j < vs.size) (h2 : j < ws.size), e j = false → Ob.RcOp o A.in1 s vs[j] ws[j] (q j)) → Ob.RcOp o A s (.ref l) (.ref b) (Ob.lexAt e q (z vs.size ws.size) 0 (min vs.size ws.size))) : OpR X (compareOp o) (rLx X.K r z) := by
  intro pins s σ H x y v u Q I rx ry h
  obtain ⟨a, b, ns, ms, ⟨rfl, rfl⟩, ⟨ha, hb⟩, q⟩ := h
  cases rx
  cases ry
  obtain ⟨us, v1, p1, _⟩ := I.tuple ha
  obtain ⟨ws, v2, p2, _⟩ := I.tuple hb
  have n1 : PyProof.Rows.IntsAre us ns := Vals.ints v1
  have n2 : PyProof.Rows.IntsAre ws ms := Vals.ints v2
  have k1 : us.toArray.size = ns.length := by rw [List.size_toArray]; exact n1.length
  have k2 : ws.toArray.size = ms.length := by rw [List.size_toArray]; exact n2.length
  have g1 : ∀ j (h : j < us.toArray.size), ∃ t, us.toArray[j] = .int (ns.getD j 0) t := fun j h => PyProof.Rows.IntsAre.int_at n1 _ _ (by simp at h; simp [h])
  have g2 : ∀ j (h : j < ws.toArray.size), ∃ t, ws.toArray[j] = .int (ms.getD j 0) t := fun j h => PyProof.Rows.IntsAre.int_at n2 _ _ (by simp at h; simp [h])
  have R := ht (A := X.A) (s := s) (e := fun j => decide (ns.getD j 0 = ms.getD j 0)) (q := fun j => r (ns.getD j 0) (ms.getD j 0)) p1 p2 hu
    (fun j h1 h2 => by
      obtain ⟨t, e1⟩ := g1 j h1
      obtain ⟨t', e2⟩ := g2 j h2
      have w : decide (ns.getD j 0 = ms.getD j 0) = (ns.getD j 0 == ms.getD j 0) := by
        by_cases c : ns.getD j 0 = ms.getD j 0
        · rw [c]; simp
        · rw [decide_eq_false c]; exact (beq_eq_false_iff_ne.mpr c).symm
      rw [e1, e2, w]; exact SeqAt.EqAt.int_int _ _ _ _)
    (fun j h1 h2 _ => by
      obtain ⟨t, e1⟩ := g1 j h1
      obtain ⟨t', e2⟩ := g2 j h2
      rw [e1, e2]; exact hi _ _ _ _ _ _)
  rw [k1, k2] at R
  rw [hc]
  exact R X.prog X.w X.xe (EP X pins σ Q) ⟨.bl _, H, I, rfl, q⟩
theorem op_ltT (hu : X.A.units < cLine) : OpR X (compareOp .Lt) (rLx X.K (fun i j => decide (i < j)) fun n m => decide (n < m)) := op_lx (fun _ _ => rfl) hu (fun _ _ _ _ _ _ => Ob.RcOp.lt_int _ _ _ _) fun a b c d e => Ob.RcOp.tuples_lt a b c d e
theorem op_gtT (hu : X.A.units < cLine) : OpR X (compareOp .Gt) (rLx X.K (fun i j => decide (j < i)) fun n m => decide (n > m)) := op_lx (fun _ _ => rfl) hu (fun _ _ _ _ _ _ => Ob.RcOp.gt_int _ _ _ _) fun a b c d e => Ob.RcOp.tuples_gt a b c d e
theorem cmp_it {o : Cop} {f : Int → Int → Bool} {z : Nat → Nat → Bool} (hr : OpR X (compareOp (copOf o)) (rI0 fun i j => .bl (f i j))) (hr2 : OpR X (compareOp (copOf o)) (rLx X.K f z))
    (hb : ∀ h dx dy b, cop h o dx dy = some b → (∃ i j, dx = .int i ∧ dy = .int j ∧ b = f i j) ∨ ∃ es fs, dx = .tup es ∧ dy = .tup fs ∧ lxO f z es fs = some b) : CmpOk X o := by
  refine ⟨_, hr.or hr2, fun A α h H Q dx dy x y b R rx ry e q => ?_⟩
  rcases hb h dx dy b e with ⟨i, j, rfl, rfl, rfl⟩ | ⟨es, fs, rfl, rfl, e'⟩
  · cases rx
    cases ry
    exact .inl ⟨i, j, rfl, rfl, q⟩
  · cases rx with
    | tup a1 a2 a3 a4 => cases ry with
      | tup b1 b2 b3 b4 =>
        unfold lxO at e'
        split at e'
        · rename_i ns ms e1 e2
          cases e'
          have x1 := intsOf_V a4 e1
          have x2 := intsOf_V b4 e2
          subst x1 x2
          exact .inr ⟨_, _, ns, ms, ⟨rfl, rfl⟩, ⟨.inl (.inl a3), .inl (.inl b3)⟩, q⟩
        · cases e'
theorem cmp_lt (hu : X.A.units < cLine) : CmpOk X .lt := cmp_it op_lt (op_ltT hu) fun h dx dy b e => by
  cases dx with
  | int i => cases dy with
    | int j => cases e; exact .inl ⟨i, j, rfl, rfl, rfl⟩
    | _ => cases e
  | tup es => cases dy with
    | tup fs => exact .inr ⟨es, fs, rfl, rfl, e⟩
    | _ => cases e
  | _ => cases dy <;> cases e
theorem cmp_le : CmpOk X .le := cmp_ii op_le fun h dx dy b e => by
  cases dx with
  | int i => cases dy with
    | int j => cases e; exact ⟨i, j, rfl, rfl, rfl⟩
    | _ => cases e
  | _ => cases dy <;> cases e
theorem cmp_gt (hu : X.A.units < cLine) : CmpOk X .gt := cmp_it op_gt (op_gtT hu) fun h dx dy b e => by
  cases dx with
  | int i => cases dy with
    | int j => cases e; exact .inl ⟨i, j, rfl, rfl, rfl⟩
    | _ => cases e
  | tup es => cases dy with
    | tup fs => exact .inr ⟨es, fs, rfl, rfl, e⟩
    | _ => cases e
  | _ => cases dy <;> cases e
theorem cmp_ge : CmpOk X .ge := cmp_ii op_ge fun h dx dy b e => by
  cases dx with
  | int i => cases dy with
    | int j => cases e; exact ⟨i, j, rfl, rfl, rfl⟩
    | _ => cases e
  | _ => cases dy <;> cases e
theorem isD_cases {dx dy : D} {b : Bool} (e : isD dx dy = some b) : (dy = .non ∧ b = isNon dx) ∨ ∃ i j, dx = .bl i ∧ dy = .bl j ∧ b = (i == j) := by
  cases dy with
  | non => cases dx <;> (cases e; exact .inl ⟨rfl, rfl⟩)
  | bl j => cases dx with
    | bl i => cases e; exact .inr ⟨i, j, rfl, rfl, rfl⟩
    | _ => cases e
  | _ => cases dx <;> cases e
theorem is_non {dx : D} {x : L2.V} (r : Rep A α H dx x) : isNon dx = decide (x = .non) := by
  cases r <;> rfl
theorem cmp_is : CmpOk X .is := by
  refine ⟨_, op_isN.or op_is_bl, fun A α h H Q dx dy x y b R rx ry e q => ?_⟩
  rcases isD_cases (show isD dx dy = some b from e) with ⟨rfl, rfl⟩ | ⟨i, j, rfl, rfl, rfl⟩
  · cases ry
    rw [is_non rx] at q
    exact .inl ⟨rfl, q⟩
  · cases rx
    cases ry
    exact .inr ⟨i, j, rfl, rfl, by rw [show decide (i = j) = (i == j) from by cases i <;> cases j <;> rfl]; exact q⟩
theorem cmp_isn : CmpOk X .isn := by
  refine ⟨_, op_notN.or op_isnot_bl, fun A α h H Q dx dy x y b R rx ry e q => ?_⟩
  obtain ⟨b', e', rfl⟩ := Option.map_eq_some_iff.mp (show (isD dx dy).map (!·) = some b from e)
  rcases isD_cases e' with ⟨rfl, rfl⟩ | ⟨i, j, rfl, rfl, rfl⟩
  · cases ry
    rw [is_non rx] at q
    exact .inl ⟨rfl, q⟩
  · cases rx
    cases ry
    exact .inr ⟨i, j, rfl, rfl, by rw [show decide (i = j) = (i == j) from by cases i <;> cases j <;> rfl]; exact q⟩
/-! in -/
def rDin (neg : Bool) : L2.R2 := fun x y H Q => ∃ a o, y = .ref a ∧ DGet H a x o ∧ Q (.bl (if neg then !o.isSome else o.isSome)) H
theorem op_inD (hu : X.A.units + 1 < cLine) : OpR X (compareOp .In) (rDin false) := by
  intro pins s σ H x y v u Q I rx ry h
  obtain ⟨a, o, rfl, g, q⟩ := h
  cases ry
  exact d_in hu I g rx fun s' I' => ⟨.bl o.isSome, H, I', rfl, q⟩
theorem op_notInD (hu : X.A.units + 1 < cLine) : OpR X (compareOp .NotIn) (rDin true) := by
  intro pins s σ H x y v u Q I rx ry h
  obtain ⟨a, o, rfl, g, q⟩ := h
  cases ry
  exact d_notIn hu I g rx fun s' I' => ⟨.bl (!o.isSome), H, I', rfl, q⟩
theorem flat_V {d : D} {x : L2.V} (r : Rep A α H d x) (f : flat d = true) : flatV x = true := by
  cases r <;> first | rfl | cases f
theorem flats_V {ds : List D} {xs : List L2.V} (r : Reps A α H ds xs) (f : ds.all flat = true) : xs.all flatV = true := by
  induction ds generalizing xs with
  | nil => cases r; rfl
  | cons d ds ih =>
    cases r with
    | cons r1 r2 =>
      rw [List.all_cons, Bool.and_eq_true] at f
      rw [List.all_cons, Bool.and_eq_true]
      exact ⟨flat_V r1 f.1, ih r2 f.2⟩
theorem eqS_V {d e : D} {x y : L2.V} (r : Rep A α H d x) (k : Rep A α H e y) (f : flat d = true) (f' : flat e = true) : eqS d e = eqV x y := by
  cases r <;> first
    | (cases k <;> first | rfl | cases f')
    | cases f
theorem anyS_V {ds : List D} {xs : List L2.V} {e : D} {y : L2.V} (r : Reps A α H ds xs) (k : Rep A α H e y) (f : ds.all flat = true) (f' : flat e = true) : (ds.any fun z => eqS z e) = inV y xs := by
  unfold inV
  induction ds generalizing xs with
  | nil => cases r; rfl
  | cons d ds ih =>
    cases r with
    | cons r1 r2 =>
      rw [List.all_cons, Bool.and_eq_true] at f
      rw [List.any_cons, List.any_cons, eqS_V r1 k f.1 f', ih r2 f.2]
theorem keyOf_V {d : D} {x : L2.V} {k : Ky} (r : Rep A α H d x) (e : keyOf d = some k) : x = kV k := by
  cases r with
  | int i => cases e; rfl
  | str s => cases e; rfl
  | _ => cases e
theorem valV_some {kvs : List (L2.Key × L2.V)} {k : Ky} : (valV kvs k).isSome = (kvs.map (·.1)).any fun q => decide (q = k) := by
  induction kvs with
  | nil => rfl
  | cons p kvs ih =>
    by_cases e : p.1 = k
    · rw [valV_pos e, List.map_cons, List.any_cons, decide_eq_true e]; rfl
    · rw [valV_neg e, List.map_cons, List.any_cons, decide_eq_false e, ih]; rfl
theorem inD_cases (R : HRel A α h H) {dx dy : D} {x y : L2.V} {b : Bool} (rx : Rep A α H dx x) (ry : Rep A α H dy y) (e : inD h dx dy = some b) {K : Frag} :
    (∃ a o, y = .ref a ∧ DGet H a x o ∧ b = o.isSome) ∨ (∃ s t, x = .str s ∧ y = .str t ∧ b = (!(Builtin.Str.occurrences t s 0 t.length 1).isEmpty)) ∨
      ∃ p xs, y = .ref p ∧ (SqL K H p xs ∨ SqT K H p xs) ∧ flatV x = true ∧ xs.all flatV = true ∧ b = inV x xs := by
  unfold inD at e
  cases e1 : vd h dy with
  | some p =>
    obtain ⟨ks, ds⟩ := p
    rw [e1] at e
    obtain ⟨a, kvs, rfl, hd, rfl, _⟩ := vd_dict R ry e1
    dsimp only at e
    cases e2 : keyOf dx with
    | none => rw [e2] at e; cases e
    | some k =>
      rw [e2] at e
      cases e
      refine .inl ⟨a, valV kvs k, rfl, .inl ⟨kvs, k, hd, keyOf_V rx e2, rfl⟩, ?_⟩
      rw [valV_some]
  | none =>
    rw [e1] at e
    have seq : ∀ {dy : D} {y : L2.V} (ry : Rep A α H dy y), (match vw h dy with
        | some (_, ds) => if flat dx && ds.all flat then some (ds.any fun z => eqS z dx) else none
        | none => none) = some b → ∃ p xs, y = .ref p ∧ (SqL K H p xs ∨ SqT K H p xs) ∧ flatV x = true ∧ xs.all flatV = true ∧ b = inV x xs := by
      intro dy y ry e
      cases e3 : vw h dy with
      | none => rw [e3] at e; cases e
      | some p =>
        obtain ⟨k, ds⟩ := p
        rw [e3] at e
        obtain ⟨c, rfl⟩ := ite_some e
        rw [Bool.and_eq_true] at c
        cases k with
        | false =>
          obtain ⟨p, xs, rfl, hp, r1⟩ := vw_list R ry e3
          exact ⟨p, xs, rfl, .inl (.inl hp), flat_V rx c.1, flats_V r1 c.2, anyS_V r1 rx c.2 c.1⟩
        | true =>
          obtain ⟨p, xs, rfl, hp, r1⟩ := vw_tup R ry e3
          exact ⟨p, xs, rfl, .inr (.inl (.inl hp)), flat_V rx c.1, flats_V r1 c.2, anyS_V r1 rx c.2 c.1⟩
    cases ry with
    | str t =>
      cases rx with
      | str s => cases e; exact .inr (.inl ⟨s, t, rfl, rfl, rfl⟩)
      | _ => cases e
    | non => exact .inr (.inr (seq .non e))
    | bl c => exact .inr (.inr (seq (.bl c) e))
    | int c => exact .inr (.inr (seq (.int c) e))
    | ref k => exact .inr (.inr (seq (.ref k) e))
    | lst h1 h2 h3 h4 => exact .inr (.inr (seq (.lst h1 h2 h3 h4) e))
    | tup h1 h2 h3 h4 => exact .inr (.inr (seq (.tup h1 h2 h3 h4) e))
    | dct h1 h2 h3 h4 h5 => exact .inr (.inr (seq (.dct h1 h2 h3 h4 h5) e))
theorem cmp_in (hu : X.A.units + 64 < cLine) : CmpOk X .in_ := by
  refine ⟨_, (op_inD (by omega)).or (op_in_str.or op_in_seq), fun A α h H Q dx dy x y b R rx ry e q => ?_⟩
  rcases inD_cases (K := X.K) R rx ry e with ⟨a, o, rfl, g, rfl⟩ | ⟨s, t, rfl, rfl, rfl⟩ | ⟨p, xs, rfl, h1, h2, h3, rfl⟩
  · exact .inl ⟨a, o, rfl, g, q⟩
  · exact .inr (.inl ⟨s, t, rfl, rfl, q⟩)
  · exact .inr (.inr ⟨p, xs, rfl, h1, h2, h3, q⟩)
theorem cmp_nin (hu : X.A.units + 64 < cLine) : CmpOk X .nin := by
  refine ⟨_, (op_notInD (by omega)).or (op_notin_str.or op_notIn_seq), fun A α h H Q dx dy x y b R rx ry e q => ?_⟩
  obtain ⟨b', e', rfl⟩ := Option.map_eq_some_iff.mp (show (inD h dx dy).map (!·) = some b from e)
  rcases inD_cases (K := X.K) R rx ry e' with ⟨a, o, rfl, g, rfl⟩ | ⟨s, t, rfl, rfl, rfl⟩ | ⟨p, xs, rfl, h1, h2, h3, rfl⟩
  · exact .inl ⟨a, o, rfl, g, q⟩
  · exact .inr (.inl ⟨s, t, rfl, rfl, q⟩)
  · exact .inr (.inr ⟨p, xs, rfl, h1, h2, h3, q⟩)
theorem cmp_all (hu : X.A.units + 64 < cLine) (o : Cop) : CmpOk X o := by
  cases o
  · exact cmp_eq hu
  · exact cmp_ne hu
  · exact cmp_lt (by omega)
  · exact cmp_le
  · exact cmp_gt (by omega)
  · exact cmp_ge
  · exact cmp_is
  · exact cmp_isn
  · exact cmp_in hu
  · exact cmp_nin hu
theorem rsO_cop {Q : L2.VK} {o : Cop} {dx dy : D} (P : PostE g A α H σ W Q (rsO ((cop h o dx dy).map .bl) h)) (R : HRel A α h H) : ∃ b, cop h o dx dy = some b ∧ Q (.bl b) H := by
  cases e : cop h o dx dy with
  | none => rw [e] at P; exact P.elim
  | some b => rw [e] at P; exact ⟨b, rfl, PostE.here (d := .bl b) P R (.bl b)⟩
theorem rsO_copT {Q : Bool → Hp → Prop} {o : Cop} {dx dy : D} (P : PostT g A α H σ W Q (rsO ((cop h o dx dy).map .bl) h)) (R : HRel A α h H) : ∃ b, cop h o dx dy = some b ∧ Q b H := by
  cases e : cop h o dx dy with
  | none => rw [e] at P; exact P.elim
  | some b =>
    rw [e] at P
    obtain ⟨c, e2, q⟩ := P
    cases e2
    exact ⟨b, rfl, q α H .refl R⟩
theorem s_cmp (hu : X.A.units + 64 < cLine) {o : Cop} {a b : Expr} {ma mb : E} (ha : PE X a (vE g W cx ma)) (hb : PE X b (vE g W cx mb)) (hm : behindInMarks (copOf o) b = false) : PE X (.Compare a [copOf o] [b] pos) (vE g W cx (.cmp o ma mb)) := by
  obtain ⟨r, hr, k⟩ := cmp_all hu o
  refine weakE (pe_cmpR hr ha hb hm) fun σ H Q ⟨ξ, A, α, h, env, R, P⟩ => ?_
  exact vE_bind R P fun d h1 α1 H1 x e1 R1 r1 P1 => vE_bind R1 P1 fun d2 h2 α2 H2 y e2 R2 r2 P2 =>
    let ⟨b, e, q⟩ := rsO_cop P2 R2.h
    k A α2 h2 H2 Q d d2 x y b R2.h (r1.ext e2) r2 e q
theorem t_cmp (hu : X.A.units + 64 < cLine) {o : Cop} {a b : Expr} {ma mb : E} (ha : PE X a (vE g W cx ma)) (hb : PE X b (vE g W cx mb)) (hm : behindInMarks (copOf o) b = false) : PT X (.Compare a [copOf o] [b] pos) (vT g W cx (.cmp o ma mb)) := by
  obtain ⟨r, hr, k⟩ := cmp_all hu o
  refine weakT (pt_cmpR hr ha hb hm) fun σ H Q ⟨ξ, A, α, h, env, R, P⟩ => ?_
  exact vE_bindT R P fun d h1 α1 H1 x e1 R1 r1 P1 => vE_bindT R1 P1 fun d2 h2 α2 H2 y e2 R2 r2 P2 =>
    let ⟨b, e, q⟩ := rsO_copT P2 R2.h
    k A α2 h2 H2 _ d d2 x y b R2.h (r1.ext e2) r2 e ⟨b, rfl, q⟩
theorem s_chn (hu : X.A.units + 64 < cLine) {o p : Cop} {a b c : Expr} {ma mb mc : E} (ha : PE X a (vE g W cx ma)) (hb : PE X b (vE g W cx mb)) (hc : PE X c (vE g W cx mc)) (hm : lastMarks [copOf o, copOf p] [b, c] = false) :
    PE X (.Compare a [copOf o, copOf p] [b, c] pos) (vE g W cx (.chn o p ma mb mc)) := by
  obtain ⟨r, hr, k⟩ := cmp_all hu o
  obtain ⟨r', hr', k'⟩ := cmp_all hu p
  refine weakE (pe_chain hr hr' ha hb hc hm) fun σ H Q ⟨ξ, A, α, h, env, R, P⟩ => ?_
  refine vE_bind R P fun d h1 α1 H1 x e1 R1 r1 P1 => vE_bind R1 P1 fun d2 h2 α2 H2 y e2 R2 r2 P2 => ?_
  cases e : cop h2 o d d2 with
  | none => rw [e] at P2; exact P2.elim
  | some b =>
    rw [e] at P2
    refine k A α2 h2 H2 _ d d2 x y b R2.h (r1.ext e2) r2 e ⟨b, rfl, ?_⟩
    cases b with
    | false => exact iteF (PostE.here (d := .bl false) P2 R2.h (.bl _))
    | true =>
      refine iteT (vE_bind R2 P2 fun d3 h3 α3 H3 z e3 R3 r3 P3 => ?_)
      obtain ⟨b, e', q⟩ := rsO_cop P3 R3.h
      exact k' A α3 h3 H3 Q d2 d3 y z b R3.h (r2.ext e3) r3 e' q
theorem t_chn (hu : X.A.units + 64 < cLine) {o p : Cop} {a b c : Expr} {ma mb mc : E} (ha : PE X a (vE g W cx ma)) (hb : PE X b (vE g W cx mb)) (hc : PE X c (vE g W cx mc)) (hm : lastMarks [copOf o, copOf p] [b, c] = false) :
    PT X (.Compare a [copOf o, copOf p] [b, c] pos) (vT g W cx (.chn o p ma mb mc)) := by
  obtain ⟨r, hr, k⟩ := cmp_all hu o
  obtain ⟨r', hr', k'⟩ := cmp_all hu p
  refine weakT (pt_chain hr hr' ha hb hc hm) fun σ H Q ⟨ξ, A, α, h, env, R, P⟩ => ?_
  refine vE_bindT R P fun d h1 α1 H1 x e1 R1 r1 P1 => vE_bindT R1 P1 fun d2 h2 α2 H2 y e2 R2 r2 P2 => ?_
  cases e : cop h2 o d d2 with
  | none => rw [e] at P2; exact P2.elim
  | some b =>
    rw [e] at P2
    refine k A α2 h2 H2 _ d d2 x y b R2.h (r1.ext e2) r2 e ⟨b, rfl, ?_⟩
    cases b with
    | false =>
      obtain ⟨c, e3, q⟩ := P2
      cases e3
      exact iteF ⟨false, rfl, q α2 H2 .refl R2.h⟩
    | true =>
      refine iteT (vE_bindT R2 P2 fun d3 h3 α3 H3 z e3 R3 r3 P3 => ?_)
      obtain ⟨b, e', q⟩ := rsO_copT P3 R3.h
      exact k' A α3 h3 H3 _ d2 d3 y z b R3.h (r2.ext e3) r3 e' ⟨b, rfl, q⟩
end
end TB

end

section
set_option Elab.async false
set_option linter.all false
set_option maxHeartbeats 1000000
namespace TB
open PySem L2

section
variable {X : L2.Cx} {g : G} {W : L2.WX} {cx : Cx} {pos : Pos}
variable {ξ : Xi} {A : Av} {α : List Addr} {h : Lh} {env : Env} {σ : L2.St} {H : Hp}
/-! ### truth -/
theorem reps_empty {ds : List D} {xs : List L2.V} (r : Reps A α H ds xs) : ds.isEmpty = xs.isEmpty := by cases r <;> rfl
theorem tru_rep {K : Frag} (R : HRel A α h H) {d : D} {x : L2.V} {b : Bool} (r : Rep A α H d x) (e : truth h d = some b) : TruV K x H b := by
  have seq : ∀ {d : D} {x : L2.V} (r : Rep A α H d x), (match vw h d with
      | some (_, ds) => some (!ds.isEmpty)
      | none => none) = some b → ∃ p, x = .ref p ∧ ((∃ xs, SqL K H p xs ∧ b = !xs.isEmpty) ∨ (∃ xs, SqT K H p xs ∧ b = !xs.isEmpty)) := by
    intro d x r e
    cases e1 : vw h d with
    | none => rw [e1] at e; cases e
    | some p =>
      obtain ⟨k, ds⟩ := p
      rw [e1] at e
      cases e
      cases k with
      | false =>
        obtain ⟨p, xs, rfl, hp, r1⟩ := vw_list R r e1
        exact ⟨p, rfl, .inl ⟨xs, .inl hp, by rw [reps_empty r1]⟩⟩
      | true =>
        obtain ⟨p, xs, rfl, hp, r1⟩ := vw_tup R r e1
        exact ⟨p, rfl, .inr ⟨xs, .inl (.inl hp), by rw [reps_empty r1]⟩⟩
  have fin : ∀ {x : L2.V}, (∃ p, x = .ref p ∧ ((∃ xs, SqL K H p xs ∧ b = !xs.isEmpty) ∨ (∃ xs, SqT K H p xs ∧ b = !xs.isEmpty))) → TruV K x H b := by
    rintro x ⟨p, rfl, q⟩
    rcases q with q | q
    · exact .inl q
    · exact .inr (.inl q)
  cases r with
  | non => cases e; exact (rfl : false = false)
  | bl c => cases e; exact (rfl : b = b)
  | int i => cases e; exact (rfl : (i != 0) = (i != 0))
  | str s =>
    obtain ⟨c, rfl⟩ := ite_some (show (if s.length ≤ lim then some (s.length != 0) else none) = some b from e)
    refine ⟨lim_le c, ?_⟩
    cases s.length <;> rfl
  | ref k => exact fin (seq (.ref k) e)
  | lst h1 h2 h3 h4 => exact fin (seq (.lst h1 h2 h3 h4) e)
  | tup h1 h2 h3 h4 => exact fin (seq (.tup h1 h2 h3 h4) e)
  | dct h1 h2 h3 h4 h5 => exact fin (seq (.dct h1 h2 h3 h4 h5) e)
/-- an expression's value as a test -/
theorem t_val {e : Expr} {m : E} (he : PE X e (vE g W cx m)) (hw : ∀ whole, isTrue e X.env whole = (do let v ← whole; standAt e.pos; holding [v] (truthy v))) : PT X e (vT g W cx m) := by
  refine weakT (pt_truth he hw) fun σ H Q ⟨ξ, A, α, h, env, R, P⟩ => ⟨ξ, A, α, h, env, R, ?_⟩
  cases q : m.ev cx env h with
  | ok d h1 =>
    rw [q] at P
    obtain ⟨b, e, P⟩ := P
    exact fun α1 H1 x e1 k1 r1 => ⟨b, tru_rep k1 r1 e, P α1 H1 e1 k1⟩
  | exc c fs h1 => rw [q] at P; exact P
  | stuck => rw [q] at P; exact P
/-- a test, then what goes on -/
theorem vT_bind {m : E} {Q : L2.VK} {k : D → Lh → Rs D} {R' : Bool → Hp → Prop} (R : Rl g ξ A α h env σ H) (P : PostE g A α H σ W Q ((m.ev cx env h).bind k)) (nt : ∀ d h1, truth h1 d = none → k d h1 = .stuck)
    (f : ∀ b d h1 α1 H1, truth h1 d = some b → Ext α H α1 H1 → Rl g ξ A α1 h1 env σ H1 → PostE g A α1 H1 σ W Q (k d h1) → R' b H1) : vT g W cx m σ H R' := by
  refine ⟨ξ, A, α, h, env, R, ?_⟩
  cases q : m.ev cx env h with
  | ok d h1 =>
    rw [q] at P
    cases e : truth h1 d with
    | none =>
      have P : PostE g A α H σ W Q (k d h1) := P
      rw [nt d h1 e] at P; exact P.elim
    | some b => exact ⟨b, e, fun α1 H1 e1 k1 => f b d h1 α1 H1 e e1 (R.step e1 k1) (PostE.mono P e1)⟩
  | exc c fs h1 => rw [q] at P; exact P
  | stuck => rw [q] at P; exact P
theorem vT_bindT {m : E} {Q : Bool → Hp → Prop} {k : D → Lh → Rs D} {R' : Bool → Hp → Prop} (R : Rl g ξ A α h env σ H) (P : PostT g A α H σ W Q ((m.ev cx env h).bind k)) (nt : ∀ d h1, truth h1 d = none → k d h1 = .stuck)
    (f : ∀ b d h1 α1 H1, truth h1 d = some b → Ext α H α1 H1 → Rl g ξ A α1 h1 env σ H1 → PostT g A α1 H1 σ W Q (k d h1) → R' b H1) : vT g W cx m σ H R' := by
  refine ⟨ξ, A, α, h, env, R, ?_⟩
  cases q : m.ev cx env h with
  | ok d h1 =>
    rw [q] at P
    cases e : truth h1 d with
    | none =>
      have P : PostT g A α H σ W Q (k d h1) := P
      rw [nt d h1 e] at P; exact P.elim
    | some b => exact ⟨b, e, fun α1 H1 e1 k1 => f b d h1 α1 H1 e e1 (R.step e1 k1) (PostT.mono P e1)⟩
  | exc c fs h1 => rw [q] at P; exact P
  | stuck => rw [q] at P; exact P
theorem PostT.here {Q : Bool → Hp → Prop} {d : D} {b : Bool} (P : PostT g A α H σ W Q (.ok d h)) (R : HRel A α h H) (e : truth h d = some b) : Q b H := by
  obtain ⟨c, e', q⟩ := P
  rw [e] at e'; cases e'
  exact q α H .refl R
theorem s_and {a b : Expr} {rest : List Expr} {ma mb : E} (ha : PE X a (vE g W cx ma)) (hb : PE X (.BoolOp .And (b :: rest) pos) (vE g W cx mb)) : PE X (.BoolOp .And (a :: b :: rest) pos) (vE g W cx (.and ma mb)) := by
  refine weakE (pe_andT ha hb) fun σ H Q ⟨ξ, A, α, h, env, R, P⟩ => ?_
  refine vE_bind R P fun d h1 α1 H1 x e1 R1 r1 P1 => ?_
  cases e : truth h1 d with
  | none => rw [e] at P1; exact P1.elim
  | some b =>
    rw [e] at P1
    refine ⟨b, tru_rep R1.h r1 e, ?_⟩
    cases b with
    | true => exact iteT ⟨ξ, A, α1, h1, env, R1, P1⟩
    | false => exact iteF (PostE.here (d := d) P1 R1.h r1)
theorem s_or {a b : Expr} {rest : List Expr} {ma mb : E} (ha : PE X a (vE g W cx ma)) (hb : PE X (.BoolOp .Or (b :: rest) pos) (vE g W cx mb)) : PE X (.BoolOp .Or (a :: b :: rest) pos) (vE g W cx (.or ma mb)) := by
  refine weakE (pe_orT ha hb) fun σ H Q ⟨ξ, A, α, h, env, R, P⟩ => ?_
  refine vE_bind R P fun d h1 α1 H1 x e1 R1 r1 P1 => ?_
  cases e : truth h1 d with
  | none => rw [e] at P1; exact P1.elim
  | some b =>
    rw [e] at P1
    refine ⟨b, tru_rep R1.h r1 e, ?_⟩
    cases b with
    | false => exact iteF ⟨ξ, A, α1, h1, env, R1, P1⟩
    | true => exact iteT (PostE.here (d := d) P1 R1.h r1)
theorem s_one {op : BoolOp} {a : Expr} {ma : E} (ha : PE X a (vE g W cx ma)) : PE X (.BoolOp op [a] pos) (vE g W cx ma) := pe_one ha
theorem s_not {a : Expr} {ma : E} (ha : PE X a (vE g W cx ma)) : PE X (.UnaryOp .Not a pos) (vE g W cx (.not ma)) := by
  refine weakE (pe_notT ha) fun σ H Q ⟨ξ, A, α, h, env, R, P⟩ => ?_
  refine vE_bind R P fun d h1 α1 H1 x e1 R1 r1 P1 => ?_
  cases e : truth h1 d with
  | none => rw [e] at P1; exact P1.elim
  | some b =>
    rw [e] at P1
    exact ⟨b, tru_rep R1.h r1 e, PostE.here (d := .bl (!b)) P1 R1.h (.bl _)⟩
theorem w_and1 {a : Expr} {ma : E} (ha : PT X a (vT g W cx ma)) : PW X (.BoolOp .And [a] pos) (vT g W cx ma) := pw_and1 ha
theorem w_or1 {a : Expr} {ma : E} (ha : PT X a (vT g W cx ma)) : PW X (.BoolOp .Or [a] pos) (vT g W cx ma) := pw_or1 ha
theorem w_and {a b : Expr} {rest : List Expr} {ma mb : E} (ha : PT X a (vT g W cx ma)) (hb : PW X (.BoolOp .And (b :: rest) pos) (vT g W cx mb)) : PW X (.BoolOp .And (a :: b :: rest) pos) (vT g W cx (.and ma mb)) := by
  refine weakW (pw_and ha hb) fun σ H Q ⟨ξ, A, α, h, env, R, P⟩ => ?_
  refine vT_bindT R P (fun d h1 e => by rw [e]) fun b d h1 α1 H1 e e1 R1 P1 => ?_
  rw [e] at P1
  cases b with
  | true => exact iteT ⟨ξ, A, α1, h1, env, R1, P1⟩
  | false => exact iteF (PostT.here P1 R1.h e)
theorem w_or {a b : Expr} {rest : List Expr} {ma mb : E} (ha : PT X a (vT g W cx ma)) (hb : PW X (.BoolOp .Or (b :: rest) pos) (vT g W cx mb)) : PW X (.BoolOp .Or (a :: b :: rest) pos) (vT g W cx (.or ma mb)) := by
  refine weakW (pw_or ha hb) fun σ H Q ⟨ξ, A, α, h, env, R, P⟩ => ?_
  refine vT_bindT R P (fun d h1 e => by rw [e]) fun b d h1 α1 H1 e e1 R1 P1 => ?_
  rw [e] at P1
  cases b with
  | false => exact iteF ⟨ξ, A, α1, h1, env, R1, P1⟩
  | true => exact iteT (PostT.here P1 R1.h e)
theorem t_not {a : Expr} {ma : E} (ha : PT X a (vT g W cx ma)) : PT X (.UnaryOp .Not a pos) (vT g W cx (.not ma)) := by
  refine weakT (pt_not ha) fun σ H Q ⟨ξ, A, α, h, env, R, P⟩ => ?_
  refine vT_bindT R P (fun d h1 e => by rw [e]; rfl) fun b d h1 α1 H1 e e1 R1 P1 => ?_
  rw [e] at P1
  exact PostT.here (d := .bl (!b)) P1 R1.h rfl
theorem s_ite {c a b : Expr} {mc ma mb : E} (hc : PT X c (vT g W cx mc)) (ha : PE X a (vE g W cx ma)) (hb : PE X b (vE g W cx mb)) : PE X (.IfExp c a b pos) (vE g W cx (.ite mc ma mb)) := by
  refine weakE (pe_ifExp hc ha hb) fun σ H Q ⟨ξ, A, α, h, env, R, P⟩ => ?_
  refine vT_bind R P (fun d h1 e => by rw [e]) fun b d h1 α1 H1 e e1 R1 P1 => ?_
  rw [e] at P1
  cases b with
  | true => exact iteT ⟨ξ, A, α1, h1, env, R1, P1⟩
  | false => exact iteF ⟨ξ, A, α1, h1, env, R1, P1⟩

/-! ### arguments, displays -/
def notStar : Expr → Bool
  | .Starred _ _ => false
  | _ => true
theorem star_ok {e : Expr} {es : List Expr} {env : PySem.Env} (h : notStar e = true) : starEach (e :: es) env = (false, eval e env) :: starEach es env := by
  cases e <;> first | rfl | cases h
theorem a_nil : PA X [] (vA g W cx .nil) := weakA pa_nil fun σ H Q ⟨ξ, A, α, h, env, R, P⟩ => P α H [] .refl R.h .nil
theorem a_cons {e : Expr} {es : List Expr} {m : E} {ms : Es} (he : PE X e (vE g W cx m)) (hs : PA X es (vA g W cx ms)) (hn : notStar e = true) : PA X (e :: es) (vA g W cx (.cons m ms)) := by
  refine weakA (pa_cons he hs (star_ok hn)) fun σ H Q ⟨ξ, A, α, h, env, R, P⟩ => ⟨ξ, A, α, h, env, R, ?_⟩
  have P : PostA g A α H σ W Q ((m.ev cx env h).bind fun x h => (ms.ev cx env h).bind fun xs h => .ok (x :: xs) h) := P
  cases q : m.ev cx env h with
  | ok d h1 =>
    rw [q] at P
    have P : PostA g A α H σ W Q ((ms.ev cx env h1).bind fun xs h => .ok (d :: xs) h) := P
    refine fun α1 H1 x e1 k1 r1 => ⟨ξ, A, α1, h1, env, R.step e1 k1, ?_⟩
    cases q2 : ms.ev cx env h1 with
    | ok ds h2 =>
      rw [q2] at P
      exact fun α2 H2 xs e2 k2 r2 => P α2 H2 (x :: xs) (e1.trans e2) k2 (.cons (r1.ext e2) r2)
    | exc c fs h2 => rw [q2] at P; exact fun α2 H2 dd e2 k2 => P α2 H2 dd (e1.trans e2) k2
    | stuck => rw [q2] at P; exact P
  | exc c fs h1 => rw [q] at P; exact P
  | stuck => rw [q] at P; exact P
theorem s_lst {fz : Bool} {es : List Expr} {ms : Es} (hs : PA X es (vA g W cx ms)) : PE X (.List es pos) (vE g W cx (.lst fz ms)) := by
  refine weakE (pe_lst hs) fun σ H Q ⟨ξ, A, α, h, env, R, P⟩ => ?_
  refine vA_bind R P fun ds h1 α1 H1 xs e1 R1 r1 P1 => ?_
  by_cases hl : ds.length ≤ lim
  · rw [if_pos hl] at P1
    exact ⟨by rw [← r1.length]; exact lim_le hl, fun p n => PostE.new P1 R1.h r1 n⟩
  · rw [if_neg hl] at P1; exact P1.elim
theorem s_tup {es : List Expr} {k : Nat} {ms : Es} (hs : PA X es (vA g W cx ms)) : PE X (.Tuple es k pos) (vE g W cx (.tup ms)) := by
  refine weakE (pe_tup hs) fun σ H Q ⟨ξ, A, α, h, env, R, P⟩ => ?_
  refine vA_bind R P fun ds h1 α1 H1 xs e1 R1 r1 P1 => ?_
  by_cases hl : ds.length ≤ lim
  · rw [if_pos hl] at P1
    exact ⟨by rw [← r1.length]; exact lim_le hl, fun p n => PostE.tupNew (fz := true) P1 R1.h r1 n⟩
  · rw [if_neg hl] at P1; exact P1.elim

/-! ### places -/
def plainIx : Expr → Bool
  | .Slice _ _ _ _ => false
  | _ => true
theorem plainIx_ok {i : Expr} (h : plainIx i = true) : PlainIx i := fun o v => by cases i <;> first | rfl | cases h
theorem place_ix {i : Int} {n k : Nat} (e : place i n = some k) : ixN n i = some k := e
theorem atI_of {ds : List D} {xs : List L2.V} (r : Reps A α H ds xs) {i : Int} {k : Nat} {d : D} (e : place i ds.length = some k) (q : ds[k]? = some d) : ∃ x, atI xs i = some x ∧ Rep A α H d x := by
  obtain ⟨x, e2, r2⟩ := r.get q
  refine ⟨x, ?_, r2⟩
  unfold atI
  rw [← r.length, place_ix e]
  exact e2
theorem look_val {kvs : List (L2.Key × L2.V)} {ds : List D} (r : Reps A α H ds (kvs.map (·.2))) {k : Ky} {d : D} (e : look (kvs.map (·.1)) ds k = some d) : ∃ x, valV kvs k = some x ∧ Rep A α H d x := by
  induction kvs generalizing ds with
  | nil => cases r; cases e
  | cons p kvs ih =>
    cases r with
    | @cons d0 x0 ds0 xs0 r1 r2 =>
      have e : (if k = p.1 then some d0 else look (kvs.map (·.1)) ds0 k) = some d := e
      by_cases hk : k = p.1
      · rw [if_pos hk] at e
        cases e
        exact ⟨_, valV_pos hk.symm, r1⟩
      · rw [if_neg hk] at e
        obtain ⟨x, h1, h2⟩ := ih r2 e
        exact ⟨x, by rw [valV_neg (fun z => hk z.symm)]; exact h1, h2⟩
theorem s_ix (hu : X.A.units + 1 < cLine) {a i : Expr} {ma mi : E} (ha : PE X a (vE g W cx ma)) (hi : PE X i (vE g W cx mi)) (hp : plainIx i = true) : PE X (.Subscript a i pos) (vE g W cx (.ix ma mi)) := by
  refine weakE (orE (pe_ix ix_seq ha hi (plainIx_ok hp)) (pe_dget hu ha hi (plainIx_ok hp))) fun σ H Q ⟨ξ, A, α, h, env, R, P⟩ => ?_
  have P : PostE g A α H σ W Q ((ma.ev cx env h).bind fun x h => (mi.ev cx env h).bind fun y h => rsO (item h x y) h) := P
  -- which of the two: by the evaluator's end
  have main : (∀ d h1 d2 h2, ma.ev cx env h = .ok d h1 → mi.ev cx env h1 = .ok d2 h2 → vd h2 d = none) ∨ ∃ d h1 d2 h2 p, ma.ev cx env h = .ok d h1 ∧ mi.ev cx env h1 = .ok d2 h2 ∧ vd h2 d = some p := by
    by_cases c : ∃ d h1 d2 h2 p, ma.ev cx env h = .ok d h1 ∧ mi.ev cx env h1 = .ok d2 h2 ∧ vd h2 d = some p
    · exact .inr c
    · refine .inl fun d h1 d2 h2 e1 e2 => ?_
      cases e3 : vd h2 d with
      | none => rfl
      | some p => exact (c ⟨d, h1, d2, h2, p, e1, e2, e3⟩).elim
  rcases main with c | ⟨d, h1, d2, h2, p, c1, c2, c3⟩
  · refine .inl ?_
    refine ⟨ξ, A, α, h, env, R, ?_⟩
    cases q : ma.ev cx env h with
    | exc c fs h1 => rw [q] at P; exact P
    | stuck => rw [q] at P; exact P
    | ok d h1 =>
      rw [q] at P
      refine fun α1 H1 x e1 k1 r1 => ⟨ξ, A, α1, h1, env, R.step e1 k1, ?_⟩
      have P : PostE g A α1 H1 σ W Q ((mi.ev cx env h1).bind fun y h => rsO (item h d y) h) := PostE.mono P e1
      cases q2 : mi.ev cx env h1 with
      | exc c fs h2 => rw [q2] at P; exact P
      | stuck => rw [q2] at P; exact P
      | ok d2 h2 =>
        rw [q2] at P
        intro α2 H2 y e2 k2 r2
        have P : PostE g A α2 H2 σ W Q (rsO (item h2 d d2) h2) := PostE.mono P e2
        unfold item at P
        rw [c d h1 d2 h2 q q2] at P
        have r1 := r1.ext e2
        cases r2 with
        | int i =>
          dsimp only at P
          by_cases hk : okIx i = true
          · rw [if_pos hk] at P
            cases e3 : vw h2 d with
            | some p =>
              obtain ⟨k, ds⟩ := p
              rw [e3] at P
              dsimp only at P
              cases e4 : place i ds.length with
              | none => rw [e4] at P; exact P.elim
              | some n =>
                rw [e4] at P
                dsimp only at P
                cases e5 : ds[n]? with
                | none => rw [e5] at P; exact P.elim
                | some z =>
                  rw [e5] at P
                  cases k with
                  | false =>
                    obtain ⟨p, xs, rfl, hp, r3⟩ := vw_list k2 r1 e3
                    obtain ⟨v, h5, r5⟩ := atI_of r3 e4 e5
                    exact .inl ⟨p, xs, i, v, rfl, rfl, .inl hp, h5, PostE.here (d := z) P k2 r5⟩
                  | true =>
                    obtain ⟨p, xs, rfl, hp, r3⟩ := vw_tup k2 r1 e3
                    obtain ⟨v, h5, r5⟩ := atI_of r3 e4 e5
                    exact .inr (.inl ⟨p, xs, i, v, rfl, rfl, .inl (.inl hp), h5, PostE.here (d := z) P k2 r5⟩)
            | none =>
              rw [e3] at P
              cases r1 with
              | str s =>
                dsimp only at P
                by_cases hl : s.length ≤ lim
                · rw [if_pos hl] at P
                  cases e4 : place i s.length with
                  | none => rw [e4] at P; exact P.elim
                  | some n =>
                    rw [e4] at P
                    dsimp only at P
                    cases e5 : s.cps.toList[n]? with
                    | none => rw [e5] at P; exact P.elim
                    | some c =>
                      rw [e5] at P
                      refine .inr (.inr ⟨s, i, c, rfl, rfl, lim_le hl, ?_, PostE.here (d := .str ⟨#[c]⟩) P k2 (.str _)⟩)
                      have el : s.cps.toList.length = s.length := by simp [Str.length]
                      unfold atI
                      rw [el, place_ix e4]
                      exact e5
                · rw [if_neg hl] at P; exact P.elim
              | _ => exact P.elim
          · rw [if_neg hk] at P; exact P.elim
        | _ => exact P.elim
  · refine .inr ?_
    refine ⟨ξ, A, α, h, env, R, ?_⟩
    rw [c1] at P ⊢
    refine fun α1 H1 x e1 k1 r1 => ⟨ξ, A, α1, h1, env, R.step e1 k1, ?_⟩
    have P : PostE g A α1 H1 σ W Q ((mi.ev cx env h1).bind fun y h => rsO (item h d y) h) := PostE.mono P e1
    rw [c2] at P ⊢
    intro α2 H2 y e2 k2 r2
    have P : PostE g A α2 H2 σ W Q (rsO (item h2 d d2) h2) := PostE.mono P e2
    unfold item at P
    rw [c3] at P
    obtain ⟨ks, ds⟩ := p
    dsimp only at P
    obtain ⟨a, kvs, rfl, hd, rfl, r3⟩ := vd_dict k2 (r1.ext e2) c3
    cases e3 : keyOf d2 with
    | none => rw [e3] at P; exact P.elim
    | some k =>
      rw [e3] at P
      dsimp only at P
      cases e4 : look (kvs.map (·.1)) ds k with
      | none => rw [e4] at P; exact P.elim
      | some z =>
        rw [e4] at P
        obtain ⟨v, h5, r5⟩ := look_val r3 e4
        exact ⟨a, v, rfl, .inl ⟨kvs, k, hd, keyOf_V r2 e3, h5.symm⟩, PostE.here (d := z) P k2 r5⟩
end
end TB

end

section
set_option Elab.async false
set_option linter.all false
set_option maxHeartbeats 1000000
namespace TB
open PySem L2

section
variable {X : L2.Cx} {g : G} {W : L2.WX} {cx : Cx} {pos : Pos}
variable {ξ : Xi} {A : Av} {α : List Addr} {h : Lh} {env : Env} {σ : L2.St} {H : Hp}
/-! ### slices -/
def PostO (g : G) (A : Av) (α : List Addr) (H : Hp) (σ : L2.St) (W : L2.WX) (Q : Option Int → Hp → Prop) : Rs (Option D) → Prop
  | .ok o h' => ∃ i, bound o = some i ∧ ∀ α' H', Ext α H α' H' → HRel A α' h' H' → Q i H'
  | .exc c fs h' => ∀ α' H' d, Ext α H α' H' → HRel A α' h' H' → XDict g A α' H' c fs d → W (.ref (g.cls c)) d σ H'
  | .stuck => False
def vO (g : G) (W : L2.WX) (cx : Cx) (m : Eo) : L2.TO := fun σ H Q => ∃ ξ A α h env, Rl g ξ A α h env σ H ∧ PostO g A α H σ W Q (m.ev cx env h)
theorem weakPO {e : Option Expr} {t t' : L2.TO} (h : PO X e t) (i : ∀ σ H Q, t' σ H Q → t σ H Q) : PO X e t' := ⟨fun pins s σ H Q I w => h.run pins s σ H Q I (i σ H Q w)⟩
theorem o_no : PO X none (vO g W cx .no) := weakPO po_none fun σ H Q ⟨ξ, A, α, h, env, R, P⟩ => by
  obtain ⟨i, e, q⟩ := P
  cases e
  exact q α H .refl R.h
theorem o_so {e : Expr} {m : E} (he : PE X e (vE g W cx m)) : PO X (some e) (vO g W cx (.so m)) := weakPO (po_some he) fun σ H Q ⟨ξ, A, α, h, env, R, P⟩ => by
  refine ⟨ξ, A, α, h, env, R, ?_⟩
  have P : PostO g A α H σ W Q ((m.ev cx env h).bind fun x h => .ok (some x) h) := P
  cases q : m.ev cx env h with
  | ok d h1 =>
    rw [q] at P
    obtain ⟨i, e, P⟩ := P
    intro α1 H1 x e1 k1 r1
    cases r1 with
    | int j => cases e; exact ⟨_, rfl, P α1 H1 e1 k1⟩
    | _ => cases e
  | exc c fs h1 => rw [q] at P; exact P
  | stuck => rw [q] at P; exact P
theorem vO_bind {m : Eo} {Q : L2.VK} {k : Option D → Lh → Rs D} {R' : Option Int → Hp → Prop} (R : Rl g ξ A α h env σ H) (P : PostE g A α H σ W Q ((m.ev cx env h).bind k)) (nt : ∀ o h1, bound o = none → k o h1 = .stuck)
    (f : ∀ i o h1 α1 H1, bound o = some i → Ext α H α1 H1 → Rl g ξ A α1 h1 env σ H1 → PostE g A α1 H1 σ W Q (k o h1) → R' i H1) : vO g W cx m σ H R' := by
  refine ⟨ξ, A, α, h, env, R, ?_⟩
  cases q : m.ev cx env h with
  | ok o h1 =>
    rw [q] at P
    cases e : bound o with
    | none =>
      have P : PostE g A α H σ W Q (k o h1) := P
      rw [nt o h1 e] at P; exact P.elim
    | some i => exact ⟨i, e, fun α1 H1 e1 k1 => f i o h1 α1 H1 e e1 (R.step e1 k1) (PostE.mono P e1)⟩
  | exc c fs h1 => rw [q] at P; exact P
  | stuck => rw [q] at P; exact P
theorem cut_reps {ds : List D} {xs : List L2.V} (r : Reps A α H ds xs) (lo hi : Option Int) : Reps A α H (cutL ds lo hi) (cutV xs lo hi) := by
  have e : cutL ds lo hi = (ds.drop (HT.sIx xs.length 0 lo)).take (HT.sIx xs.length xs.length hi - HT.sIx xs.length 0 lo) := by
    rw [← r.length]
    cases lo <;> cases hi <;> rfl
  rw [e]
  exact (r.drop _).take _
theorem cut_whole {ds : List D} {lo hi : Option Int} {n : Nat} (hn : ds.length = n) (e : HT.sIx n 0 lo = 0 ∧ HT.sIx n n hi = n) : cutL ds lo hi = ds := by
  subst hn
  have e0 : cutL ds lo hi = (ds.drop (HT.sIx ds.length 0 lo)).take (HT.sIx ds.length ds.length hi - HT.sIx ds.length 0 lo) := by
    cases lo <;> cases hi <;> rfl
  rw [e0, e.1, e.2]
  simp
theorem s_slc {fz : Bool} {a : Expr} {lo hi : Option Expr} {p2 : Pos} {ma : E} {ml mh : Eo} (ha : PE X a (vE g W cx ma)) (hl : PO X lo (vO g W cx ml)) (hh : PO X hi (vO g W cx mh)) :
    PE X (.Subscript a (.Slice lo hi none p2) pos) (vE g W cx (.slc fz ma ml mh)) := by
  refine weakE (pe_slice (sl_list.or (sl_str.or sl_tupA)) ha hl hh) fun σ H Q ⟨ξ, A, α, h, env, R, P⟩ => ?_
  refine vE_bind R P fun d h1 α1 H1 x e1 R1 r1 P1 => vO_bind R1 P1 (fun o h2 e => by rw [e]) fun i o h2 α2 H2 e e2 R2 P2 => ?_
  rw [e] at P2
  refine vO_bind R2 P2 (fun o' h3 e' => by rw [e']) fun j o' h3 α3 H3 e' e3 R3 P3 => ?_
  · rw [e'] at P3
    dsimp only at P3
    unfold slice at P3
    have r3 := (r1.ext e2).ext e3
    cases q : vw h3 d with
    | some p =>
      obtain ⟨k, ds⟩ := p
      rw [q] at P3
      cases k with
      | false =>
        obtain ⟨p, xs, rfl, hp, r4⟩ := vw_list R3.h r3 q
        exact .inl ⟨p, xs, rfl, .inl hp, fun z n => PostE.new P3 R3.h (cut_reps r4 i j) n⟩
      | true =>
        obtain ⟨p, xs, rfl, hp, r4⟩ := vw_tup R3.h r3 q
        refine .inr (.inr ⟨p, xs, rfl, .inl (.inl hp), fun w => ?_, fun _ z n => PostE.tupNew P3 R3.h (cut_reps r4 i j) n⟩)
        have P3 : PostE g A α3 H3 σ W Q (fin fz (some (.v (.tup (cutL ds i j)))) h3) := P3
        rw [cut_whole r4.length w] at P3
        have hd : d = .tup ds := by
          cases d with
          | tup es => cases q; rfl
          | ref n =>
            have q' : (match h3[n]? with
              | some (.lst ds) => some (false, ds)
              | some (.ro ds) => some (false, ds)
              | _ => none) = some (true, ds) := q
            cases u : h3[n]? with
            | none => rw [u] at q'; cases q'
            | some o => rw [u] at q'; cases o <;> cases q'
          | _ => cases q
        rw [hd] at r3
        exact PostE.here (d := .tup ds) P3 R3.h r3
    | none =>
      rw [q] at P3
      cases r3 with
      | str s =>
        dsimp only at P3
        by_cases hl : s.length ≤ lim
        · rw [if_pos hl] at P3
          refine .inr (.inl ⟨s, rfl, lim_le hl, ?_⟩)
          have e0 : cutS s i j = ⟨((s.cps.toList.drop (sIx s.length 0 i)).take (sIx s.length s.length j - sIx s.length 0 i)).toArray⟩ := by
            cases i <;> cases j <;> rfl
          rw [e0]
          exact PostE.here (d := .str _) P3 R3.h (.str _)
        · rw [if_neg hl] at P3; exact P3.elim
      | _ => exact P3.elim
end
end TB

end

section
set_option Elab.async false
set_option linter.all false
set_option maxHeartbeats 1000000
namespace TB
open PySem L2

section
variable {X : L2.Cx} {g : G} {W : L2.WX} {cx : Cx} {pos : Pos}
variable {ξ : Xi} {A : Av} {α : List Addr} {h : Lh} {env : Env} {σ : L2.St} {H : Hp}
/-! ### built-in functions -/
theorem bls_V {ds : List D} {xs : List L2.V} {is : List Bool} (r : Reps A α H ds xs) (e : bls ds = some is) : xs = is.map L2.V.bl := by
  induction ds generalizing xs is with
  | nil => cases r; cases e; rfl
  | cons d ds ih =>
    cases r with
    | cons r1 r2 =>
      obtain ⟨i, e1, e2⟩ := Option.bind_eq_some_iff.mp (show (asBl d).bind (fun i => (bls ds).map (i :: ·)) = some is from e)
      obtain ⟨js, e3, rfl⟩ := Option.map_eq_some_iff.mp e2
      cases r1 with
      | bl j => cases e1; rw [ih r2 e3]; rfl
      | _ => cases e1
theorem Reps.ofInts (is : List Int) : Reps A α H (is.map D.int) (is.map L2.V.int) := by
  induction is with
  | nil => exact .nil
  | cons i is ih => exact .cons (.int i) ih
theorem maxI_ge (m : Int) (r : List Int) : m ≤ maxI m r ∧ (∀ i ∈ r, i ≤ maxI m r) ∧ (maxI m r = m ∨ maxI m r ∈ r) := by
  induction r generalizing m with
  | nil => exact ⟨Int.le_refl _, by simp, .inl rfl⟩
  | cons j r ih =>
    obtain ⟨h1, h2, h3⟩ := ih (if j > m then j else m)
    have e : maxI m (j :: r) = maxI (if j > m then j else m) r := rfl
    rw [e]
    by_cases hj : j > m
    · rw [if_pos hj] at h1 h2 h3 ⊢
      exact ⟨by omega, fun i hi => by rcases List.mem_cons.mp hi with rfl | hi; exact h1; exact h2 i hi, by rcases h3 with h3 | h3; exact .inr (by rw [h3]; simp); exact .inr (List.mem_cons_of_mem _ h3)⟩
    · rw [if_neg hj] at h1 h2 h3 ⊢
      exact ⟨h1, fun i hi => by rcases List.mem_cons.mp hi with rfl | hi; omega; exact h2 i hi, by rcases h3 with h3 | h3; exact .inl h3; exact .inr (List.mem_cons_of_mem _ h3)⟩
theorem minI_le (m : Int) (r : List Int) : minI m r ≤ m ∧ (∀ i ∈ r, minI m r ≤ i) ∧ (minI m r = m ∨ minI m r ∈ r) := by
  induction r generalizing m with
  | nil => exact ⟨Int.le_refl _, by simp, .inl rfl⟩
  | cons j r ih =>
    obtain ⟨h1, h2, h3⟩ := ih (if j < m then j else m)
    have e : minI m (j :: r) = minI (if j < m then j else m) r := rfl
    rw [e]
    by_cases hj : j < m
    · rw [if_pos hj] at h1 h2 h3 ⊢
      exact ⟨by omega, fun i hi => by rcases List.mem_cons.mp hi with rfl | hi; exact h1; exact h2 i hi, by rcases h3 with h3 | h3; exact .inr (by rw [h3]; simp); exact .inr (List.mem_cons_of_mem _ h3)⟩
    · rw [if_neg hj] at h1 h2 h3 ⊢
      exact ⟨h1, fun i hi => by rcases List.mem_cons.mp hi with rfl | hi; omega; exact h2 i hi, by rcases h3 with h3 | h3; exact .inl h3; exact .inr (List.mem_cons_of_mem _ h3)⟩
theorem insI_perm (i : Int) (r : List Int) : (insI i r).Perm (i :: r) := by
  induction r with
  | nil => exact .refl _
  | cons j r ih =>
    unfold insI
    by_cases h : i ≤ j
    · rw [if_pos h]
    · rw [if_neg h]
      exact ((ih.cons j).trans (.swap _ _ _))
theorem sortI_perm (r : List Int) : (sortI r).Perm r := by
  induction r with
  | nil => exact .refl _
  | cons i r ih => exact (insI_perm i _).trans (ih.cons i)
theorem insI_rises (i : Int) (r : List Int) (h : r.Pairwise (· ≤ ·)) : (insI i r).Pairwise (· ≤ ·) := by
  induction r with
  | nil => exact List.pairwise_singleton _ _
  | cons j r ih =>
    unfold insI
    have h' := List.pairwise_cons.mp h
    by_cases hi : i ≤ j
    · rw [if_pos hi]
      exact List.pairwise_cons.mpr ⟨fun y hy => by rcases List.mem_cons.mp hy with rfl | hy; exact hi; exact Int.le_trans hi (h'.1 y hy), h⟩
    · rw [if_neg hi]
      refine List.pairwise_cons.mpr ⟨fun y hy => ?_, ih h'.2⟩
      rcases List.mem_cons.mp ((insI_perm i r).mem_iff.mp hy) with rfl | hy
      · omega
      · exact h'.1 y hy
theorem sortI_rises (r : List Int) : (sortI r).Pairwise (· ≤ ·) := by
  induction r with
  | nil => exact List.Pairwise.nil
  | cons i r ih => exact insI_rises i _ ih
theorem one_reps {d : D} {xs : List L2.V} (r : Reps A α H [d] xs) : ∃ x, xs = [x] ∧ Rep A α H d x := by
  cases r with | cons r1 r2 => cases r2; exact ⟨_, rfl, r1⟩
theorem two_reps {d e : D} {xs : List L2.V} (r : Reps A α H [d, e] xs) : ∃ x y, xs = [x, y] ∧ Rep A α H d x ∧ Rep A α H e y := by
  cases r with | cons r1 r2 => obtain ⟨y, rfl, r3⟩ := one_reps r2; exact ⟨_, y, rfl, r1, r3⟩
/-- a built-in function that the evaluator knows: its value, a rule -/
def BiOk (X : L2.Cx) (g : G) (b : Bi) (f : Value) : Prop := ∃ r, CallR X f r ∧
  ∀ (W : L2.WX) (A : Av) (α : List Addr) (h : Lh) (σ : L2.St) (H : Hp) (Q : L2.VK) (fz : Bool) (ds : List D) (xs : List L2.V), HRel A α h H → Reps A α H ds xs → PostE g A α H σ W Q (fin fz (bfn h b ds) h) → r xs H Q
theorem vw_seq (R : HRel A α h H) {K : Frag} {d : D} {x : L2.V} {k : Bool} {ds : List D} (r : Rep A α H d x) (e : vw h d = some (k, ds)) : ∃ a xs, x = .ref a ∧ (SqL K H a xs ∨ SqT K H a xs) ∧ Reps A α H ds xs := by
  cases k with
  | false => obtain ⟨a, xs, rfl, h1, h2⟩ := vw_list R r e; exact ⟨a, xs, rfl, .inl (.inl h1), h2⟩
  | true => obtain ⟨a, xs, rfl, h1, h2⟩ := vw_tup R r e; exact ⟨a, xs, rfl, .inr (.inl (.inl h1)), h2⟩
theorem vw_tree {d : D} {ds : List D} (e : vw h d = some (true, ds)) : d = .tup ds := by
  cases d with
  | tup es => cases e; rfl
  | ref n =>
    have q' : (match h[n]? with
      | some (.lst ds) => some (false, ds)
      | some (.ro ds) => some (false, ds)
      | _ => none) = some (true, ds) := e
    cases u : h[n]? with
    | none => rw [u] at q'; cases q'
    | some o => rw [u] at q'; cases o <;> cases q'
  | _ => cases e
theorem call_lenR : CallR X (.builtin "len") (fun xs H Q => ∃ a kvs, xs = [.ref a] ∧ Rd H a (.dK kvs) ∧ Q (.int kvs.length) H) := by
  intro pins s σ H xs us Q I r h
  obtain ⟨a, kvs, rfl, ha, q⟩ := h
  obtain ⟨u, rfl, ru⟩ := vals1 r
  cases ru
  exact d_len I ha fun t s' I' => ⟨.int kvs.length, H, I', ⟨t, rfl⟩, q⟩
/-- a function of one value, of two -/
theorem bi_one {b : Bi} {f : Value} {F : Lh → D → Option P} {r0 : List L2.V → Hp → L2.VK → Prop} (hr : CallR X f r0) (hb : ∀ h, bfn h b = one (F h))
    (hF : ∀ (W : L2.WX) (A : Av) (α : List Addr) (h : Lh) (σ : L2.St) (H : Hp) (Q : L2.VK) (fz : Bool) (d : D) (x : L2.V), HRel A α h H → Rep A α H d x → PostE g A α H σ W Q (fin fz (F h d) h) → r0 [x] H Q) : BiOk X g b f := by
  refine ⟨_, hr, fun W A α h σ H Q fz ds xs R r P => ?_⟩
  rw [hb] at P
  cases r with
  | nil => exact False.elim P
  | cons r1 r2 =>
    cases r2 with
    | nil => exact hF W A α h σ H Q fz _ _ R r1 P
    | cons _ _ => exact False.elim P
theorem bi_two {b : Bi} {f : Value} {F : D → D → Option P} {r0 : List L2.V → Hp → L2.VK → Prop} (hr : CallR X f r0) (hb : ∀ h, bfn h b = two F)
    (hF : ∀ (W : L2.WX) (A : Av) (α : List Addr) (h : Lh) (σ : L2.St) (H : Hp) (Q : L2.VK) (fz : Bool) (d e : D) (x y : L2.V), HRel A α h H → Rep A α H d x → Rep A α H e y → PostE g A α H σ W Q (fin fz (F d e) h) → r0 [x, y] H Q) : BiOk X g b f := by
  refine ⟨_, hr, fun W A α h σ H Q fz ds xs R r P => ?_⟩
  rw [hb] at P
  cases r with
  | nil => exact False.elim P
  | cons r1 r2 =>
    cases r2 with
    | nil => exact False.elim P
    | cons r2 r3 =>
      cases r3 with
      | nil => exact hF W A α h σ H Q fz _ _ _ _ R r1 r2 P
      | cons _ _ => exact False.elim P
theorem bi_len : BiOk X g .len (.builtin "len") := by
  refine bi_one (F := lenF) (orC call_len call_lenR) (fun _ => rfl) fun W A α h σ H Q fz d x R rd P => ?_
  unfold lenF at P
  cases e : vw h d with
  | some p =>
    obtain ⟨k, ds⟩ := p
    rw [e] at P
    obtain ⟨a, xs, rfl, hq, r2⟩ := vw_seq (K := X.K) R rd e
    refine .inl ⟨.ref a, ds.length, rfl, ?_, PostE.here (d := .int ds.length) P R (.int _)⟩
    rcases hq with hq | hq
    · exact .inl ⟨xs, hq, r2.length⟩
    · exact .inr ⟨xs, hq, r2.length⟩
  | none =>
    rw [e] at P
    dsimp only at P
    cases e2 : vd h d with
    | some p =>
      obtain ⟨ks, ds⟩ := p
      rw [e2] at P
      obtain ⟨a, kvs, rfl, hd, rfl, _⟩ := vd_dict R rd e2
      refine .inr ⟨a, kvs, rfl, hd, ?_⟩
      have q := PostE.here (d := .int (kvs.map (·.1)).length) P R (.int _)
      rw [List.length_map] at q
      exact q
    | none =>
      rw [e2] at P
      cases rd with
      | str s =>
        dsimp only at P
        by_cases hl : s.length ≤ lim
        · rw [if_pos hl] at P
          exact .inl ⟨.str s, s.length, rfl, ⟨lim_le hl, rfl⟩, PostE.here (d := .int s.length) P R (.int _)⟩
        · rw [if_neg hl] at P; exact False.elim P
      | _ => exact False.elim P
theorem bi_abs : BiOk X g .abs (.builtin "abs") := by
  refine bi_one (F := fun _ => absF) call_abs (fun _ => rfl) fun W A α h σ H Q fz d x R rd P => ?_
  cases rd with
  | int i => exact ⟨i, rfl, PostE.here (d := .int _) P R (.int _)⟩
  | _ => exact False.elim P
theorem bi_max2 (hc : X.calm = true) : BiOk X g .max2 (.builtin "max") := by
  refine bi_two (F := max2F) (call_max2 hc) (fun _ => rfl) fun W A α h σ H Q fz d e x y R rd rd' P => ?_
  cases rd with
  | int i => cases rd' with
    | int j => exact ⟨i, j, rfl, PostE.here (d := .int _) P R (.int _)⟩
    | _ => exact False.elim P
  | _ => cases rd' <;> exact False.elim P
theorem bi_min2 (hc : X.calm = true) : BiOk X g .min2 (.builtin "min") := by
  refine bi_two (F := min2F) (call_min2 hc) (fun _ => rfl) fun W A α h σ H Q fz d e x y R rd rd' P => ?_
  cases rd with
  | int i => cases rd' with
    | int j => exact ⟨i, j, rfl, PostE.here (d := .int _) P R (.int _)⟩
    | _ => exact False.elim P
  | _ => cases rd' <;> exact False.elim P
theorem bi_gcd : BiOk X g .gcd (.builtin "math.gcd") := by
  refine bi_two (F := gcdF) cr_gcd (fun _ => rfl) fun W A α h σ H Q fz d e x y R rd rd' P => ?_
  cases rd with
  | int i => cases rd' with
    | int j => exact ⟨i, j, rfl, PostE.here (d := .int _) P R (.int _)⟩
    | _ => exact False.elim P
  | _ => cases rd' <;> exact False.elim P
/-- a function of one list of whole numbers -/
theorem bi_ints {b : Bi} {f : Value} {F : List Int → Option P} {r0 : List L2.V → Hp → L2.VK → Prop} (hr : CallR X f r0) (hb : ∀ h, bfn h b = one (intsF h F))
    (hF : ∀ (W : L2.WX) (A : Av) (α : List Addr) (h : Lh) (σ : L2.St) (H : Hp) (Q : L2.VK) (fz : Bool) (a : Addr) (is : List Int), HRel A α h H → SqL X.K H a (is.map L2.V.int) → PostE g A α H σ W Q (fin fz (F is) h) → r0 [.ref a] H Q) : BiOk X g b f := by
  refine bi_one (F := fun h => intsF h F) hr hb fun W A α h σ H Q fz d x R rd P => ?_
  unfold intsF at P
  cases e : vw h d with
  | none => rw [e] at P; exact False.elim P
  | some p =>
    obtain ⟨k, ds⟩ := p
    rw [e] at P
    cases k with
    | true => exact False.elim P
    | false =>
      dsimp only at P
      cases e2 : intsOf ds with
      | none => rw [e2] at P; exact False.elim P
      | some is =>
        rw [e2] at P
        obtain ⟨a, xs, rfl, hq, r2⟩ := vw_list R rd e
        have ex := intsOf_V r2 e2
        subst ex
        exact hF W A α h σ H Q fz a is R (.inl hq) P
theorem bi_sum (hc : X.calm = true) : BiOk X g .sum (.builtin "sum") :=
  bi_ints (F := fun is => some (.v (.int is.sum))) (cr_sum hc) (fun h => rfl) fun W A α h σ H Q fz a is R hs P => ⟨a, is, rfl, hs, PostE.here (d := .int _) P R (.int _)⟩
theorem bi_max (hc : X.calm = true) : BiOk X g .max (.builtin "max") := by
  refine bi_ints (F := maxF) (cr_max hc) (fun h => rfl) fun W A α h σ H Q fz a is R hs P => ?_
  cases is with
  | nil => exact False.elim P
  | cons i r =>
    refine ⟨a, i :: r, rfl, hs, by simp, fun m hm hle => ?_⟩
    have q := PostE.here (d := .int (maxI i r)) P R (.int _)
    obtain ⟨h1, h2, h3⟩ := maxI_ge i r
    have e : m = maxI i r := by
      refine Int.le_antisymm ?_ (hle _ ?_)
      · rcases List.mem_cons.mp hm with rfl | hm
        · exact h1
        · exact h2 m hm
      · rcases h3 with h3 | h3
        · rw [h3]; simp
        · exact List.mem_cons_of_mem _ h3
    rw [e]; exact q
theorem bi_min (hc : X.calm = true) : BiOk X g .min (.builtin "min") := by
  refine bi_ints (F := minF) (cr_min hc) (fun h => rfl) fun W A α h σ H Q fz a is R hs P => ?_
  cases is with
  | nil => exact False.elim P
  | cons i r =>
    refine ⟨a, i :: r, rfl, hs, by simp, fun m hm hle => ?_⟩
    have q := PostE.here (d := .int (minI i r)) P R (.int _)
    obtain ⟨h1, h2, h3⟩ := minI_le i r
    have e : m = minI i r := by
      refine Int.le_antisymm (hle _ ?_) ?_
      · rcases h3 with h3 | h3
        · rw [h3]; simp
        · exact List.mem_cons_of_mem _ h3
      · rcases List.mem_cons.mp hm with rfl | hm
        · exact h1
        · exact h2 m hm
    rw [e]; exact q
theorem bi_sorted : BiOk X g .sorted (.builtin "sorted") :=
  bi_ints (F := fun is => some (.l ((sortI is).map .int))) cr_sortedI (fun h => rfl) fun W A α h σ H Q fz a is R hs P => ⟨a, is, rfl, hs, fun ns p pm rs n => by
    have e : ns = sortI is := List.Perm.eq_of_pairwise (fun a b _ _ h1 h2 => Int.le_antisymm h1 h2) rs (sortI_rises is) (pm.trans (sortI_perm is).symm)
    rw [e]
    exact PostE.new P R (Reps.ofInts _) n⟩
theorem bi_bls {b : Bi} {f : Value} {F : List Bool → Bool} {r0 : List L2.V → Hp → L2.VK → Prop} (hr : CallR X f r0) (hb : ∀ h, bfn h b = one (blsF h F))
    (hF : ∀ (H : Hp) (Q : L2.VK) (a : Addr) (is : List Bool), SqL X.K H a (is.map L2.V.bl) → Q (.bl (F is)) H → r0 [.ref a] H Q) : BiOk X g b f := by
  refine bi_one (F := fun h => blsF h F) hr hb fun W A α h σ H Q fz d x R rd P => ?_
  unfold blsF at P
  cases e : vw h d with
  | none => rw [e] at P; exact False.elim P
  | some p =>
    obtain ⟨k, ds⟩ := p
    rw [e] at P
    cases k with
    | true => exact False.elim P
    | false =>
      dsimp only at P
      cases e2 : bls ds with
      | none => rw [e2] at P; exact False.elim P
      | some is =>
        rw [e2] at P
        obtain ⟨a, xs, rfl, hq, r2⟩ := vw_list R rd e
        have ex := bls_V r2 e2
        subst ex
        exact hF H Q a is (.inl hq) (PostE.here (d := .bl (F is)) P R (.bl _))
theorem bi_all (hc : X.calm = true) : BiOk X g .all (.builtin "all") :=
  bi_bls (F := fun is => is.all id) (cr_all hc) (fun h => rfl) fun H Q a is hs q => ⟨a, is, rfl, hs, q⟩
theorem bi_any (hc : X.calm = true) : BiOk X g .any (.builtin "any") :=
  bi_bls (F := fun is => is.any id) (cr_any hc) (fun h => rfl) fun H Q a is hs q => ⟨a, is, rfl, hs, q⟩
theorem bi_list : BiOk X g .list (.type "list") := by
  refine bi_one (F := fun h => seqF h .l) call_list_of (fun _ => rfl) fun W A α h σ H Q fz d x R rd P => ?_
  unfold seqF at P
  cases e : vw h d with
  | none => rw [e] at P; exact False.elim P
  | some p =>
    obtain ⟨k, ds⟩ := p
    rw [e] at P
    obtain ⟨a, xs, rfl, hq, r2⟩ := vw_seq (K := X.K) R rd e
    exact ⟨a, xs, rfl, hq, fun l n => PostE.new P R r2 n⟩
theorem bi_tuple : BiOk X g .tuple (.type "tuple") := by
  refine bi_one (F := fun h => seqF h fun ds => .v (.tup ds)) call_tuple_of (fun _ => rfl) fun W A α h σ H Q fz d x R rd P => ?_
  unfold seqF at P
  cases e : vw h d with
  | none => rw [e] at P; exact False.elim P
  | some p =>
    obtain ⟨k, ds⟩ := p
    rw [e] at P
    cases k with
    | false =>
      obtain ⟨a, xs, rfl, hq, r2⟩ := vw_list R rd e
      exact ⟨a, xs, rfl, .inl ⟨.inl hq, fun l n => PostE.tupNew (fz := fz) P R r2 n⟩⟩
    | true =>
      obtain ⟨a, xs, rfl, hq, r2⟩ := vw_tup R rd e
      rw [vw_tree e] at rd
      exact ⟨a, xs, rfl, .inr ⟨.inl (.inl hq), PostE.here (d := .tup ds) P R rd⟩⟩
theorem bi_int : BiOk X g .int (.type "int") := by
  refine bi_one (F := fun _ => intF) call_int1 (fun _ => rfl) fun W A α h σ H Q fz d x R rd P => ?_
  cases rd with
  | int i => exact .inl ⟨i, rfl, PostE.here (d := .int _) P R (.int _)⟩
  | bl b => exact .inr ⟨b, rfl, PostE.here (d := .int _) P R (.int _)⟩
  | _ => exact False.elim P
theorem bi_str : BiOk X g .str (.type "str") := by
  refine bi_one (F := fun _ => strF) call_str_int (fun _ => rfl) fun W A α h σ H Q fz d x R rd P => ?_
  cases rd with
  | int i =>
    have P : PostE g A α H σ W Q (fin fz (if i.natAbs.log2 < 1920 then some (.v (.str (toString i))) else none) h) := P
    by_cases hl : i.natAbs.log2 < 1920
    · rw [if_pos hl] at P
      exact ⟨i, rfl, hl, PostE.here (d := .str _) P R (.str _)⟩
    · rw [if_neg hl] at P; exact False.elim P
  | _ => exact False.elim P
end
end TB

end

section
set_option Elab.async false
set_option linter.all false
set_option maxHeartbeats 1000000
namespace TB
open PySem L2

section
variable {X : L2.Cx} {g : G} {W : L2.WX} {cx : Cx} {pos : Pos}
variable {ξ : Xi} {A : Av} {α : List Addr} {h : Lh} {env : Env} {σ : L2.St} {H : Hp}
theorem noStars {es : List Expr} {env : PySem.Env} (h : es.all notStar = true) : (backTo pos (starEach es env)).any (·.1) = false := by
  induction es with
  | nil => rfl
  | cons e es ih =>
    rw [List.all_cons, Bool.and_eq_true] at h
    rw [star_ok h.1]
    show (false || (backTo pos (starEach es env)).any (·.1)) = false
    rw [ih h.2]; rfl
/-! ### calls of built-in functions -/
theorem s_biB {b : Bi} {id : String} {x : Str} {p : Pos} {fz : Bool} {e : Expr} {es : List Expr} {ms : Es} (ok : BiOk X g b (.builtin id)) (hg : Gl X x) (hm : X.mg x = none) (hv : bootBuiltins x = some (.builtin id)) (ha : PA X (e :: es) (vA g W cx ms))
    (hn : x ≠ "__name__") (hdb : (x == ("__debug__" : Str)) = false) (hs : (e :: es).all notStar = true) : PE X (.Call (.Name x p) (e :: es) [] pos) (vE g W cx (.bi b fz ms)) := by
  obtain ⟨r, hr, k⟩ := ok
  rw [List.all_cons, Bool.and_eq_true] at hs
  refine weakE (pe_callB hr hg hm hv ha hn hdb (star_ok hs.1) (noStars hs.2)) fun σ H Q ⟨ξ, A, α, h, env, R, P⟩ => ?_
  exact vA_bind R P fun ds h1 α1 H1 xs e1 R1 r1 P1 => k W A α1 h1 σ H1 Q fz ds xs R1.h r1 P1
theorem s_biT {b : Bi} {T : String} {x : Str} {p : Pos} {fz : Bool} {e : Expr} {es : List Expr} {ms : Es} (ok : BiOk X g b (.type T)) (hg : Gl X x) (hm : X.mg x = none) (hv : bootBuiltins x = some (.type T)) (ha : PA X (e :: es) (vA g W cx ms))
    (hn : x ≠ "__name__") (hdb : (x == ("__debug__" : Str)) = false) (hs : (e :: es).all notStar = true) : PE X (.Call (.Name x p) (e :: es) [] pos) (vE g W cx (.bi b fz ms)) := by
  obtain ⟨r, hr, k⟩ := ok
  rw [List.all_cons, Bool.and_eq_true] at hs
  refine weakE (pe_callTy hr hg hm hv ha hn hdb (star_ok hs.1) (noStars hs.2)) fun σ H Q ⟨ξ, A, α, h, env, R, P⟩ => ?_
  exact vA_bind R P fun ds h1 α1 H1 xs e1 R1 r1 P1 => k W A α1 h1 σ H1 Q fz ds xs R1.h r1 P1
theorem s_biF {b : Bi} {id : String} {x : Str} {p : Pos} {fz : Bool} {e : Expr} {es : List Expr} {ms : Es} (ok : BiOk X g b (.builtin id)) (hg : Gl X x) (hm : X.mg x = some (.builtin id)) (ha : PA X (e :: es) (vA g W cx ms))
    (hdb : (x == ("__debug__" : Str)) = false) (hs : (e :: es).all notStar = true) : PE X (.Call (.Name x p) (e :: es) [] pos) (vE g W cx (.bi b fz ms)) := by
  obtain ⟨r, hr, k⟩ := ok
  rw [List.all_cons, Bool.and_eq_true] at hs
  refine weakE (pe_callBfun hr hg hm ha hdb (star_ok hs.1) (noStars hs.2)) fun σ H Q ⟨ξ, A, α, h, env, R, P⟩ => ?_
  exact vA_bind R P fun ds h1 α1 H1 xs e1 R1 r1 P1 => k W A α1 h1 σ H1 Q fz ds xs R1.h r1 P1
/-- list(range(n)) -/
theorem upto_rep (n : Nat) (lo : Int) : Reps A α H (upto lo n) ((List.range n).map fun i => L2.V.int (lo + (i : Nat))) := by
  induction n generalizing lo with
  | zero => exact .nil
  | succ n ih =>
    rw [List.range_succ_eq_map, List.map_cons, List.map_map]
    have e : (fun i : Nat => L2.V.int (lo + (i : Nat))) ∘ Nat.succ = fun i : Nat => L2.V.int (lo + 1 + (i : Nat)) := by
      funext i
      show L2.V.int (lo + ((i + 1 : Nat) : Int)) = L2.V.int (lo + 1 + (i : Int))
      congr 1
      omega
    rw [e]
    have h0 : lo + ((0 : Nat) : Int) = lo := by omega
    rw [h0]
    exact .cons (.int lo) (ih (lo + 1))
theorem s_rlist {p p2 pos2 : Pos} {fz : Bool} {a : Expr} {m : E} (hc : X.calm = true) (hg : Gl X "list") (hm : X.mg "list" = none) (hg2 : Gl X "range") (hm2 : X.mg "range" = none) (ha : PE X a (vE g W cx m)) (hs : notStar a = true) :
    PE X (.Call (.Name "list" p) [.Call (.Name "range" p2) [a] [] pos2] [] pos) (vE g W cx (.bi1 .rlist fz m)) := by
  refine weakE (pe_listRg hc hg hm (prg_1 hg2 hm2 ha (star_ok hs)) rfl) fun σ H Q ⟨ξ, A, α, h, env, R, P⟩ => ?_
  have P : PostE g A α H σ W Q ((m.ev cx env h).bind fun x h => fin fz (rlistF x) h) := P
  refine vE_bind R P fun d h1 α1 H1 x e1 R1 r1 P1 => ?_
  cases r1 with
  | int n =>
    refine ⟨n, rfl, ?_⟩
    have P1 : PostE g A α1 H1 σ W Q (fin fz (if okRng n then some (.l (upto 0 n.toNat)) else none) h1) := P1
    by_cases hk : okRng n = true
    · rw [if_pos hk] at P1
      have hk := of_decide_eq_true hk
      refine ⟨⟨by omega, by omega, by omega, by omega, by omega⟩, fun q n' => ?_⟩
      have e : rgV 0 n = (List.range n.toNat).map fun i => L2.V.int (0 + (i : Nat)) := by unfold rgV; rw [Int.sub_zero]
      rw [e]
      exact PostE.new P1 R1.h (upto_rep n.toNat 0) n'
    · rw [if_neg hk] at P1; exact False.elim P1
  | _ => exact False.elim P1

/-! ### kinds -/
def tyN : Ty → String
  | .int => "int" | .bool => "bool" | .str => "str" | .list => "list" | .tuple => "tuple" | .dict => "dict"
/-- the built-in class of a datum -/
def clsOf (h : Lh) : D → Option String
  | .non => some "NoneType"
  | .bl _ => some "bool"
  | .int _ => some "int"
  | .str _ => some "str"
  | .exc _ _ => none
  | d => match vw h d with
    | some (false, _) => some "list"
    | some (true, _) => some "tuple"
    | none => match vd h d with
      | some _ => some "dict"
      | none => none
theorem tyx_of {K : Frag} (R : HRel A α h H) {d : D} {x : L2.V} {t : String} (r : Rep A α H d x) (e : clsOf h d = some t) : TyX K H x (.type t) := by
  have seq : ∀ {d : D} {x : L2.V} (r : Rep A α H d x), (match vw h d with
      | some (false, _) => some "list"
      | some (true, _) => some "tuple"
      | none => match vd h d with
        | some _ => some "dict"
        | none => none) = some t → TyX K H x (.type t) := by
    intro d x r e
    cases e1 : vw h d with
    | some p =>
      obtain ⟨k, ds⟩ := p
      rw [e1] at e
      cases k with
      | false =>
        cases e
        obtain ⟨a, xs, rfl, hq, _⟩ := vw_list R r e1
        rcases hq with hq | ⟨o, hq⟩
        · exact .base (.lst hq)
        · exact .base (.frz hq)
      | true =>
        cases e
        obtain ⟨a, xs, rfl, hq, _⟩ := vw_tup R r e1
        exact .base (.tup hq)
    | none =>
      rw [e1] at e
      dsimp only at e
      cases e2 : vd h d with
      | none => rw [e2] at e; cases e
      | some p =>
        obtain ⟨ks, ds⟩ := p
        rw [e2] at e
        cases e
        obtain ⟨a, kvs, rfl, hq, _⟩ := vd_dict R r e2
        rcases hq with hq | ⟨o, hq⟩
        · exact .base (.dK hq)
        · exact .fDict hq
  cases r with
  | non => cases e; exact .base .non
  | bl b => cases e; exact .base (.bl b)
  | int i => cases e; exact .base (.int i)
  | str s => cases e; exact .base (.str s)
  | ref k => exact seq (.ref k) e
  | lst h1 h2 h3 h4 => exact seq (.lst h1 h2 h3 h4) e
  | tup h1 h2 h3 h4 => exact seq (.tup h1 h2 h3 h4) e
  | dct h1 h2 h3 h4 h5 => exact seq (.dct h1 h2 h3 h4 h5) e
theorem kit_all : ∀ (t : Ty) (c : String), c ∈ ["NoneType", "bool", "int", "str", "list", "tuple", "dict"] → kitB c (tyN t) = some (c == tyN t || (c == "bool" && tyN t == "int")) := by
  intro t c hm
  simp only [List.mem_cons, List.not_mem_nil, or_false] at hm
  rcases hm with rfl | rfl | rfl | rfl | rfl | rfl | rfl <;> cases t <;> decide +kernel
theorem isTy_cls {h : Lh} {t : Ty} {d : D} {b : Bool} (e : isTy h t d = some b) : ∃ c, clsOf h d = some c ∧ c ∈ ["NoneType", "bool", "int", "str", "list", "tuple", "dict"] ∧ b = (c == tyN t || (c == "bool" && tyN t == "int")) := by
  have seq : ∀ d : D, (match vw h d with
      | some (false, _) => some (t == .list)
      | some (true, _) => some (t == .tuple)
      | none => match vd h d with
        | some _ => some (t == .dict)
        | none => none) = some b → ∃ c, (match vw h d with
      | some (false, _) => some "list"
      | some (true, _) => some "tuple"
      | none => match vd h d with
        | some _ => some "dict"
        | none => none) = some c ∧ c ∈ ["NoneType", "bool", "int", "str", "list", "tuple", "dict"] ∧ b = (c == tyN t || (c == "bool" && tyN t == "int")) := by
    intro d e
    cases e1 : vw h d with
    | some p =>
      obtain ⟨k, ds⟩ := p
      rw [e1] at e
      cases k with
      | false => cases e; exact ⟨"list", rfl, by simp, by cases t <;> rfl⟩
      | true => cases e; exact ⟨"tuple", rfl, by simp, by cases t <;> rfl⟩
    | none =>
      rw [e1] at e
      dsimp only at e ⊢
      cases e2 : vd h d with
      | none => rw [e2] at e; cases e
      | some p => rw [e2] at e; cases e; exact ⟨"dict", rfl, by simp, by cases t <;> rfl⟩
  cases d with
  | non => cases e; exact ⟨"NoneType", rfl, by simp, by cases t <;> rfl⟩
  | bl b => cases e; exact ⟨"bool", rfl, by simp, by cases t <;> rfl⟩
  | int i => cases e; exact ⟨"int", rfl, by simp, by cases t <;> rfl⟩
  | str s => cases e; exact ⟨"str", rfl, by simp, by cases t <;> rfl⟩
  | exc _ _ => cases e
  | ref n => exact seq (.ref n) e
  | lst ds => exact seq (.lst ds) e
  | tup ds => exact seq (.tup ds) e
  | dct ks ds => exact seq (.dct ks ds) e
theorem kit_one {K : Frag} {h : Lh} {t : Ty} {d : D} {b : Bool} (e : isTy h t d = some b) : ∃ c, clsOf h d = some c ∧ PySem.W.kitOne K (.type c) (.type (tyN t)) = some b := by
  obtain ⟨c, e1, hm, rfl⟩ := isTy_cls e
  exact ⟨c, e1, kit_ty (kit_all t c hm)⟩
theorem kit_any {K : Frag} {h : Lh} {d : D} {c : String} (ec : clsOf h d = some c) : ∀ {ts : List Ty} {b : Bool}, isTys h ts d = some b → PySem.W.kitAny K (.type c) (ts.map fun t => Value.type (tyN t)) = some b
  | [], b, e => by cases e; exact kitAny_nil
  | t :: ts, b, e => by
    have e : (match isTy h t d with
      | some true => some true
      | some false => isTys h ts d
      | none => none) = some b := e
    cases e1 : isTy h t d with
    | none => rw [e1] at e; cases e
    | some b1 =>
      obtain ⟨c', ec', k⟩ := kit_one (K := K) e1
      rw [ec] at ec'; cases ec'
      rw [e1] at e
      cases b1 with
      | true => cases e; exact kitAny_cons k (fun z => by cases z) (fun _ => rfl)
      | false => exact kitAny_cons k (fun _ => kit_any ec e) (fun z => by cases z)
theorem clsOf_of {h : Lh} {d : D} {ts : List Ty} {b : Bool} (hne : ts ≠ []) (e : isTys h ts d = some b) : ∃ c, clsOf h d = some c := by
  cases ts with
  | nil => exact absurd rfl hne
  | cons t ts =>
    have e : (match isTy h t d with
      | some true => some true
      | some false => isTys h ts d
      | none => none) = some b := e
    cases e1 : isTy h t d with
    | none => rw [e1] at e; cases e
    | some b1 => obtain ⟨c, ec, _⟩ := kit_one (K := []) e1; exact ⟨c, ec⟩
theorem rsO_bl {Q : L2.VK} {o : Option Bool} (P : PostE g A α H σ W Q (rsO (o.map .bl) h)) (R : HRel A α h H) : ∃ b, o = some b ∧ Q (.bl b) H := by
  cases o with
  | none => exact False.elim P
  | some b => exact ⟨b, rfl, PostE.here (d := .bl b) P R (.bl b)⟩
/-- a built-in class by its name -/
structure TyNm (X : L2.Cx) (t : Ty) (e : Expr) : Prop where
  is : ∃ x p, e = .Name x p ∧ Gl X x ∧ X.mg x = none ∧ bootBuiltins x = some (.type (tyN t)) ∧ x ≠ "__name__" ∧ (x == ("__debug__" : Str)) = false
theorem TyNm.pe {t : Ty} {e : Expr} (n : TyNm X t e) : PE X e (tC (.ty (tyN t))) := by
  obtain ⟨x, p, rfl, hg, hm, hv, hn, hd⟩ := n.is
  exact pe_bltn hg hm hv (rfl : RelV (.ty (tyN t)) (.type (tyN t))) hn hd
theorem TyNm.star {t : Ty} {e : Expr} (n : TyNm X t e) : notStar e = true := by
  obtain ⟨x, p, rfl, _⟩ := n.is
  rfl
theorem s_isi1 {t : Ty} {p : Pos} {a c : Expr} {m : E} (hg : Gl X "isinstance") (hm : X.mg "isinstance" = none) (ha : PE X a (vE g W cx m)) (hs : notStar a = true) (n : TyNm X t c) :
    PE X (.Call (.Name "isinstance" p) [a, c] [] pos) (vE g W cx (.isi [t] m)) := by
  refine weakE (pe_callB call_isi hg hm (by decide +kernel) (pa_cons ha (pa_cons n.pe pa_nil (star_ok n.star)) (star_ok hs)) (by decide) (by decide) (star_ok hs) (noStars (by simp [n.star]))) fun σ H Q ⟨ξ, A, α, h, env, R, P⟩ => ?_
  refine vE_bind R P fun d h1 α1 H1 x e1 R1 r1 P1 => ?_
  obtain ⟨b, e, q⟩ := rsO_bl P1 R1.h
  have e' : isTy h1 t d = some b := by
    have e : (match isTy h1 t d with
      | some true => some true
      | some false => some false
      | none => none) = some b := e
    cases e2 : isTy h1 t d with
    | none => rw [e2] at e; cases e
    | some b1 => rw [e2] at e; cases b1 <;> exact e
  obtain ⟨c', ec, k⟩ := kit_one (K := X.K) e'
  exact ⟨x, _, .type c', .type (tyN t), b, rfl, .ty _, tyx_of R1.h r1 ec, k, q⟩
/-- names of built-in classes in a row -/
inductive TyNms (X : L2.Cx) : List Ty → List Expr → Prop
  | nil : TyNms X [] []
  | cons {t : Ty} {e : Expr} {ts : List Ty} {es : List Expr} : TyNm X t e → TyNms X ts es → TyNms X (t :: ts) (e :: es)
def tTys (ts : List Ty) : L2.TA := fun _ H Q => Q (ts.map fun t => L2.V.ty (tyN t)) H
theorem TyNms.pa {ts : List Ty} {es : List Expr} (n : TyNms X ts es) : PA X es (tTys ts) := by
  induction n with
  | nil => exact weakA pa_nil fun σ H Q w => w
  | cons n _ ih => exact weakA (pa_cons n.pe ih (star_ok n.star)) fun σ H Q w => w
theorem paired_cls (ts : List Ty) : Paired ClsV (ts.map fun t => L2.V.ty (tyN t)) (ts.map fun t => Value.type (tyN t)) := by
  induction ts with
  | nil => exact .nil
  | cons t ts ih => exact .cons (.ty _) ih
theorem s_isiT {ts : List Ty} {p pt : Pos} {k : Nat} {a : Expr} {cs : List Expr} {m : E} (hg : Gl X "isinstance") (hm : X.mg "isinstance" = none) (ha : PE X a (vE g W cx m)) (hs : notStar a = true) (n : TyNms X ts cs) (hne : ts ≠ []) (hl : ts.length ≤ 100) :
    PE X (.Call (.Name "isinstance" p) [a, .Tuple cs k pt] [] pos) (vE g W cx (.isi ts m)) := by
  refine weakE (pe_callB call_isiT hg hm (by decide +kernel) (pa_cons ha (pa_cons (pe_tup n.pa) pa_nil rfl) (star_ok hs)) (by decide) (by decide) (star_ok hs) rfl) fun σ H Q ⟨ξ, A, α, h, env, R, P⟩ => ?_
  refine vE_bind R P fun d h1 α1 H1 x e1 R1 r1 P1 => ?_
  refine ⟨by rw [List.length_map]; exact small1000 (by omega) |> Nat.le_of_lt, fun tp ntp => ?_⟩
  have e2 := Ext.alloc (α := α1) (o := .tup (ts.map fun t => L2.V.ty (tyN t))) ntp
  have k2 := R1.h.alloc (o := .tup (ts.map fun t => L2.V.ty (tyN t))) ntp
  obtain ⟨b, e, q⟩ := rsO_bl (PostE.mono P1 e2) k2
  obtain ⟨c', ec⟩ := clsOf_of hne e
  exact ⟨x, tp, _, .type c', _, b, rfl, upd_same, paired_cls ts, tyx_of k2 (r1.ext e2) ec, kit_any ec e, q⟩

/-! ### methods of lists -/
def plainBase : Expr → Bool
  | .Call (.Name _ _) [] [] _ => false
  | _ => true
theorem base_ok {o : Expr} {f : Str} {env : PySem.Env} (h : plainBase o = true) : attributeBase o f env (eval o env) = eval o env := by
  unfold attributeBase
  split
  · cases h
  · rfl
theorem few1 {cpos : Pos} {e : Expr} {env : PySem.Env} (hs : notStar e = true) : ((backTo cpos (starEach [e] env)).all (fun x => !x.1) && (backToKw cpos (keywordEach [] env)).all (fun x => x.1.isSome)
      && decide (([e] : List Expr).length + ([] : List Keyword).length + (if ([] : List Keyword).isEmpty then 0 else 1) < 30)) = true := by
  rw [star_ok hs]; rfl
theorem vm_at (R : HRel A α h H) {d : D} {x : L2.V} {ds : List D} (r : Rep A α H d x) (e : vm h d = some (false, ds)) {K : Frag} : tyV K "list" x H := by
  obtain ⟨a, xs, rfl, hq, _⟩ := vm_list R r e
  exact .inl ⟨rfl, xs, .inl (.inl hq)⟩
/-- a cell's list and its place -/
theorem cell_at (R : HRel A α h H) {n : Nat} {ds : List D} {x : L2.V} (r : Rep A α H (.ref n) x) (e : h[n]? = some (.lst ds)) : ∃ a xs, x = .ref a ∧ α[n]? = some a ∧ H a = some (.lst xs) ∧ Reps A α H ds xs := by
  cases r with
  | ref k =>
    obtain ⟨b, g', w⟩ := R.at_ n _ e
    rw [k] at g'; cases g'
    obtain ⟨xs, w1, w2⟩ := w
    exact ⟨_, xs, rfl, k, w1, w2⟩
theorem met_inv {m : Me} {x : D} {as : List D} {r : Rs D} (e : met h m x as = r) (ne : r ≠ .stuck) : ∃ n ds d ds', x = .ref n ∧ h[n]? = some (.lst ds) ∧ meL h m ds as = some (d, ds') ∧ r = .ok d (h.set n (.lst ds')) := by
  cases x with
  | ref n =>
    unfold met at e
    dsimp only at e
    cases e1 : h[n]? with
    | none => rw [e1] at e; exact absurd e.symm ne
    | some o =>
      rw [e1] at e
      cases o with
      | lst ds =>
        dsimp only at e
        cases e2 : meL h m ds as with
        | none => rw [e2] at e; exact absurd e.symm ne
        | some p =>
          obtain ⟨d, ds'⟩ := p
          rw [e2] at e
          exact ⟨n, ds, d, ds', rfl, e1, e2, e.symm⟩
      | _ => exact absurd e.symm ne
  | _ => exact absurd e.symm ne
theorem post_met {Q : L2.VK} {m : Me} {x : D} {as : List D} (P : PostE g A α H σ W Q (met h m x as)) : ∃ n ds d ds', x = .ref n ∧ h[n]? = some (.lst ds) ∧ meL h m ds as = some (d, ds') ∧ PostE g A α H σ W Q (.ok d (h.set n (.lst ds'))) := by
  obtain ⟨n, ds, d, ds', h1, h2, h3, h4⟩ := met_inv (r := met h m x as) rfl (fun z => by rw [z] at P; exact P)
  rw [h4] at P
  exact ⟨n, ds, d, ds', h1, h2, h3, P⟩
/-- the cell's list is changed, the value handed back -/
theorem PostE.setL {Q : L2.VK} {n : Nat} {a : Addr} {d : D} {y : L2.V} {ds : List D} {xs : List L2.V} (P : PostE g A α H σ W Q (.ok d (h.set n (.lst ds)))) (R : HRel A α h H) (k : α[n]? = some a) (r : Reps A α H ds xs) (rd : Rep A α H d y) : Q y (upd H a (.lst xs)) := by
  have e := Ext.set (H := H) (o := .lst xs) (List.mem_of_getElem? k)
  exact P α _ _ e (R.set k ⟨xs, upd_same, r.ext e⟩) (rd.ext e)
theorem me_bind {m : Me} {o : E} {es : Es} {Q : L2.VK} (R : Rl g ξ A α h env σ H) (P : PostE g A α H σ W Q ((E.me m o es).ev cx env h)) {R' : L2.V → Hp → Prop}
    (f : ∀ d ds h1 α1 H1 x, Rl g ξ A α1 h1 env σ H1 → Rep A α1 H1 d x → vm h1 d = some (false, ds) → PostE g A α1 H1 σ W Q ((es.ev cx env h1).bind fun ys h => met h m d ys) → R' x H1) : vE g W cx o σ H R' := by
  refine vE_bind R P fun d h1 α1 H1 x e1 R1 r1 P1 => ?_
  cases e : vm h1 d with
  | none => rw [e] at P1; exact False.elim P1
  | some p =>
    obtain ⟨k, ds⟩ := p
    rw [e] at P1
    cases k with
    | true => exact False.elim P1
    | false => exact f d ds h1 α1 H1 x R1 r1 e P1
theorem s_append {o a : Expr} {apos : Pos} {mo ma : E} (ho : PE X o (vE g W cx mo)) (ha : PE X a (vE g W cx ma)) (hb : plainBase o = true) (hl : (apos.endLine == pos.line) = true) (hs : notStar a = true) :
    PE X (.Call (.Attribute o "append" apos) [a] [] pos) (vE g W cx (.me .append mo (.cons ma .nil))) := by
  refine weakE (pe_bm PySem.F.plainAttrs_list PySem.F.slot_list_append PySem.F.type_list_append mt_append ho (a_cons ha a_nil hs) (base_ok hb) (few1 hs) hl (star_ok hs) rfl) fun σ H Q ⟨ξ, A, α, h, env, R, P⟩ => ?_
  refine me_bind R P fun d ds h1 α1 H1 x R1 r1 e P1 => ⟨vm_at R1.h r1 e, vA_bind R1 P1 fun ys h2 α2 H2 vs e2 R2 r2 P2 => ?_⟩
  obtain ⟨n, ds, d', ds', rfl, hn, hm, P3⟩ := post_met P2
  obtain ⟨p, xs, rfl, hk, hp, r3⟩ := cell_at R2.h (r1.ext e2) hn
  cases r2 with
  | nil => cases hm
  | cons ry r4 =>
    cases r4 with
    | cons _ _ => cases hm
    | nil =>
      obtain ⟨hlt, hd⟩ := ite_some (show (if ds.length < lim then some (D.non, ds ++ [_]) else none) = some (d', ds') from hm)
      cases hd
      exact ⟨p, xs, _, rfl, rfl, hp, by rw [← r3.length]; exact lim_lt hlt, PostE.setL P3 R2.h hk (r3.append (.one ry)) .non⟩
theorem s_extend {o a : Expr} {apos : Pos} {mo ma : E} (ho : PE X o (vE g W cx mo)) (ha : PE X a (vE g W cx ma)) (hb : plainBase o = true) (hl : (apos.endLine == pos.line) = true) (hs : notStar a = true) :
    PE X (.Call (.Attribute o "extend" apos) [a] [] pos) (vE g W cx (.me .extend mo (.cons ma .nil))) := by
  refine weakE (pe_bm PySem.F.plainAttrs_list PySem.F.slot_list_extend PySem.F.type_list_extend mt_extend ho (a_cons ha a_nil hs) (base_ok hb) (few1 hs) hl (star_ok hs) rfl) fun σ H Q ⟨ξ, A, α, h, env, R, P⟩ => ?_
  refine me_bind R P fun d ds h1 α1 H1 x R1 r1 e P1 => ⟨vm_at R1.h r1 e, vA_bind R1 P1 fun ys h2 α2 H2 vs e2 R2 r2 P2 => ?_⟩
  obtain ⟨n, ds, d', ds', rfl, hn, hm, P3⟩ := post_met P2
  obtain ⟨p, xs, rfl, hk, hp, r3⟩ := cell_at R2.h (r1.ext e2) hn
  cases r2 with
  | nil => cases hm
  | @cons dy y _ _ ry r4 =>
    cases r4 with
    | cons _ _ => cases hm
    | nil =>
      have hm : (match vm h2 dy with
        | some (false, es) => if ds.length + es.length ≤ lim then some (D.non, ds ++ es) else none
        | _ => none) = some (d', ds') := hm
      cases e5 : vm h2 dy with
      | none => rw [e5] at hm; cases hm
      | some q =>
        obtain ⟨k, es⟩ := q
        rw [e5] at hm
        cases k with
        | true => cases hm
        | false =>
          obtain ⟨hlt, hd⟩ := ite_some hm
          cases hd
          obtain ⟨q, zs, rfl, hq, r5⟩ := vm_list R2.h ry e5
          exact ⟨p, q, xs, zs, rfl, rfl, hp, hq, by rw [← r3.length, ← r5.length]; exact lim_le hlt, PostE.setL P3 R2.h hk (r3.append r5) .non⟩
theorem s_popAt {o a : Expr} {apos : Pos} {mo ma : E} (ho : PE X o (vE g W cx mo)) (ha : PE X a (vE g W cx ma)) (hb : plainBase o = true) (hl : (apos.endLine == pos.line) = true) (hs : notStar a = true) :
    PE X (.Call (.Attribute o "pop" apos) [a] [] pos) (vE g W cx (.me .popAt mo (.cons ma .nil))) := by
  refine weakE (pe_bm PySem.F.plainAttrs_list PySem.F.slot_list_pop PySem.F.type_list_pop mt_popAt ho (a_cons ha a_nil hs) (base_ok hb) (few1 hs) hl (star_ok hs) rfl) fun σ H Q ⟨ξ, A, α, h, env, R, P⟩ => ?_
  refine me_bind R P fun d ds h1 α1 H1 x R1 r1 e P1 => ⟨vm_at R1.h r1 e, vA_bind R1 P1 fun ys h2 α2 H2 vs e2 R2 r2 P2 => ?_⟩
  obtain ⟨n, ds, d', ds', rfl, hn, hm, P3⟩ := post_met P2
  obtain ⟨p, xs, rfl, hk, hp, r3⟩ := cell_at R2.h (r1.ext e2) hn
  cases r2 with
  | nil => cases hm
  | @cons dy y _ _ ry r4 =>
    cases r4 with
    | cons _ _ => cases ry <;> cases hm
    | nil =>
      cases ry with
      | int i =>
        have hm : (if okIx i then match place i ds.length with
          | some k => match ds[k]? with
            | some x => some (x, ds.eraseIdx k)
            | none => none
          | none => none
          else none) = some (d', ds') := hm
        by_cases hk2 : okIx i = true
        · rw [if_pos hk2] at hm
          have hk3 := of_decide_eq_true hk2
          cases e4 : place i ds.length with
          | none => rw [e4] at hm; cases hm
          | some k =>
            rw [e4] at hm
            dsimp only at hm
            cases e5 : ds[k]? with
            | none => rw [e5] at hm; cases hm
            | some z =>
              rw [e5] at hm
              cases hm
              obtain ⟨y, hy, ry⟩ := r3.get e5
              have hix : ixN xs.length i = some k := by rw [← r3.length]; exact place_ix e4
              exact ⟨p, xs, i, k, y, rfl, rfl, hp, by omega, by omega, (ixN_seq hix).1, hy, PostE.setL P3 R2.h hk (r3.eraseIdx k) ry⟩
        · rw [if_neg hk2] at hm; cases hm
      | _ => cases hm
theorem s_pop {o : Expr} {apos : Pos} {mo : E} (ho : PE X o (vE g W cx mo)) (hb : plainBase o = true) (hl : (apos.endLine == pos.line) = true) :
    PE X (.Call (.Attribute o "pop" apos) [] [] pos) (vE g W cx (.me .pop mo .nil)) := by
  refine weakE (pe_bm0 PySem.F.plainAttrs_list PySem.F.slot_list_pop PySem.F.type_list_pop mt_pop ho (base_ok hb) hl) fun σ H Q ⟨ξ, A, α, h, env, R, P⟩ => ?_
  refine me_bind R P fun d ds h1 α1 H1 x R1 r1 e P1 => ⟨vm_at R1.h r1 e, ?_⟩
  obtain ⟨n, ds, d', ds', rfl, hn, hm, P3⟩ := post_met (show PostE g A α1 H1 σ W Q (met h1 .pop d []) from P1)
  obtain ⟨p, xs, rfl, hk, hp, r3⟩ := cell_at R1.h r1 hn
  have hm : (match ds.getLast? with
    | some x => some (x, ds.dropLast)
    | none => none) = some (d', ds') := hm
  cases e4 : ds.getLast? with
  | none => rw [e4] at hm; cases hm
  | some z =>
    rw [e4] at hm
    cases hm
    rw [List.getLast?_eq_getElem?] at e4
    obtain ⟨y, hy, ry⟩ := r3.get e4
    exact ⟨p, xs, y, rfl, rfl, hp, by rw [← r3.length]; exact hy, PostE.setL P3 R1.h hk r3.dropLast ry⟩
end
end TB

end

section
set_option Elab.async false
set_option linter.all false
set_option maxHeartbeats 1000000
namespace TB
open PySem L2

section
variable {A A₂ : Av} {α : List Addr} {h : Lh} {H H' : Hp}
/-! ### trees of cells, apart from more -/
mutual
theorem bindRef_rep2 {f : Nat → Option D} (hA : ∀ a, a ∉ α → ¬ A a → ¬ A₂ a) (hf : ∀ (k : Nat) (d' : D) (a : Addr), f k = some d' → α[k]? = some a → Rep A₂ [] H d' (.ref a)) :
    ∀ (d d' : D) (x : L2.V), Rep A α H d x → d.bindRef f = some d' → Rep A₂ [] H d' x
  | .non, _, _, r, e => by cases r; cases e; exact .non
  | .bl b, _, _, r, e => by cases r; cases e; exact .bl b
  | .int i, _, _, r, e => by cases r; cases e; exact .int i
  | .str s, _, _, r, e => by cases r; cases e; exact .str s
  | .ref n, d', _, r, e => by cases r with | ref g => exact hf n d' _ e g
  | .lst ds, d', _, r, e => by
    cases r with
    | lst h1 h2 h3 h4 =>
      obtain ⟨ds', e1, rfl⟩ := Option.map_eq_some_iff.mp (show (bindRefs f ds).map D.lst = some d' from e)
      exact .lst (by simp) (hA _ h1 h2) h3 (bindRefs_rep2 hA hf ds ds' _ h4 e1)
  | .tup ds, d', _, r, e => by
    cases r with
    | tup h1 h2 h3 h4 =>
      obtain ⟨ds', e1, rfl⟩ := Option.map_eq_some_iff.mp (show (bindRefs f ds).map D.tup = some d' from e)
      exact .tup (by simp) (hA _ h1 h2) h3 (bindRefs_rep2 hA hf ds ds' _ h4 e1)
  | .dct ks ds, d', _, r, e => by
    cases r with
    | dct h1 h2 h3 h4 h5 =>
      obtain ⟨ds', e1, rfl⟩ := Option.map_eq_some_iff.mp (show (bindRefs f ds).map (D.dct ks) = some d' from e)
      exact .dct (by simp) (hA _ h1 h2) h3 h4 (bindRefs_rep2 hA hf ds ds' _ h5 e1)
  | .exc _ _, _, _, r, _ => by cases r
theorem bindRefs_rep2 {f : Nat → Option D} (hA : ∀ a, a ∉ α → ¬ A a → ¬ A₂ a) (hf : ∀ (k : Nat) (d' : D) (a : Addr), f k = some d' → α[k]? = some a → Rep A₂ [] H d' (.ref a)) :
    ∀ (ds ds' : List D) (xs : List L2.V), Reps A α H ds xs → bindRefs f ds = some ds' → Reps A₂ [] H ds' xs
  | [], _, _, r, e => by cases r; cases e; exact .nil
  | d :: ds, ds', _, r, e => by
    cases r with
    | cons r1 r2 =>
      obtain ⟨d1, e1, e2⟩ := Option.bind_eq_some_iff.mp (show (d.bindRef f).bind (fun d' => (bindRefs f ds).map (d' :: ·)) = some ds' from e)
      obtain ⟨ds1, e3, rfl⟩ := Option.map_eq_some_iff.mp e2
      exact .cons (bindRef_rep2 hA hf d d1 _ r1 e1) (bindRefs_rep2 hA hf ds ds1 _ r2 e3)
end
theorem thawF_rep2 (R : HRel A α h H) (hA : ∀ a, a ∉ α → ¬ A a → ¬ A₂ a) (hc : ∀ (k : Nat) (a : Addr) (o : O), h[k]? = some o → α[k]? = some a → (∀ ds, o ≠ .ro ds) → o ≠ .gone → ¬ A₂ a) :
    ∀ (n k : Nat) (d' : D) (a : Addr), thawF h n k = some d' → α[k]? = some a → Rep A₂ [] H d' (.ref a)
  | 0, _, _, _, e, _ => by cases e
  | n + 1, k, d', a, e, g => by
    have ih := thawF_rep2 R hA hc n
    unfold thawF at e
    cases q : h[k]? with
    | none => rw [q] at e; cases e
    | some o =>
      have na := hc k a o q g
      rw [q] at e
      obtain ⟨b, g', w⟩ := R.at_ k o q
      rw [g] at g'; cases g'
      cases o with
      | lst ds =>
        obtain ⟨ds', e1, rfl⟩ := Option.map_eq_some_iff.mp e
        obtain ⟨xs, w1, w2⟩ := w
        exact .lst (by simp) (na (fun _ z => by cases z) (fun z => by cases z)) w1 (bindRefs_rep2 hA ih ds ds' _ w2 e1)
      | ro ds => cases e
      | dct ks ds =>
        obtain ⟨ds', e1, rfl⟩ := Option.map_eq_some_iff.mp e
        obtain ⟨kvs, w1, w2, w3⟩ := w
        exact .dct (by simp) (na (fun _ z => by cases z) (fun z => by cases z)) (.inl w1) w2 (bindRefs_rep2 hA ih ds ds' _ w3 e1)
      | gone => cases e
theorem thaw_rep2 (R : HRel A α h H) (hA : ∀ a, a ∉ α → ¬ A a → ¬ A₂ a) (hc : ∀ (k : Nat) (a : Addr) (o : O), h[k]? = some o → α[k]? = some a → (∀ ds, o ≠ .ro ds) → o ≠ .gone → ¬ A₂ a) {n : Nat} {d d' : D} {x : L2.V} (r : Rep A α H d x) (e : thaw h n d = some d') : Rep A₂ [] H d' x :=
  bindRef_rep2 hA (thawF_rep2 R hA hc n) d d' x r e
/-- nothing that stood has changed -/
theorem HRel.stay (R : HRel A α h H) (k : ∀ a o, H a = some o → H' a = some o) : HRel A α h H' where
  len := R.len
  nd := R.nd
  av := fun a m => let ⟨m1, o, e⟩ := R.av a m; ⟨m1, o, k _ _ e⟩
  at_ := fun i o e => by
    obtain ⟨a, g, q⟩ := R.at_ i o e
    have ex : Ext α H α H' := ⟨⟨[], by simp⟩, fun b h n => absurd h n, fun a o q _ => k a o q⟩
    exact ⟨a, g, q.imp (fun u z => k _ _ z) fun _ _ r => r.ext ex⟩
theorem Ext.stay (k : ∀ a o, H a = some o → H' a = some o) : Ext α H α H' := ⟨⟨[], by simp⟩, fun b h n => absurd h n, fun a o q _ => k a o q⟩
theorem thaws_get : ∀ {ds ds' : List D}, thaws h ds = some ds' → ds.length = ds'.length ∧ ∀ (j : Nat) (d' : D), ds'[j]? = some d' → ∃ d, ds[j]? = some d ∧ thaw h deep d = some d'
  | [], _, e => by cases e; exact ⟨rfl, fun j d' q => by simp at q⟩
  | d :: ds, ds', e => by
    obtain ⟨d1, e1, e2⟩ := Option.bind_eq_some_iff.mp (show (thaw h deep d).bind (fun x => (thaws h ds).map (x :: ·)) = some ds' from e)
    obtain ⟨ds1, e3, rfl⟩ := Option.map_eq_some_iff.mp e2
    obtain ⟨l, k⟩ := thaws_get e3
    refine ⟨by simp [l], fun j d' q => ?_⟩
    cases j with
    | zero => simp at q; subst q; exact ⟨d, rfl, e1⟩
    | succ j => simpa using k j d' (by simpa using q)
end

section
variable {g : G} {ξ : Xi} {A : Av} {α : List Addr} {h : Lh} {env : Env} {σ : L2.St} {H : Hp} {W : L2.WX} {cx : Cx}
theorem XDict.thaw {A₂ : Av} {α₁ : List Addr} {h₁ : Lh} {H₁ : Hp} {c : Nat} {fs fs' : List D} {d : Option Addr} (x : XDict g A₂ α₁ H₁ c fs d) (e : thaws h₁ fs = some fs') (nd : ∀ a, a ∉ α₁ → ¬ A₂ a → a ∉ α ∧ ¬ A a)
    (k : ∀ d d' x, Rep A₂ α₁ H₁ d x → TB.thaw h₁ deep d = some d' → Rep A α H₁ d' x) : XDict g A α H₁ c fs' d := by
  obtain ⟨l, k2⟩ := thaws_get e
  obtain ⟨hl, x⟩ := x
  refine ⟨⟨hl.1, by rw [← l]; exact hl.2⟩, ?_⟩
  rcases x with x | ⟨dd, ps, h1, h2, h3, h4, h5⟩
  · obtain ⟨x, xd⟩ := x
    subst x
    cases fs' with
    | nil => exact .inl ⟨rfl, xd⟩
    | cons _ _ => cases l
  · refine .inr ⟨dd, ps, h1, (nd _ h2 h3).1, (nd _ h2 h3).2, h4, fun j f v a b => ?_⟩
    obtain ⟨v0, b0, t0⟩ := k2 j v b
    obtain ⟨x, q, r⟩ := h5 j f v0 a b0
    exact ⟨x, q, k _ _ _ r t0⟩
/-- what a def promises: what the evaluator tells of it -/
def spC (g : G) (c : Nat → List D → Lh → Rs D) (f n : Nat) : Sp := fun vs H Q E =>
  ∃ A α h ds, HRel A α h H ∧ Reps A α H ds vs ∧ vs.length = n ∧ PostE g A α H ([] : L2.St) (fun c d _ H => E c d H) Q (c f ds h)
theorem post_at {Q : L2.VK} {r : Rs D} (P : PostE g A α H σ W Q r) : PostE g A α H ([] : L2.St) (fun c d _ H => WE W σ c d H) Q r := by
  cases r with
  | ok d h' => exact P
  | exc c fs h' => exact P
  | stuck => exact P
variable {c : Nat → List D → Lh → Rs D} {f n : Nat} {as : List D} {vs : List L2.V}
theorem sp_inl {Q : L2.VK} (R : HRel A α h H) (r : Reps A α H as vs) (hn : vs.length = n) (P : PostE g A α H σ W Q (c f as h)) : spC g c f n vs H Q (WE W σ) :=
  ⟨A, α, h, as, R, r, hn, post_at P⟩
theorem sp_pure {Q : L2.VK} (R : HRel A α h H) (r : Reps A α H as vs) (hn : vs.length = n) (P : PostE g A α H σ W Q (callPure c f as h)) : spC g c f n vs H Q (WE W σ) := by
  unfold callPure at P
  by_cases hr : nrefs as = true
  · rw [if_pos hr] at P
    refine ⟨fun a => A a ∨ a ∈ α, [], [], as, ⟨rfl, .nil, fun a m => ⟨by simp, ?_⟩, fun i o e => by simp at e⟩, Reps.nref (fun a u h1 h2 h3 => ⟨by simp, fun m => m.elim h2 h1⟩) as vs hr r, hn, ?_⟩
    · rcases m with m | m
      · exact (R.av a m).2
      · exact R.there m
    have nd : ∀ a, ¬ (A a ∨ a ∈ α) → a ∉ α ∧ ¬ A a := fun a m => ⟨fun z => m (.inr z), fun z => m (.inl z)⟩
    cases q : c f as [] with
    | ok d h1 =>
      rw [q] at P
      dsimp only at P
      cases q2 : thaw h1 deep d with
      | none => rw [q2] at P; exact False.elim P
      | some d' =>
        rw [q2] at P
        intro α1 H1 x e1 R1 r1
        have k : ∀ a o, H a = some o → H1 a = some o := fun a o z => e1.keep a o z (by simp)
        exact P α H1 x (.stay k) (R.stay k) ((thaw_rep R1 r1 q2).of_nil nd)
    | exc k fs h1 =>
      rw [q] at P
      dsimp only at P
      cases q2 : thaws h1 fs with
      | none => rw [q2] at P; exact False.elim P
      | some fs' =>
        rw [q2] at P
        intro α1 H1 d e1 R1 x1
        have k : ∀ a o, H a = some o → H1 a = some o := fun a o z => e1.keep a o z (by simp)
        exact P α H1 d (.stay k) (R.stay k) (x1.thaw q2 (fun a _ z => nd a z) fun d d' x r1 t => (thaw_rep R1 r1 t).of_nil nd)
    | stuck => rw [q] at P; exact False.elim P
  · rw [if_neg hr] at P; exact False.elim P
theorem sp_snap {Q : L2.VK} (R : HRel A α h H) (r : Reps A α H as vs) (hn : vs.length = n) (P : PostE g A α H σ W Q (callSnap c f as h)) : spC g c f n vs H Q (WE W σ) := by
  unfold callSnap at P
  cases q0 : thaws h as with
  | none => rw [q0] at P; exact False.elim P
  | some as' =>
    rw [q0] at P
    dsimp only at P
    refine ⟨A, [], [], as', ⟨rfl, .nil, fun a m => ⟨by simp, (R.av a m).2⟩, fun i o e => by simp at e⟩, thaws_rep R r q0, hn, ?_⟩
    cases q : c f as' [] with
    | ok d h1 =>
      rw [q] at P
      dsimp only at P
      by_cases hd : flat d = true
      · rw [if_pos hd] at P
        intro α1 H1 x e1 R1 r1
        have k : ∀ a o, H a = some o → H1 a = some o := fun a o z => e1.keep a o z (by simp)
        exact P α H1 x (.stay k) (R.stay k) (r1.of_flat hd)
      · rw [if_neg hd] at P; exact False.elim P
    | exc k fs h1 => rw [q] at P; exact False.elim P
    | stuck => rw [q] at P; exact False.elim P
theorem sp_box {Q : L2.VK} (R : HRel A α h H) (r : Reps A α H as vs) (hn : vs.length = n) (P : PostE g A α H σ W Q (callBox c f as h)) : spC g c f n vs H Q (WE W σ) := by
  unfold callBox at P
  cases r with
  | nil => exact False.elim P
  | @cons d0 x0 rest xs r0 rs =>
    cases r0 with
    | @ref b ab hb =>
      dsimp only at P
      by_cases hr : nrefs rest = true
      · rw [if_pos hr] at P
        cases q0 : h[b]? with
        | none => rw [q0] at P; exact False.elim P
        | some o =>
          rw [q0] at P
          cases o with
          | lst ds =>
            dsimp only at P
            by_cases hd : nrefs ds = true
            · rw [if_pos hd] at P
              obtain ⟨ab', hb', zs, hz, rz⟩ := R.at_ b _ q0
              rw [hb] at hb'; cases hb'
              have nin : ∀ a u, a ∉ α → ¬ A a → At H a u → a ∉ [ab] ∧ ¬ (A a ∨ (a ∈ α ∧ a ≠ ab)) := fun a u h1 h2 _ =>
                ⟨fun m => by rw [List.mem_singleton.mp m] at h1; exact h1 (List.mem_of_getElem? hb), fun m => m.elim h2 fun m => h1 m.1⟩
              have nout : ∀ a (α1 : List Addr), ab ∈ α1 → a ∉ α1 → ¬ (A a ∨ (a ∈ α ∧ a ≠ ab)) → a ∉ α ∧ ¬ A a := fun a α1 m1 h1 h2 =>
                ⟨fun m => h2 (.inr ⟨m, fun z => h1 (z ▸ m1)⟩), fun m => h2 (.inl m)⟩
              refine ⟨fun a => A a ∨ (a ∈ α ∧ a ≠ ab), [ab], [.lst ds], .ref 0 :: rest, ⟨rfl, by simp, fun a m => ?_, fun i o e => ?_⟩, .cons (.ref rfl) (Reps.nref nin rest _ hr rs), hn, ?_⟩
              · rcases m with m | m
                · exact ⟨fun z => (R.av a m).1 (by rw [List.mem_singleton.mp z]; exact List.mem_of_getElem? hb), (R.av a m).2⟩
                · exact ⟨fun z => m.2 (List.mem_singleton.mp z), R.there m.1⟩
              · cases i with
                | zero =>
                  cases e
                  exact ⟨ab, rfl, zs, hz, Reps.nref nin ds _ hd rz⟩
                | succ i => simp at e
              -- behind the call
              have back : ∀ (ds' : List D) (h1 : Lh) (α1 : List Addr) (H1 : Hp), Ext [ab] H α1 H1 → HRel (fun a => A a ∨ (a ∈ α ∧ a ≠ ab)) α1 (.lst ds' :: h1) H1 → nrefs ds' = true →
                  ab ∈ α1 ∧ Ext α H α H1 ∧ HRel A α (h.set b (.lst ds')) H1 ∧ (∀ d d' x, Rep (fun a => A a ∨ (a ∈ α ∧ a ≠ ab)) α1 H1 d x → thaw (.gone :: h1) deep d = some d' → Rep A α H1 d' x) := by
                intro ds' h1 α1 H1 e1 R1 hd'
                obtain ⟨l, hl⟩ := e1.pre
                have m1 : ab ∈ α1 := by rw [hl]; simp
                have ex : Ext α H α H1 := ⟨⟨[], by simp⟩, fun b h k => absurd h k, fun a o q k => e1.keep a o q (fun z => k (by rw [List.mem_singleton.mp z]; exact List.mem_of_getElem? hb))⟩
                refine ⟨m1, ex, ⟨by simp [R.len], R.nd, fun a m => ⟨(R.av a m).1, let ⟨_, o, q⟩ := R.av a m; ⟨o, ex.keep a o q (R.av a m).1⟩⟩, fun i o e => ?_⟩, fun d d' x rd t => ?_⟩
                · by_cases hi : b = i
                  · subst hi
                    rw [List.getElem?_set_self ((List.getElem?_eq_some_iff.mp q0).1)] at e
                    cases e
                    obtain ⟨a', ha', ys, hy, ry⟩ := R1.at_ 0 _ rfl
                    rw [hl] at ha'
                    cases ha'
                    exact ⟨ab, hb, ys, hy, Reps.nref (fun a u h1 h2 _ => nout a α1 m1 h1 h2) ds' _ hd' ry⟩
                  · rw [List.getElem?_set_ne hi] at e
                    obtain ⟨a', ga, w⟩ := R.at_ i o e
                    have hne : a' ≠ ab := fun z => by
                      subst z
                      have h1 := List.getElem?_eq_some_iff.mp hb
                      have h2 := List.getElem?_eq_some_iff.mp ga
                      exact hi ((List.getElem_inj R.nd).mp (h1.2.trans h2.2.symm))
                    exact ⟨a', ga, w.imp (fun u z => e1.keep a' u z (fun m => hne (List.mem_singleton.mp m))) fun _ _ r => r.ext ex⟩
                · have R2 : HRel (fun a => A a ∨ (a ∈ α ∧ a ≠ ab)) α1 (.gone :: h1) H1 := ⟨by rw [R1.len]; rfl, R1.nd, R1.av, fun i o e => by
                    cases i with
                    | zero =>
                      cases e
                      obtain ⟨a', ga, ys, hy, _⟩ := R1.at_ 0 _ rfl
                      exact ⟨a', ga, _, hy⟩
                    | succ i => exact R1.at_ (i + 1) o e⟩
                  refine Rep.of_nil (A := fun a => A a ∨ a ∈ α) (fun a m => ⟨fun z => m (.inr z), fun z => m (.inl z)⟩) (thaw_rep2 (A₂ := fun a => A a ∨ a ∈ α) R2 (fun a h1 h2 m => ?_) (fun k a o hk ga nr ng m => ?_) rd t)
                  · have z := nout a α1 m1 h1 h2
                    exact m.elim z.2 z.1
                  · have na : ¬ (A a ∨ (a ∈ α ∧ a ≠ ab)) := fun z => (R1.av a z).1 (List.mem_of_getElem? ga)
                    rcases m with m | m
                    · exact na (.inl m)
                    · by_cases z : a = ab
                      · subst z
                        cases k with
                        | zero => cases hk; exact ng rfl
                        | succ k =>
                          have e0 : α1[0]? = some a := by rw [hl]; rfl
                          have h1 := List.getElem?_eq_some_iff.mp e0
                          have h2 := List.getElem?_eq_some_iff.mp ga
                          have := (List.getElem_inj R1.nd).mp (h1.2.trans h2.2.symm)
                          omega
                      · exact na (.inr ⟨m, z⟩)
              cases q : c f (.ref 0 :: rest) [.lst ds] with
              | ok d hh =>
                rw [q] at P
                cases hh with
                | nil => exact False.elim P
                | cons o1 h1 =>
                  cases o1 with
                  | lst ds' =>
                    dsimp only at P
                    by_cases hd' : nrefs ds' = true
                    · rw [if_pos hd'] at P
                      cases q2 : thaw (.gone :: h1) deep d with
                      | none => rw [q2] at P; exact False.elim P
                      | some d' =>
                        rw [q2] at P
                        intro α1 H1 x e1 R1 r1
                        obtain ⟨m1, b1, b2, b3⟩ := back ds' h1 α1 H1 e1 R1 hd'
                        exact P α H1 x b1 b2 (b3 d d' x r1 q2)
                    · rw [if_neg hd'] at P; exact False.elim P
                  | _ => exact False.elim P
              | exc k fs hh =>
                rw [q] at P
                cases hh with
                | nil => exact False.elim P
                | cons o1 h1 =>
                  cases o1 with
                  | lst ds' =>
                    dsimp only at P
                    by_cases hd' : nrefs ds' = true
                    · rw [if_pos hd'] at P
                      cases q2 : thaws (.gone :: h1) fs with
                      | none => rw [q2] at P; exact False.elim P
                      | some fs' =>
                        rw [q2] at P
                        intro α1 H1 dd e1 R1 x1
                        obtain ⟨m1, b1, b2, b3⟩ := back ds' h1 α1 H1 e1 R1 hd'
                        exact P α H1 dd b1 b2 (x1.thaw q2 (fun a h1 h2 => nout a α1 m1 h1 h2) b3)
                    · rw [if_neg hd'] at P; exact False.elim P
                  | _ => exact False.elim P
              | stuck => rw [q] at P; exact False.elim P
            · rw [if_neg hd] at P; exact False.elim P
          | _ => exact False.elim P
      · rw [if_neg hr] at P; exact False.elim P
    | _ => exact False.elim P
theorem sp_call {m : Cm} {Q : L2.VK} (R : HRel A α h H) (r : Reps A α H as vs) (hn : vs.length = n) (P : PostE g A α H σ W Q (callM cx m f as h)) : spC g cx.call f n vs H Q (WE W σ) := by
  cases m with
  | inl => exact sp_inl R r hn P
  | pure => exact sp_pure R r hn P
  | box => exact sp_box R r hn P
  | snap => exact sp_snap R r hn P
end
end TB

end

section
set_option Elab.async false
set_option linter.all false
set_option maxHeartbeats 1000000
namespace TB
open PySem L2

/-! ### how a call binds -/
def arr {β : Type} (l : List β) : List Nat → List β
  | [] => []
  | i :: is => match l[i]? with
    | some x => x :: arr l is
    | none => arr l is
theorem arr_vals {vs : List L2.V} {us : List Value} (r : Vals vs us) : ∀ pm : List Nat, Vals (arr vs pm) (arr us pm)
  | [] => .nil
  | i :: is => by
    unfold arr
    cases e : vs[i]? with
    | none => rw [r.none_of e]; exact arr_vals r is
    | some x =>
      obtain ⟨u, e2, q⟩ := r.get e
      rw [e2]
      exact .cons q (arr_vals r is)
theorem arrange_reps {A : Av} {α : List Addr} {H : Hp} {ds : List D} {xs : List L2.V} (r : Reps A α H ds xs) : ∀ {pm : List Nat} {as : List D}, arrange ds pm = some as → Reps A α H as (arr xs pm) ∧ as.length = pm.length
  | [], _, e => by cases e; exact ⟨.nil, rfl⟩
  | i :: is, as, e => by
    obtain ⟨d, e1, e2⟩ := Option.bind_eq_some_iff.mp (show (ds[i]?).bind (fun v => (arrange ds is).map (v :: ·)) = some as from e)
    obtain ⟨as', e3, rfl⟩ := Option.map_eq_some_iff.mp e2
    obtain ⟨x, h1, h2⟩ := r.get e1
    obtain ⟨k1, k2⟩ := arrange_reps r e3
    unfold arr
    rw [h1]
    exact ⟨.cons h2 k1, by simp [k2]⟩
/-- n values by place, values by the names ks: the parameters' values by the places pm -/
structure KB (x qual : Str) (st : Stmt) (ps : List Str) (n : Nat) (ks : List Str) (pm : List Nat) : Prop where
  len : pm.length = ps.length
  eq : ∀ (kV doc pv : Value) (an : Option Addr) (cdv ct : Value) (us ws : List Value), us.length = n → ws.length = ks.length →
    bindArgs (PySem.W.fnOf x qual (defArgs st) (defBody st) (defScope st) .none kV doc pv an cdv ct) ⟨us, ks.zip ws⟩ = pure (ps.zip (arr (us ++ ws) pm))
section
variable {X : L2.Cx} {k n : Nat} {f : Addr} {fd : FuncData} {ps ks : List Str} {sp : Sp} {E : L2.St → XK} {x qual : Str} {st : Stmt} {p pos : Pos} {e : Expr} {es : List Expr} {kws : List Keyword} {t tk : L2.TA} {pm : List Nat}
theorem run_fnKS {pins : List (Addr × Obj)} {σ : L2.St} {H : Hp} {s : Shared} {Q : L2.VK} {us ws : List Value} {vs zs : List L2.V} (F : FnOk X.prog X.w X.K X.mg X.base (L2.CX X.prog X.w) k f fd ps sp) (hr : Room k X.A) (hF : Fun X.K x qual st f fd) (hb : KB x qual st ps n ks pm)
    (hx : PassesAt (L2.CX X.prog X.w) X σ (E σ)) (I : Inv X pins σ H s) (r : Vals vs us) (rz : Vals zs ws) (l1 : vs.length = n) (l2 : zs.length = ks.length) (h : sp (arr (vs ++ zs) pm) H Q (E σ)) : wpAny (model X.prog X.w) X.A (call (.ref f) us (ks.zip ws)) (EP X pins σ Q) X.xe s := by
  have r2 := arr_vals (r.append rz) pm
  have hl : (arr (us ++ ws) pm).length = ps.length := by rw [← r2.length]; exact F.len _ _ _ _ h
  have hbt : BindsTo s fd ⟨us, ks.zip ws⟩ (ps.zip (arr (us ++ ws) pm)) := by
    obtain ⟨oc, od, kV, doc, pv, an, cdv, ct, osl, rfl, lk, hcd⟩ := hF.ex
    exact .of_eq (hb.eq kV doc pv an cdv ct us ws (by rw [← r.length, l1]) (by rw [← rz.length, l2]))
  refine wpAny_call (codeAny_mono (F.run X.A X.stack s H ⟨us, ks.zip ws⟩ _ _ Q (E σ) hr I.env0 hbt r2 h) fun o s' hq => ?_)
  cases o with
  | error e => exact hx pins H s e s' I hq
  | ok fl => cases fl with
    | ret u => exact I.after hq
    | _ => exact False.elim hq
def tCallKS (n m : Nat) (pm : List Nat) (sp : Sp) (E : L2.St → XK) (t tk : L2.TA) : L2.TE := fun σ H Q => t σ H fun vs H1 => tk σ H1 fun zs H2 => vs.length = n ∧ zs.length = m ∧ sp (arr (vs ++ zs) pm) H2 Q (E σ)
theorem pe_c1 (F : FnOk X.prog X.w X.K X.mg X.base (L2.CX X.prog X.w) k f fd ps sp) (hr : Room k X.A) (hg : Gl X x) (hm : X.mg x = some (.ref f)) (hF : Fun X.K x qual st f fd) (hb : KB x qual st ps n [] pm) (hx : ∀ σ, PassesAt (L2.CX X.prog X.w) X σ (E σ))
    (ha : PA X (e :: es) t) (hdb : (x == ("__debug__" : Str)) = false) (he : (e :: es).all notStar = true) :
    PE X (.Call (.Name x p) (e :: es) [] pos) (tCallKS n 0 pm sp E t tNil) := by
  rw [List.all_cons, Bool.and_eq_true] at he
  refine ⟨fun pins s σ H Q I h => wpAny_Call_Name_kw (ld_glob I hg hm ?_ hdb)⟩
  refine PySem.W.callWith_K (h₀ := X.base) I.ok.mod.kin hF.kp (thn (ha.run pos pins s σ H _ I h) fun us s1 ⟨vs, H1, I1, r, q⟩ => ⟨I1.kIn, ?_⟩) (star_ok he.1) (noStars he.2)
  have q : vs.length = n ∧ ([] : List L2.V).length = 0 ∧ sp (arr (vs ++ []) pm) H1 Q (E σ) := q
  exact run_fnKS (ks := []) F hr hF hb (hx σ) I1 r .nil q.1 q.2.1 q.2.2
theorem pe_c0 (F : FnOk X.prog X.w X.K X.mg X.base (L2.CX X.prog X.w) k f fd ps sp) (hr : Room k X.A) (hg : Gl X x) (hm : X.mg x = some (.ref f)) (hF : Fun X.K x qual st f fd) (hb : KB x qual st ps 0 [] pm) (hx : ∀ σ, PassesAt (L2.CX X.prog X.w) X σ (E σ))
    (hdb : (x == ("__debug__" : Str)) = false) : PE X (.Call (.Name x p) [] [] pos) (tCallKS 0 0 pm sp E tNil tNil) := by
  refine ⟨fun pins s σ H Q I h => wpAny_Call_Name_kw (ld_glob I hg hm ?_ hdb)⟩
  have q : ([] : List L2.V).length = 0 ∧ ([] : List L2.V).length = 0 ∧ sp (arr ([] ++ []) pm) H Q (E σ) := h
  exact PySem.W.callWith_K0 I.kIn hF.kp (run_fnKS (ks := []) F hr hF hb (hx σ) I .nil .nil q.1 q.2.1 q.2.2)
theorem pe_cK (F : FnOk X.prog X.w X.K X.mg X.base (L2.CX X.prog X.w) k f fd ps sp) (hr : Room k X.A) (hg : Gl X x) (hm : X.mg x = some (.ref f)) (hF : Fun X.K x qual st f fd) (hb : KB x qual st ps n ks pm) (hx : ∀ σ, PassesAt (L2.CX X.prog X.w) X σ (E σ))
    (ha : PA X (e :: es) t) (hkw : PK X kws tk) (hall : (backToKw pos (keywordEach kws X.env)).all (·.1.isSome) = true) (hks : (backToKw pos (keywordEach kws X.env)).filterMap (·.1) = ks)
    (hdb : (x == ("__debug__" : Str)) = false) (he : notStar e = true) (hpl : ((backTo pos (starEach (e :: es) X.env)).any (·.1) || (backToKw pos (keywordEach kws X.env)).any (·.1.isNone)) = false) :
    PE X (.Call (.Name x p) (e :: es) kws pos) (tCallKS n ks.length pm sp E t tk) := by
  refine ⟨fun pins s σ H Q I h => wpAny_Call_Name_kw (ld_glob I hg hm ?_ hdb)⟩
  refine PySem.W.callWith_KW (h₀ := X.base) I.ok.mod.kin hF.kp hall (thn (ha.run pos pins s σ H _ I h) fun us s1 ⟨vs, H1, I1, r, q⟩ => ?_) hpl (star_ok he)
  refine thn (hkw.run pos pins s1 σ H1 _ I1 q) fun ws s2 ⟨zs, H2, I2, rz, l1, l2, q2⟩ => ⟨I2.kIn, ?_⟩
  rw [hks]
  exact run_fnKS F hr hF hb (hx σ) I2 r rz l1 l2 q2
theorem pe_cK0 (F : FnOk X.prog X.w X.K X.mg X.base (L2.CX X.prog X.w) k f fd ps sp) (hr : Room k X.A) (hg : Gl X x) (hm : X.mg x = some (.ref f)) (hF : Fun X.K x qual st f fd) (hb : KB x qual st ps 0 ks pm) (hx : ∀ σ, PassesAt (L2.CX X.prog X.w) X σ (E σ))
    (hkw : PK X kws tk) (hall : (backToKw pos (keywordEach kws X.env)).all (·.1.isSome) = true) (hks : (backToKw pos (keywordEach kws X.env)).filterMap (·.1) = ks)
    (hdb : (x == ("__debug__" : Str)) = false) (hpl : ((backTo pos (starEach [] X.env)).any (·.1) || (backToKw pos (keywordEach kws X.env)).any (·.1.isNone)) = false) :
    PE X (.Call (.Name x p) [] kws pos) (tCallKS 0 ks.length pm sp E tNil tk) := by
  refine ⟨fun pins s σ H Q I h => wpAny_Call_Name_kw (ld_glob I hg hm ?_ hdb)⟩
  refine PySem.W.callWith_KW0 (h₀ := X.base) I.ok.mod.kin hF.kp hall ?_ hpl
  refine thn (hkw.run pos pins s σ H _ I h) fun ws s2 ⟨zs, H2, I2, rz, l1, l2, q2⟩ => ⟨I2.kIn, ?_⟩
  rw [hks]
  exact run_fnKS (us := []) (vs := []) F hr hF hb (hx σ) I2 .nil rz l1 l2 q2
end

/-! ### keywords -/
section
variable {X : L2.Cx} {g : G} {W : L2.WX} {cx : Cx} {pos : Pos}
theorem weakKw {kws : List Keyword} {t t' : L2.TA} (h : PK X kws t) (i : ∀ σ H Q, t' σ H Q → t σ H Q) : PK X kws t' := ⟨fun p pins s σ H Q I w => h.run p pins s σ H Q I (i σ H Q w)⟩
theorem vA_nil {σ : L2.St} {H : Hp} {Q : List L2.V → Hp → Prop} (w : vA g W cx .nil σ H Q) : Q [] H := by
  obtain ⟨ξ, A, α, h, env, R, P⟩ := w
  exact P α H [] .refl R.h .nil
theorem vA_cons {m : E} {ms : Es} {σ : L2.St} {H : Hp} {Q : List L2.V → Hp → Prop} (w : vA g W cx (.cons m ms) σ H Q) : tCons (vE g W cx m) (vA g W cx ms) σ H Q := by
  obtain ⟨ξ, A, α, h, env, R, P⟩ := w
  have P : PostA g A α H σ W Q ((m.ev cx env h).bind fun x h => (ms.ev cx env h).bind fun xs h => .ok (x :: xs) h) := P
  refine ⟨ξ, A, α, h, env, R, ?_⟩
  cases q : m.ev cx env h with
  | stuck => rw [q] at P; exact P
  | exc c fs h1 => rw [q] at P; exact P
  | ok d h1 =>
    rw [q] at P
    intro α1 H1 x e1 R1 r1
    refine ⟨ξ, A, α1, h1, env, R.step e1 R1, ?_⟩
    have P : PostA g A α1 H1 σ W Q ((ms.ev cx env h1).bind fun xs h => .ok (d :: xs) h) := PostA.mono P e1
    cases q2 : ms.ev cx env h1 with
    | stuck => rw [q2] at P; exact P
    | exc c fs h2 => rw [q2] at P; exact P
    | ok ds h2 =>
      rw [q2] at P
      intro α2 H2 xs e2 R2 r2
      exact P α2 H2 (x :: xs) e2 R2 (.cons (r1.ext e2) r2)
theorem k_nil : PK X [] (vA g W cx .nil) := weakKw pk_nil fun σ H Q w => vA_nil w
theorem k_cons {nm : Option Str} {kpos : Pos} {e : Expr} {kws : List Keyword} {m : E} {ms : Es} (he : PE X e (vE g W cx m)) (hk : PK X kws (vA g W cx ms)) : PK X (⟨nm, e, kpos⟩ :: kws) (vA g W cx (.cons m ms)) :=
  weakKw (pk_cons he hk) fun σ H Q w => vA_cons w
/-- the first n, the others -/
def Es.app : Es → Es → Es
  | .nil, t => t
  | .cons e es, t => .cons e (es.app t)
theorem app_ev {env : Env} : ∀ (ms ns : Es) (h : Lh), (ms.app ns).ev cx env h = (ms.ev cx env h).bind fun xs h => (ns.ev cx env h).bind fun ys h => .ok (xs ++ ys) h
  | .nil, ns, h => by
    show ns.ev cx env h = (ns.ev cx env h).bind fun ys h => .ok ys h
    cases ns.ev cx env h <;> rfl
  | .cons m ms, ns, h => by
    show (m.ev cx env h).bind (fun x h => ((ms.app ns).ev cx env h).bind fun xs h => .ok (x :: xs) h) = ((m.ev cx env h).bind fun x h => (ms.ev cx env h).bind fun xs h => .ok (x :: xs) h).bind fun xs h => (ns.ev cx env h).bind fun ys h => .ok (xs ++ ys) h
    cases q : m.ev cx env h with
    | stuck => rfl
    | exc c fs h1 => rfl
    | ok d h1 =>
      show ((ms.app ns).ev cx env h1).bind (fun xs h => .ok (d :: xs) h) = ((ms.ev cx env h1).bind fun xs h => .ok (d :: xs) h).bind fun xs h => (ns.ev cx env h).bind fun ys h => .ok (xs ++ ys) h
      rw [app_ev ms ns h1]
      cases q2 : ms.ev cx env h1 with
      | stuck => rfl
      | exc c fs h2 => rfl
      | ok ds h2 =>
        show ((ns.ev cx env h2).bind fun ys h => Rs.ok (ds ++ ys) h).bind (fun xs h => Rs.ok (d :: xs) h) = (ns.ev cx env h2).bind fun ys h => Rs.ok (d :: ds ++ ys) h
        cases ns.ev cx env h2 <;> rfl
/-- what a call asks for -/
theorem call_read {m : Cm} {f n nk : Nat} {ms ns : Es} {pm : List Nat} {np : Nat} (hpm : pm.length = np)
    (hn : ∀ σ H Q, vA g W cx ms σ H Q → vA g W cx ms σ H fun vs H1 => vs.length = n ∧ Q vs H1) (hk : ∀ σ H Q, vA g W cx ns σ H Q → vA g W cx ns σ H fun vs H1 => vs.length = nk ∧ Q vs H1) {σ : L2.St} {H : Hp} {Q : L2.VK} (w : vE g W cx (.call m f (ms.app ns) pm) σ H Q) :
    tCallKS n nk pm (spC g cx.call f np) (WE W) (vA g W cx ms) (vA g W cx ns) σ H Q := by
  obtain ⟨ξ, A, α, h, env, R, P⟩ := w
  have P : PostE g A α H σ W Q (((ms.app ns).ev cx env h).bind fun xs h => match arrange xs pm with
    | some as => callM cx m f as h
    | none => .stuck) := P
  rw [app_ev] at P
  have key : vA g W cx ms σ H fun vs H1 => vA g W cx ns σ H1 fun zs H2 => spC g cx.call f np (arr (vs ++ zs) pm) H2 Q (WE W σ) := by
    refine ⟨ξ, A, α, h, env, R, ?_⟩
    cases q : ms.ev cx env h with
    | stuck => rw [q] at P; exact P
    | exc c fs h1 => rw [q] at P; exact P
    | ok ds h1 =>
      rw [q] at P
      intro α1 H1 xs e1 R1 r1
      refine ⟨ξ, A, α1, h1, env, R.step e1 R1, ?_⟩
      have P := PostE.mono P e1
      have P : PostE g A α1 H1 σ W Q (((ns.ev cx env h1).bind fun ys h => .ok (ds ++ ys) h).bind fun xs h => match arrange xs pm with
        | some as => callM cx m f as h
        | none => .stuck) := P
      cases q2 : ns.ev cx env h1 with
      | stuck => rw [q2] at P; exact P
      | exc c fs h2 => rw [q2] at P; exact P
      | ok es h2 =>
        rw [q2] at P
        intro α2 H2 ys e2 R2 r2
        have P : PostE g A α2 H2 σ W Q (match arrange (ds ++ es) pm with
          | some as => callM cx m f as h2
          | none => .stuck) := PostE.mono P e2
        cases q3 : arrange (ds ++ es) pm with
        | none => rw [q3] at P; exact False.elim P
        | some as =>
          rw [q3] at P
          obtain ⟨k1, k2⟩ := arrange_reps ((r1.ext e2).append r2) q3
          exact sp_call R2 k1 (by rw [← k1.length, k2, hpm]) P
  have key2 := hn _ _ _ key
  have imp : ∀ {ms : Es} {σ : L2.St} {H : Hp} {Q Q' : List L2.V → Hp → Prop}, (∀ vs H, Q vs H → Q' vs H) → vA g W cx ms σ H Q → vA g W cx ms σ H Q' := by
    rintro ms σ H Q Q' hi ⟨ξ, A, α, h, env, R, P⟩
    refine ⟨ξ, A, α, h, env, R, ?_⟩
    cases q : ms.ev cx env h with
    | stuck => rw [q] at P; exact P
    | exc c fs h1 => rw [q] at P; exact P
    | ok ds h1 => rw [q] at P; exact fun α1 H1 xs e1 R1 r1 => hi _ _ (P α1 H1 xs e1 R1 r1)
  exact imp (fun vs H1 q => imp (fun zs H2 q2 => ⟨q.1, q2.1, q2.2⟩) (hk _ _ _ q.2)) key2
def Es.len : Es → Nat
  | .nil => 0
  | .cons _ es => es.len + 1
theorem ev_len {env : Env} : ∀ (ms : Es) (h : Lh) (ds : List D) (h1 : Lh), ms.ev cx env h = .ok ds h1 → ds.length = ms.len
  | .nil, h, ds, h1, e => by cases e; rfl
  | .cons m ms, h, ds, h1, e => by
    have e : (m.ev cx env h).bind (fun x h => (ms.ev cx env h).bind fun xs h => .ok (x :: xs) h) = .ok ds h1 := e
    cases q : m.ev cx env h with
    | stuck => rw [q] at e; cases e
    | exc c fs h1 => rw [q] at e; cases e
    | ok d h2 =>
      rw [q] at e
      have e : (ms.ev cx env h2).bind (fun xs h => .ok (d :: xs) h) = .ok ds h1 := e
      cases q2 : ms.ev cx env h2 with
      | stuck => rw [q2] at e; cases e
      | exc c fs h1 => rw [q2] at e; cases e
      | ok es h3 =>
        rw [q2] at e
        cases e
        show es.length + 1 = ms.len + 1
        rw [ev_len ms h2 es _ q2]
theorem vA_len {ms : Es} {n : Nat} (hl : ms.len = n) (σ : L2.St) (H : Hp) (Q : List L2.V → Hp → Prop) (w : vA g W cx ms σ H Q) : vA g W cx ms σ H fun vs H1 => vs.length = n ∧ Q vs H1 := by
  obtain ⟨ξ, A, α, h, env, R, P⟩ := w
  refine ⟨ξ, A, α, h, env, R, ?_⟩
  cases q : ms.ev cx env h with
  | stuck => rw [q] at P; exact P
  | exc c fs h1 => rw [q] at P; exact P
  | ok ds h1 => rw [q] at P; exact fun α1 H1 xs e1 R1 r1 => ⟨by rw [← r1.length, ev_len ms h ds h1 q, hl], P α1 H1 xs e1 R1 r1⟩
/-- a function that may be called -/
structure FnIn (X : L2.Cx) (g : G) (c : Nat → List D → Lh → Rs D) (i : Nat) (x : Str) (np n : Nat) (ks : List Str) (pm : List Nat) : Prop where
  ex : ∃ (k : Nat) (f : Addr) (fd : FuncData) (qual : Str) (st : Stmt) (ps : List Str), FnOk X.prog X.w X.K X.mg X.base (L2.CX X.prog X.w) k f fd ps (spC g c i np) ∧ Room k X.A ∧ X.mg x = some (.ref f) ∧ Fun X.K x qual st f fd ∧ KB x qual st ps n ks pm ∧ ps.length = np
  gl : Gl X x
  db : (x == ("__debug__" : Str)) = false
/-- the keywords' names -/
def kwNames : List Keyword → Option (List Str)
  | [] => some []
  | ⟨some n, _, _⟩ :: r => (kwNames r).map (n :: ·)
  | _ :: _ => none
theorem kw_ok {env : PySem.Env} : ∀ {kws : List Keyword} {ks : List Str}, kwNames kws = some ks → (backToKw pos (keywordEach kws env)).all (·.1.isSome) = true ∧ (backToKw pos (keywordEach kws env)).filterMap (·.1) = ks ∧ (backToKw pos (keywordEach kws env)).any (·.1.isNone) = false
  | [], _, e => by cases e; exact ⟨rfl, rfl, rfl⟩
  | ⟨some n, v, p⟩ :: r, ks, e => by
    obtain ⟨ks', e1, rfl⟩ := Option.map_eq_some_iff.mp (show (kwNames r).map (n :: ·) = some ks from e)
    obtain ⟨h1, h2, h3⟩ := kw_ok (env := env) e1
    refine ⟨?_, ?_, ?_⟩
    · show (true && (backToKw pos (keywordEach r env)).all (·.1.isSome)) = true
      rw [h1]; rfl
    · show n :: (backToKw pos (keywordEach r env)).filterMap (·.1) = n :: ks'
      rw [h2]
    · show (false || (backToKw pos (keywordEach r env)).any (·.1.isNone)) = false
      rw [h3]; rfl
theorem s_call {m : Cm} {f np : Nat} {x : Str} {p : Pos} {es : List Expr} {kws : List Keyword} {ks : List Str} {ms ns : Es} {pm : List Nat} (tk : Takes X W) (hf : FnIn X g cx.call f x np ms.len ks pm) (ha : PA X es (vA g W cx ms)) (hk : PK X kws (vA g W cx ns))
    (hs : es.all notStar = true) (hkn : kwNames kws = some ks) (hkl : ns.len = ks.length) (hms : es = [] → ms = .nil) (hns : kws = [] → ns = .nil) : PE X (.Call (.Name x p) es kws pos) (vE g W cx (.call m f (ms.app ns) pm)) := by
  obtain ⟨⟨k, fa, fd, qual, st, ps, F, hr, hm, hF, hb, hps⟩, hg, hdb⟩ := hf
  have hx : ∀ σ, PassesAt (L2.CX X.prog X.w) X σ (WE W σ) := passAt tk
  have hpm : pm.length = np := by rw [hb.len, hps]
  obtain ⟨k1, k2, k3⟩ := kw_ok (pos := pos) (env := X.env) hkn
  cases es with
  | nil =>
    have em := hms rfl
    subst em
    cases kws with
    | nil =>
      have en := hns rfl
      subst en
      cases hkn
      refine weakE (pe_c0 F hr hg hm hF hb hx hdb) fun σ H Q w => ?_
      have q := vA_nil (call_read hpm (vA_len rfl) (vA_len hkl) w)
      exact vA_nil q
    | cons kw kws =>
      refine weakE (pe_cK0 F hr hg hm hF hb hx hk k1 k2 hdb (by rw [k3]; rfl)) fun σ H Q w => ?_
      exact vA_nil (call_read hpm (vA_len rfl) (vA_len hkl) w)
  | cons e es =>
    cases kws with
    | nil =>
      have en := hns rfl
      subst en
      cases hkn
      refine weakE (pe_c1 F hr hg hm hF hb hx ha hdb hs) fun σ H Q w => ?_
      have q := call_read hpm (vA_len rfl) (vA_len hkl) w
      have imp : ∀ {ms : Es} {σ : L2.St} {H : Hp} {Q Q' : List L2.V → Hp → Prop}, (∀ vs H, Q vs H → Q' vs H) → vA g W cx ms σ H Q → vA g W cx ms σ H Q' := by
        rintro ms σ H Q Q' hi ⟨ξ, A, α, h, env, R, P⟩
        refine ⟨ξ, A, α, h, env, R, ?_⟩
        cases q : ms.ev cx env h with
        | stuck => rw [q] at P; exact P
        | exc c fs h1 => rw [q] at P; exact P
        | ok ds h1 => rw [q] at P; exact fun α1 H1 xs e1 R1 r1 => hi _ _ (P α1 H1 xs e1 R1 r1)
      exact imp (fun vs H1 q => vA_nil q) q
    | cons kw kws =>
      have hs' := hs
      rw [List.all_cons, Bool.and_eq_true] at hs'
      refine weakE (pe_cK F hr hg hm hF hb hx ha hk k1 k2 hdb hs'.1 (by rw [k3, noStars hs]; rfl)) fun σ H Q w => ?_
      exact call_read hpm (vA_len rfl) (vA_len hkl) w
end
end TB

end

section
set_option Elab.async false
set_option linter.all false
set_option maxHeartbeats 1000000
namespace TB
open PySem L2

/-! ### slots that are forgotten -/
theorem wipe_get (σ : L2.St) (j : Nat) : ∀ vs : List Nat, (L2.wipe σ vs)[j]? = if j ∈ vs then (if j < σ.length then some none else none) else σ[j]?
  | [] => by simp [L2.wipe]
  | v :: vs => by
    have ih := wipe_get σ j vs
    show ((L2.wipe σ vs).set v none)[j]? = _
    by_cases hv : v = j
    · subst hv
      rw [if_pos List.mem_cons_self]
      by_cases hl : v < σ.length
      · rw [if_pos hl, List.getElem?_set_self (by rw [wipe_length]; exact hl)]
      · rw [if_neg hl, List.getElem?_eq_none (by rw [List.length_set, wipe_length]; omega)]
    · rw [List.getElem?_set_ne hv, ih]
      by_cases hm : j ∈ vs
      · rw [if_pos hm, if_pos (List.mem_cons_of_mem _ hm)]
      · rw [if_neg hm, if_neg (fun z => (List.mem_cons.mp z).elim (fun z => hv z.symm) hm)]
theorem wipe_set {σ : L2.St} {i : Nat} {z : Option L2.V} {vs : List Nat} (h : i ∈ vs) : L2.wipe (σ.set i z) vs = L2.wipe σ vs := by
  apply List.ext_getElem?
  intro j
  rw [wipe_get, wipe_get]
  by_cases hm : j ∈ vs
  · rw [if_pos hm, if_pos hm, List.length_set]
  · rw [if_neg hm, if_neg hm, List.getElem?_set_ne (fun e => hm (by rw [← e]; exact h))]
theorem wipe_wipe (σ : L2.St) (vs : List Nat) : L2.wipe (L2.wipe σ vs) vs = L2.wipe σ vs := by
  apply List.ext_getElem?
  intro j
  rw [wipe_get (L2.wipe σ vs)]
  by_cases hm : j ∈ vs
  · rw [if_pos hm, wipe_get, if_pos hm, wipe_length]
  · rw [if_neg hm]
theorem ERel.wipe {g : G} {ξ : Xi} {A : Av} {α : List Addr} {H : Hp} {env : Env} {σ : L2.St} (r : ERel g ξ A α H env σ) : ∀ vs : List Nat, ERel g ξ A α H (TB.wipe env vs) (L2.wipe σ vs)
  | [] => r
  | v :: vs => (r.wipe vs).clear

/-! ### targets -/
mutual
def Tg.nms : Tg → List Nat
  | .nm i => [i]
  | .tp ts => ts.nms
  | .sub _ _ => []
def Tgs.nms : Tgs → List Nat
  | .nil => []
  | .cons t ts => t.nms ++ ts.nms
end
def Tgs.len : Tgs → Nat
  | .nil => 0
  | .cons _ ts => ts.len + 1
section
variable {X : L2.Cx} {g : G} {W : L2.WX} {cx : Cx} {pos : Pos}
variable {ξ : Xi} {A : Av} {α : List Addr} {h : Lh} {env : Env} {σ : L2.St} {H : Hp}
def PostG (g : G) (A : Av) (α : List Addr) (H : Hp) (σ : L2.St) (ns : List Nat) (Q : L2.St → Hp → Prop) : Rs Env → Prop
  | .ok env' h' => ∀ α' H' σ', Ext α H α' H' → Rl g g.xi A α' h' env' σ' H' → (∀ vs, (∀ i ∈ ns, i ∈ vs) → L2.wipe σ' vs = L2.wipe σ vs) → Q σ' H'
  | _ => False
theorem PostG.mono {α' : List Addr} {H' : Hp} {ns : List Nat} {Q : L2.St → Hp → Prop} {r : Rs Env} (P : PostG g A α H σ ns Q r) (e : Ext α H α' H') : PostG g A α' H' σ ns Q r := by
  cases r with
  | ok env' h' => exact fun α2 H2 σ2 e2 => P α2 H2 σ2 (e.trans e2)
  | exc c fs h' => exact P
  | stuck => exact P
def vG (g : G) (cx : Cx) (t : Tg) : L2.TG := fun v σ H Q => ∃ ξ A α h env d, Rl g ξ A α h env σ H ∧ Rep A α H d v ∧ PostG g A α H σ t.nms Q (t.as cx env d h)
def vGs (g : G) (cx : Cx) (t : Tgs) : L2.TGs := fun vs σ H Q => ∃ ξ A α h env ds, Rl g ξ A α h env σ H ∧ Reps A α H ds vs ∧ PostG g A α H σ t.nms Q (t.as cx env ds h)
theorem weakGs {e : List Expr} {t t' : L2.TGs} (p : PGs X e t) (i : ∀ v σ H Q, t' v σ H Q → t v σ H Q) : PGs X e t' := ⟨fun pins s σ H v u Q I r w => p.run pins s σ H v u Q I r (i v σ H Q w)⟩
theorem orG {e : Expr} {t t' : L2.TG} (p : PG X e t) (q : PG X e t') : PG X e (fun v σ H Q => t v σ H Q ∨ t' v σ H Q) :=
  ⟨fun pins s σ H v u Q I r w => w.elim (p.run pins s σ H v u Q I r) (q.run pins s σ H v u Q I r)⟩
theorem g_nm {i : Nat} {x : Str} (hN : X.N.Nodup) (hi : X.N[i]? = some x) (hx : Loc X.env.scope x) (hf : X.fn x = true ∨ X.env.scope.names.lookup x = some .local) : PG X (.Name x pos) (vG g cx (.nm i)) :=
  weakG (pg_name hN hi hx hf) fun v σ H Q ⟨ξ, A, α, h, env, d, R, r, P⟩ => P α H (σ.set i (some v)) .refl ⟨R.x ▸ R.e.set (.rep r), R.h, rfl⟩ fun vs hv => wipe_set (hv i (by simp [Tg.nms]))
theorem gs_nil : PGs X [] (vGs g cx .nil) := by
  refine weakGs pgs_nil fun v σ H Q ⟨ξ, A, α, h, env, d, R, r, P⟩ => ?_
  cases r with
  | nil => exact ⟨rfl, P α H σ .refl (R.x ▸ R) fun vs _ => rfl⟩
  | cons _ _ => exact False.elim P
theorem gs_cons {e : Expr} {es : List Expr} {t : Tg} {ts : Tgs} (h1 : PG X e (vG g cx t)) (h2 : PGs X es (vGs g cx ts)) (hs : notStar e = true) : PGs X (e :: es) (vGs g cx (.cons t ts)) := by
  have hs' : (assignEach (e :: es) X.env).map (·.2) = assign e X.env :: (assignEach es X.env).map (·.2) := by cases e <;> first | rfl | cases hs
  refine weakGs (pgs_cons h1 h2 hs') fun v σ H Q ⟨ξ, A, α, h, env, ds, R, r, P⟩ => ?_
  cases r with
  | nil => exact False.elim P
  | @cons d x ds xs r rs =>
    have P : PostG g A α H σ (t.nms ++ ts.nms) Q ((t.as cx env d h).bind fun env h => ts.as cx env ds h) := P
    refine ⟨x, xs, rfl, ξ, A, α, h, env, d, R, r, ?_⟩
    cases q : t.as cx env d h with
    | stuck => rw [q] at P; exact P
    | exc c fs h1 => rw [q] at P; exact P
    | ok env1 h1 =>
      rw [q] at P
      intro α1 H1 σ1 e1 R1 w1
      refine ⟨_, A, α1, h1, env1, ds, R1, rs.ext e1, ?_⟩
      have P : PostG g A α1 H1 σ (t.nms ++ ts.nms) Q (ts.as cx env1 ds h1) := PostG.mono P e1
      cases q2 : ts.as cx env1 ds h1 with
      | stuck => rw [q2] at P; exact P
      | exc c fs h2 => rw [q2] at P; exact P
      | ok env2 h2 =>
        rw [q2] at P
        intro α2 H2 σ2 e2 R2 w2
        exact P α2 H2 σ2 e2 R2 fun vs hv => (w2 vs fun i hi => hv i (List.mem_append_right _ hi)).trans (w1 vs fun i hi => hv i (List.mem_append_left _ hi))
theorem each_len {env : PySem.Env} : ∀ {es : List Expr}, es.all notStar = true → (assignEach es env).length = es.length ∧ (assignEach es env).findIdx? (·.1) = none
  | [], _ => ⟨rfl, rfl⟩
  | e :: es, hs => by
    rw [List.all_cons, Bool.and_eq_true] at hs
    obtain ⟨k1, k2⟩ := each_len (env := env) hs.2
    have q : assignEach (e :: es) env = (false, assign e env) :: assignEach es env := by
      have := hs.1
      cases e <;> first | rfl | cases this
    rw [q]
    refine ⟨by simp [k1], ?_⟩
    rw [List.findIdx?_cons, k2]
    rfl
theorem as_len : ∀ {ts : Tgs} {env : Env} {ds : List D} {h : Lh} {env' : Env} {h' : Lh}, ts.as cx env ds h = .ok env' h' → ds.length = ts.len
  | .nil, _, [], _, _, _, _ => rfl
  | .nil, _, _ :: _, _, _, _, e => by cases e
  | .cons _ _, _, [], _, _, _, e => by cases e
  | .cons t ts, env, d :: ds, h, env', h', e => by
    have e : (t.as cx env d h).bind (fun env h => ts.as cx env ds h) = .ok env' h' := e
    cases q : t.as cx env d h with
    | stuck => rw [q] at e; cases e
    | exc c fs h1 => rw [q] at e; cases e
    | ok env1 h1 =>
      rw [q] at e
      show ds.length + 1 = ts.len + 1
      rw [as_len e]
theorem g_tp {es : List Expr} {k : Nat} {ts : Tgs} (hc : X.calm = true) (hk : PGs X es (vGs g cx ts)) (hs : es.all notStar = true) (hl : es.length = ts.len) : PG X (.Tuple es k pos) (vG g cx (.tp ts)) := by
  obtain ⟨k1, k2⟩ := each_len (env := X.env) hs
  refine weakG (orG (pg_tup hc hk (k1.trans hl) k2) (pg_lst hc hk (k1.trans hl) k2)) fun v σ H Q ⟨ξ, A, α, h, env, d, R, r, P⟩ => ?_
  have P : PostG g A α H σ ts.nms Q (match vw h d with
    | some (_, ds) => ts.as cx env ds h
    | none => .stuck) := P
  cases e : vw h d with
  | none => rw [e] at P; exact False.elim P
  | some p =>
    obtain ⟨b, ds⟩ := p
    rw [e] at P
    have P : PostG g A α H σ ts.nms Q (ts.as cx env ds h) := P
    have hn : ds.length = ts.len := by
      cases q : ts.as cx env ds h with
      | stuck => rw [q] at P; exact False.elim P
      | exc c fs h1 => rw [q] at P; exact False.elim P
      | ok env1 h1 => exact as_len q
    cases b with
    | true =>
      obtain ⟨a, xs, rfl, hq, rs⟩ := vw_tup R.h r e
      exact .inl ⟨a, xs, rfl, .inl (.inl hq), by rw [← rs.length, hn], ξ, A, α, h, env, ds, R, rs, P⟩
    | false =>
      obtain ⟨a, xs, rfl, hq, rs⟩ := vw_list R.h r e
      exact .inr ⟨a, xs, rfl, .inl hq, by rw [← rs.length, hn], ξ, A, α, h, env, ds, R, rs, P⟩
theorem setIx_inv {x i v : D} {h h' : Lh} (e : setIx h x i v = some h') : ∃ n ds j k, x = .ref n ∧ h[n]? = some (.lst ds) ∧ i = .int j ∧ okIx j = true ∧ place j ds.length = some k ∧ h' = h.set n (.lst (ds.set k v)) := by
  cases x with
  | ref n =>
    unfold setIx at e
    dsimp only at e
    cases e1 : h[n]? with
    | none => rw [e1] at e; cases e
    | some o =>
      rw [e1] at e
      cases o with
      | lst ds =>
        cases i with
        | int j =>
          dsimp only at e
          by_cases hk : okIx j = true
          · rw [if_pos hk] at e
            cases e2 : place j ds.length with
            | none => rw [e2] at e; cases e
            | some k =>
              rw [e2] at e
              cases e
              exact ⟨n, ds, j, k, rfl, e1, rfl, hk, e2, rfl⟩
          · rw [if_neg hk] at e; cases e
        | _ => cases e
      | _ => cases e
  | _ => cases e
theorem g_sub {o i : Expr} {mo mi : E} (ho : PE X o (vE g W cx mo)) (hi : PE X i (vE g W cx mi)) (hp : plainIx i = true) : PG X (.Subscript o i pos) (vG g cx (.sub mo mi)) := by
  have ha : ∀ v, assign (.Subscript o i pos) X.env v = (do
      let ov ← holding [v] (eval o X.env)
      let iv ← holding [v, ov] (eval i X.env)
      standAt pos
      holding [v, ov, iv] (setItem ov iv v)
      release [v, ov, iv] []) := fun v => by cases i <;> first | rfl | cases hp
  refine weakG (pg_sub ho hi set_list ha) fun v σ H Q ⟨ξ, A, α, h, env, d, R, r, P⟩ => ?_
  have P : PostG g A α H σ [] Q ((mo.ev cx env h).bind fun x h => (mi.ev cx env h).bind fun y h => match setIx h x y d with
    | some h' => .ok env h'
    | none => .stuck) := P
  refine ⟨ξ, A, α, h, env, R, ?_⟩
  cases q : mo.ev cx env h with
  | stuck => rw [q] at P; exact P
  | exc c fs h1 => rw [q] at P; exact False.elim P
  | ok x h1 =>
    rw [q] at P
    intro α1 H1 xv e1 R1 r1
    have P := PostG.mono P e1
    refine ⟨ξ, A, α1, h1, env, R.step e1 R1, ?_⟩
    have P : PostG g A α1 H1 σ [] Q ((mi.ev cx env h1).bind fun y h => match setIx h x y d with
      | some h' => .ok env h'
      | none => .stuck) := P
    cases q2 : mi.ev cx env h1 with
    | stuck => rw [q2] at P; exact P
    | exc c fs h2 => rw [q2] at P; exact False.elim P
    | ok y h2 =>
      rw [q2] at P
      intro α2 H2 yv e2 R2 r2
      have P := PostG.mono P e2
      have P : PostG g A α2 H2 σ [] Q (match setIx h2 x y d with
        | some h' => .ok env h'
        | none => .stuck) := P
      cases q3 : setIx h2 x y d with
      | none => rw [q3] at P; exact False.elim P
      | some h3 =>
        rw [q3] at P
        obtain ⟨n, ds, j, k, rfl, hn, rfl, hk, hpl, rfl⟩ := setIx_inv q3
        obtain ⟨p, xs, rfl, ka, hp, rs⟩ := cell_at R2 (r1.ext e2) hn
        cases r2
        refine ⟨p, xs, j, k, rfl, rfl, hp, ?_, ?_⟩
        · rw [← rs.length]; exact place_ix hpl
        · have ex := Ext.set (H := H2) (o := .lst (xs.set k v)) (List.mem_of_getElem? ka)
          have RR := R2.set ka (o' := .lst (ds.set k d)) ⟨xs.set k v, upd_same, (rs.set ((r.ext e1).ext e2) k).ext ex⟩
          exact P α2 _ σ ex ⟨R.x ▸ (R.e.ext ((e1.trans e2).trans ex)), RR, rfl⟩ fun vs _ => rfl
end
end TB

end

section
set_option Elab.async false
set_option linter.all false
set_option maxRecDepth 100000
set_option maxHeartbeats 1000000
/-! zip of a list with a tuple, of a tuple with a list: each side has its own kind. -/
namespace TB
open PySem
section
variable {prog : Program} {w : World} {A : Around} {E : Value → Shared → Prop} {s : Shared}
/-- a side's walk and what it walks: a list (false), a tuple (true) -/
def SdI (k : Bool) (h : Heap) (j l : Addr) (i : Nat) : Prop := match k with
  | true => h.IsTupleIter j l i
  | false => h.IsListIter j l i
def SdL (k : Bool) (h : Heap) (l : Addr) (vs : Array Value) : Prop := match k with
  | true => h.IsTuple l vs
  | false => h.IsList l vs
theorem SdI.but {k : Bool} {h h' : Heap} {j b l : Addr} {i : Nat} (x : SdI k h j l i) (e : Heap.ExtBut b h h') (n : j ≠ b) : SdI k h' j l i := by
  cases k with
  | true => exact Heap.IsTupleIter.extBut x e n
  | false => exact Heap.IsListIter.extBut x e n
theorem SdL.but {k : Bool} {h h' : Heap} {b l : Addr} {vs : Array Value} (x : SdL k h l vs) (e : Heap.ExtBut b h h') (n : l ≠ b) : SdL k h' l vs := by
  cases k with
  | true => exact Heap.IsTuple.extBut x e n
  | false => exact Heap.IsList.extBut x e n
theorem SdI.at' {k : Bool} {h h' : Heap} {j l : Addr} {i : Nat} (x : SdI k h j l i) (e : ∀ o, h.get? j = some o → h'.get? j = some o) : SdI k h' j l i := by
  cases k with
  | true => exact Heap.IsTupleIter.at x e
  | false => exact Heap.IsListIter.at x e
theorem SdI.obj {k : Bool} {h : Heap} {j l : Addr} {i : Nat} (x : SdI k h j l i) : ∃ o c, h.get? j = some o ∧ o.cls = .type c ∧ o.data = .fields #[.ref l, rawInt i] := by
  cases k with
  | true => obtain ⟨o, a, b, c⟩ := x; exact ⟨o, _, a, b, c⟩
  | false => obtain ⟨o, a, b, c⟩ := x; exact ⟨o, _, a, b, c⟩
theorem sd_item {k : Bool} {j l : Addr} {i : Nat} {vs : Array Value} {x : Value} {Q : Value → Shared → Prop} (hj : SdI k s.heap j l i) (hl : SdL k s.heap l vs) (hx : vs[i]? = some x)
    (q : ∀ h', SdI k h' j l (i + 1) → Heap.SameBut j s.heap h' → Q x { s with heap := h' }) : wpAny (model prog w) A (Builtin.SmallTypes.nextOf (.ref j)) Q E s := by
  cases k with
  | true => exact RZ.nextOf_tuple_item hj hl hx q
  | false => exact wpAny_nextOf_list_item hj hl hx q
theorem sd_end {k : Bool} {j l : Addr} {i : Nat} {vs : Array Value} {Q : Value → Shared → Prop} (hh : A.handled = none) (hj : SdI k s.heap j l i) (hl : SdL k s.heap l vs) (hx : vs[i]? = none)
    (q : ∀ h' e, Heap.ExtBut j s.heap h' → (∃ o, h'.get? e = some o ∧ o.cls = .type "StopIteration") → E (.ref e) { s with heap := h' }) : wpAny (model prog w) A (Builtin.SmallTypes.nextOf (.ref j)) Q E s := by
  cases k with
  | true => exact RZ.nextOf_tuple_end hh hj hl hx q
  | false => exact wpAny_nextOf_list_end hh hj hl hx q
/-- a zip between two turns -/
structure Zp (k m : Bool) (h : Heap) (c p t j j' l l' : Addr) (i : Nat) (vs ws : Array Value) : Prop where
  D : ZipApart c p t j j' l l'
  z : IsZip h c p t .none
  pr : IsPair h p (.ref j) (.ref j')
  ou : ∃ a b, IsPair h t a b
  i1 : SdI k h j l i
  i2 : SdI m h j' l' i
  s1 : SdL k h l vs
  s2 : SdL m h l' ws
theorem zm_item {k m : Bool} {c p t j j' l l' : Addr} {i : Nat} {vs ws : Array Value} {x y : Value} {Q : Value → Shared → Prop} (Z : Zp k m s.heap c p t j j' l l' i vs ws) (hx : vs[i]? = some x) (hy : ws[i]? = some y)
    (q : ∀ h', IsZip h' c p t (rawInt s.heap.objs.size) → IsPair h' t x y → SdI k h' j l (i + 1) → SdI m h' j' l' (i + 1) → IsPair h' s.heap.objs.size x y →
      (∀ b o, b ≠ c → b ≠ t → b ≠ j → b ≠ j' → s.heap.get? b = some o → h'.get? b = some o) → Q (.ref s.heap.objs.size) { s with heap := h' }) :
    wpAny (model prog w) A (Builtin.«zip.__next__» ⟨[.ref c], []⟩) (fun f s' => ∃ v, f = .done (.ret v) ∧ Q v s') E s := by
  obtain ⟨D, z, pr, ⟨a, b, ou⟩, i1, i2, s1, s2⟩ := Z
  show wpAny _ _ (field (.ref c) 2 >>= _) _ _ _
  refine wpAny_bind (wpAny_field z rfl (x := .bool false) rfl ?_); show wpAny _ _ (field (.ref c) 3 >>= _) _ _ _
  refine wpAny_bind (wpAny_field z rfl (x := .ref p) rfl ?_); refine wpAny_bind (wpAny_seqItems pr rfl ?_)
  show wpAny _ _ (Builtin.SmallTypes.ownedTupleIsFree (.ref c) >>= _) _ _ _
  refine wpAny_bind ?_; unfold Builtin.SmallTypes.ownedTupleIsFree
  refine wpAny_bind (wpAny_field z rfl (x := .none) rfl (wpAny_pure ?_)); simp only [if_true]
  refine wpAny_bind (wpAny_rule ?_); refine wpAny_bind (wpAny_field z rfl (x := .ref t) rfl ?_)
  refine wpAny_bind (wpAny_setField_rec z (by simp) fun g1 z1 e1 => ?_); replace z1 : IsZip g1 c p t .ellipsis := z1
  refine wpAny_bind ?_; simp only [List.zipIdx_cons, List.zipIdx_nil, List.forIn_cons, List.forIn_nil]
  refine wpAny_bind (wpAny_bind (wpAny_onRaise ?_)); show wpAny _ _ (Builtin.SmallTypes.nextOf (.ref j) >>= _) _ _ _
  refine wpAny_bind (sd_item (i1.but e1.extBut D.i1z) (s1.but e1.extBut D.l1z) hx fun g2 k2 e2 => wpAny_pure ?_)
  have o2 : IsPair g2 t a b := e2.extBut _ _ D.TOi1 (e1.extBut _ _ D.TOz ou)
  refine wpAny_bind (wpAny_seqItems o2 rfl ?_); refine wpAny_bind (wpAny_updateSeq_pair o2 fun g3 o3 e3 => ?_)
  replace o3 : IsPair g3 t x b := o3
  refine wpAny_bind (wpAny_letGo (wpAny_pure ?_)); refine wpAny_bind (wpAny_bind (wpAny_onRaise ?_))
  show wpAny _ _ (Builtin.SmallTypes.nextOf (.ref j') >>= _) _ _ _
  refine wpAny_bind (sd_item (((i2.but e1.extBut D.i2z).but e2.extBut D.i12.symm).but e3.extBut D.TOi2.symm) (((s2.but e1.extBut D.l2z).but e2.extBut D.l2i1).but e3.extBut D.l2TO) hy fun g4 k4 e4 => wpAny_pure ?_)
  have o4 : IsPair g4 t x b := e4.extBut _ _ D.TOi2 o3
  refine wpAny_bind (wpAny_seqItems o4 rfl ?_); refine wpAny_bind (wpAny_updateSeq_pair o4 fun g5 o5 e5 => ?_)
  replace o5 : IsPair g5 t x y := o5
  refine wpAny_bind (wpAny_letGo (wpAny_pure (wpAny_pure ?_))); refine wpAny_bind (wpAny_seqItems o5 rfl ?_); refine wpAny_bind (wpAny_newTuple ?_)
  have sz : g5.objs.size = s.heap.objs.size := by rw [e5.1, e4.1, e3.1, e2.1, e1.1]
  have z5 : IsZip g5 c p t .ellipsis := e5.extBut _ _ D.TOz.symm (e4.extBut _ _ D.i2z.symm (e3.extBut _ _ D.TOz.symm (e2.extBut _ _ D.i1z.symm z1)))
  have up5 : ∀ b o, b ≠ c → b ≠ t → b ≠ j → b ≠ j' → s.heap.get? b = some o → g5.get? b = some o := fun b o n1 n2 n3 n4 e => e5.extBut _ _ n2 (e4.extBut _ _ n4 (e3.extBut _ _ n2 (e2.extBut _ _ n3 (e1.extBut _ _ n1 e))))
  have k1 : SdI k g5 j l (i + 1) := ((k2.but e3.extBut D.TOi1.symm).but e4.extBut D.i12).but e5.extBut D.TOi1.symm
  have k5 : SdI m g5 j' l' (i + 1) := k4.but e5.extBut D.TOi2.symm
  have lc : c < g5.objs.size := Heap.lt_size z5
  show wpAny _ _ (Builtin.SmallTypes.ownedTupleHandOut (.ref c) (.ref g5.objs.size) >>= _) _ _ _
  refine wpAny_bind ?_; unfold Builtin.SmallTypes.ownedTupleHandOut
  have z6 : IsZip (g5.push { cls := .type "tuple", data := .seq #[x, y] }) c p t .ellipsis := Heap.get?_push_of_some _ z5
  refine wpAny_bind (wpAny_setField_rec z6 (by simp) fun g7 z7 e7 => ?_); replace z7 : IsZip g7 c p t (rawInt g5.objs.size) := z7
  refine wpAny_setField_rec z7 (by simp) fun g8 z8 e8 => ?_
  replace z8 : IsZip g8 c p t (rawInt g5.objs.size) := z8
  have up8 : ∀ b o, b ≠ c → g5.get? b = some o → g8.get? b = some o := fun b o n e => e8.extBut _ _ n (e7.extBut _ _ n (Heap.get?_push_of_some _ e))
  have t8 : IsPair g8 g5.objs.size x y := e8.extBut _ _ (Nat.ne_of_gt lc) (e7.extBut _ _ (Nat.ne_of_gt lc) (Heap.get?_push_size _ rfl))
  rw [sz] at z8 t8
  refine wpAny_pure ⟨_, rfl, ?_⟩; show Q (.ref g5.objs.size) _
  rw [sz]
  exact q g8 z8 (up8 _ _ D.TOz o5) (k1.at' fun o e => up8 _ o D.i1z e) (k5.at' fun o e => up8 _ o D.i2z e) t8 fun b o n1 n2 n3 n4 e => up8 b o n1 (up5 b o n1 n2 n3 n4 e)
theorem zm_end {k m : Bool} {c p t j j' l l' : Addr} {i : Nat} {vs ws : Array Value} {Q : Fin → Shared → Prop} (hh : A.handled = none) (Z : Zp k m s.heap c p t j j' l l' i vs ws) (hend : vs[i]? = none ∨ ws[i]? = none)
    (q : ∀ h' e, (∀ b o, b ≠ c → b ≠ t → b ≠ j → b ≠ j' → s.heap.get? b = some o → h'.get? b = some o) → (∃ o, h'.get? e = some o ∧ o.cls = .type "StopIteration") → E (.ref e) { s with heap := h' }) :
    wpAny (model prog w) A (Builtin.«zip.__next__» ⟨[.ref c], []⟩) Q E s := by
  obtain ⟨D, z, pr, ⟨a, b, ou⟩, i1, i2, s1, s2⟩ := Z
  show wpAny _ _ (field (.ref c) 2 >>= _) _ _ _
  refine wpAny_bind (wpAny_field z rfl (x := .bool false) rfl ?_); show wpAny _ _ (field (.ref c) 3 >>= _) _ _ _
  refine wpAny_bind (wpAny_field z rfl (x := .ref p) rfl ?_); refine wpAny_bind (wpAny_seqItems pr rfl ?_)
  show wpAny _ _ (Builtin.SmallTypes.ownedTupleIsFree (.ref c) >>= _) _ _ _
  refine wpAny_bind ?_; unfold Builtin.SmallTypes.ownedTupleIsFree
  refine wpAny_bind (wpAny_field z rfl (x := .none) rfl (wpAny_pure ?_)); simp only [if_true]
  refine wpAny_bind (wpAny_rule ?_); refine wpAny_bind (wpAny_field z rfl (x := .ref t) rfl ?_)
  refine wpAny_bind (wpAny_setField_rec z (by simp) fun g1 z1 e1 => ?_); replace z1 : IsZip g1 c p t .ellipsis := z1
  refine wpAny_bind ?_; simp only [List.zipIdx_cons, List.zipIdx_nil, List.forIn_cons, List.forIn_nil]
  refine wpAny_bind (wpAny_bind (wpAny_onRaise ?_)); show wpAny _ _ (Builtin.SmallTypes.nextOf (.ref j) >>= _) _ _ _
  cases hx : vs[i]? with
  | none =>
    refine wpAny_bind (sd_end hh (i1.but e1.extBut D.i1z) (s1.but e1.extBut D.l1z) hx fun g2 e e2 he => ?_)
    obtain ⟨oe, h1, h2⟩ := he
    have z2 : IsZip g2 c p t .ellipsis := e2 _ _ D.i1z.symm z1
    have ne : e ≠ c := fun x => by subst x; rw [z2] at h1; cases h1; simp at h2
    exact wpAny_setField_rec z2 (by simp) fun g3 _ e3 => q g3 e (fun b o n1 _ n3 _ x => e3.extBut _ _ n1 (e2 _ _ n3 (e1.extBut _ _ n1 x))) ⟨oe, e3.extBut _ _ ne h1, h2⟩
  | some x =>
    have hy : ws[i]? = none := hend.resolve_left (by rw [hx]; simp)
    refine wpAny_bind (sd_item (i1.but e1.extBut D.i1z) (s1.but e1.extBut D.l1z) hx fun g2 k2 e2 => wpAny_pure ?_)
    have o2 : IsPair g2 t a b := e2.extBut _ _ D.TOi1 (e1.extBut _ _ D.TOz ou)
    refine wpAny_bind (wpAny_seqItems o2 rfl ?_); refine wpAny_bind (wpAny_updateSeq_pair o2 fun g3 o3 e3 => ?_)
    refine wpAny_bind (wpAny_letGo (wpAny_pure ?_)); refine wpAny_bind (wpAny_bind (wpAny_onRaise ?_))
    show wpAny _ _ (Builtin.SmallTypes.nextOf (.ref j') >>= _) _ _ _
    refine wpAny_bind (sd_end hh (((i2.but e1.extBut D.i2z).but e2.extBut D.i12.symm).but e3.extBut D.TOi2.symm) (((s2.but e1.extBut D.l2z).but e2.extBut D.l2i1).but e3.extBut D.l2TO) hy fun g4 e e4 he => ?_)
    obtain ⟨oe, h1, h2⟩ := he
    have z4 : IsZip g4 c p t .ellipsis := e4 _ _ D.i2z.symm (e3.extBut _ _ D.TOz.symm (e2.extBut _ _ D.i1z.symm z1))
    have ne : e ≠ c := fun x => by subst x; rw [z4] at h1; cases h1; simp at h2
    exact wpAny_setField_rec z4 (by simp) fun g5 _ e5 => q g5 e (fun b o n1 n2 n3 n4 x => e5.extBut _ _ n1 (e4 _ _ n4 (e3.extBut _ _ n2 (e2.extBut _ _ n3 (e1.extBut _ _ n1 x))))) ⟨oe, e5.extBut _ _ ne h1, h2⟩
theorem nx_item {k m : Bool} {c p t j j' l l' : Addr} {i : Nat} {vs ws : Array Value} {x y : Value} {Q : Option Value → Shared → Prop} (Z : Zp k m s.heap c p t j j' l l' i vs ws) (hx : vs[i]? = some x) (hy : ws[i]? = some y)
    (q : ∀ h', IsZip h' c p t (rawInt s.heap.objs.size) → IsPair h' t x y → SdI k h' j l (i + 1) → SdI m h' j' l' (i + 1) → IsPair h' s.heap.objs.size x y →
      (∀ b o, b ≠ c → b ≠ t → b ≠ j → b ≠ j' → s.heap.get? b = some o → h'.get? b = some o) → Q (some (.ref s.heap.objs.size)) { s with heap := h' }) : wpAny (model prog w) A (pyNext (.ref c)) Q E s := by
  have ty : s.TypeIs (.ref c) "zip" := ⟨_, Z.z, rfl⟩
  unfold pyNext
  exact wpAny_bind (wpAny_attempt (wpAny_callSpecial?_slot (name := Str.ofString "__next__") ty F.slot_zip_next (wpAny_call_entry F.slot_zip_next ty F.entry_zip_next (zm_item Z hx hy fun h' a1 a2 a3 a4 a5 a6 => wpAny_pure (q h' a1 a2 a3 a4 a5 a6)) (F.args_zip_next_1 _))))
theorem nx_end {k m : Bool} {c p t j j' l l' : Addr} {i : Nat} {vs ws : Array Value} {Q : Option Value → Shared → Prop} (hh : A.handled = none) (Z : Zp k m s.heap c p t j j' l l' i vs ws) (hend : vs[i]? = none ∨ ws[i]? = none)
    (q : ∀ h', (∀ b o, b ≠ c → b ≠ t → b ≠ j → b ≠ j' → s.heap.get? b = some o → h'.get? b = some o) → Q none { s with heap := h' }) : wpAny (model prog w) A (pyNext (.ref c)) Q E s := by
  have ty : s.TypeIs (.ref c) "zip" := ⟨_, Z.z, rfl⟩
  unfold pyNext
  refine wpAny_bind (wpAny_attempt (wpAny_callSpecial?_slot (name := Str.ofString "__next__") ty F.slot_zip_next (wpAny_call_entry F.slot_zip_next ty F.entry_zip_next (zm_end hh Z hend fun h' e hk he => ?_) (F.args_zip_next_1 _))))
  obtain ⟨o, h1, h2⟩ := he
  exact wpAny_bind (wpAny_isInstance (T := "StopIteration") (b := true) ⟨o, h1, h2⟩ isSubtype_stop (wpAny_pure (q _ hk)))
/-! ### a zip just made -/
def itn (k : Bool) : String := if k then "tuple_iterator" else "list_iterator"
abbrev zmA (k : Bool) (h : Heap) (l : Addr) : Heap := h.push { cls := .type (itn k), data := .fields #[.ref l, .int 0 0] }
abbrev zmB (k m : Bool) (h : Heap) (l l' : Addr) : Heap := (zmA k h l).push { cls := .type (itn m), data := .fields #[.ref l', .int 0 0] }
abbrev zmC (k m : Bool) (h : Heap) (l l' : Addr) : Heap := (zmB k m h l l').push { cls := .type "tuple", data := .seq #[.ref h.objs.size, .ref (zmA k h l).objs.size] }
abbrev zmD (k m : Bool) (h : Heap) (l l' : Addr) : Heap := (zmC k m h l l').push { cls := .type "tuple", data := .seq #[.none, .none] }
abbrev zmE (k m : Bool) (h : Heap) (l l' : Addr) : Heap := (zmD k m h l l').push { cls := .type "zip", data := .fields #[.none, .bool false, .bool false, .ref (zmB k m h l l').objs.size, .ref (zmC k m h l l').objs.size] }
theorem meets_zm (k m : Bool) (l l' : Addr) (vs ws : Array Value) : Meets (Builtin.«zip.__new__» ⟨[.type "zip", .ref l, .ref l'], []⟩) (fun _ R s => SdL k s.heap l vs ∧ SdL m s.heap l' ws ∧ R (.ok (.ret (.ref (zmD k m s.heap l l').objs.size))) { s with heap := zmE k m s.heap l l' }) :=
  .of_wp fun prog w A R s h => by
    obtain ⟨hp, g, d, tk, os⟩ := s
    obtain ⟨a1, a2, h⟩ := h
    have sub := sub_zip
    cases k <;> cases m
    · have b1 : Heap.IsList (Shared.heap ⟨hp, g, d, tk, os⟩) l vs := a1
      have b2 : Heap.IsList (Shared.heap ⟨hp.push { cls := .type "list_iterator", data := .fields #[.ref l, .int 0 0] }, g, d, tk, os⟩) l' ws := Heap.IsList.push a2 _
      wp_walk using wpAny_pyIter_list b1, wpAny_pyIter_list b2
      exact ⟨_, rfl, h⟩
    · have b1 : Heap.IsList (Shared.heap ⟨hp, g, d, tk, os⟩) l vs := a1
      have b2 : Heap.IsTuple (Shared.heap ⟨hp.push { cls := .type "list_iterator", data := .fields #[.ref l, .int 0 0] }, g, d, tk, os⟩) l' ws := Heap.IsTuple.push a2 _
      wp_walk using wpAny_pyIter_list b1, wpAny_pyIter_tuple b2
      exact ⟨_, rfl, h⟩
    · have b1 : Heap.IsTuple (Shared.heap ⟨hp, g, d, tk, os⟩) l vs := a1
      have b2 : Heap.IsList (Shared.heap ⟨hp.push { cls := .type "tuple_iterator", data := .fields #[.ref l, .int 0 0] }, g, d, tk, os⟩) l' ws := Heap.IsList.push a2 _
      wp_walk using wpAny_pyIter_tuple b1, wpAny_pyIter_list b2
      exact ⟨_, rfl, h⟩
    · have b1 : Heap.IsTuple (Shared.heap ⟨hp, g, d, tk, os⟩) l vs := a1
      have b2 : Heap.IsTuple (Shared.heap ⟨hp.push { cls := .type "tuple_iterator", data := .fields #[.ref l, .int 0 0] }, g, d, tk, os⟩) l' ws := Heap.IsTuple.push a2 _
      wp_walk using wpAny_pyIter_tuple b1, wpAny_pyIter_tuple b2
      exact ⟨_, rfl, h⟩
theorem sdI_new {k : Bool} {h : Heap} {j l : Addr} (e : h.get? j = some { cls := .type (itn k), data := .fields #[.ref l, .int 0 0] }) : SdI k h j l 0 := by
  cases k with
  | true => exact ⟨_, e, rfl, rfl⟩
  | false => exact ⟨_, e, rfl, rfl⟩
theorem call_zm {k m : Bool} {l l' : Addr} {vs ws : Array Value} {Q : Value → Shared → Prop} (hl : SdL k s.heap l vs) (hl' : SdL m s.heap l' ws)
    (q : ∀ h', IsZip h' (s.heap.objs.size + 4) (s.heap.objs.size + 2) (s.heap.objs.size + 3) .none → IsPair h' (s.heap.objs.size + 2) (.ref s.heap.objs.size) (.ref (s.heap.objs.size + 1)) → IsPair h' (s.heap.objs.size + 3) .none .none →
      SdI k h' s.heap.objs.size l 0 → SdI m h' (s.heap.objs.size + 1) l' 0 → (∀ b o, s.heap.get? b = some o → h'.get? b = some o) → Q (.ref (s.heap.objs.size + 4)) { s with heap := h' }) :
    wpAny (model prog w) A (call (.type "zip") [.ref l, .ref l']) Q E s := by
  refine callType_new F.called_zip (by decide) (F.typeCall_zip_2 _ _) (F.newCall_zip_2 _ _) (fun o => F.args_object_init_3 o _ _) F.entry_zip_new (meets_zm k m l l' vs ws) ⟨hl, hl', ?_⟩
  have n1 : (zmA k s.heap l).objs.size = s.heap.objs.size + 1 := Heap.size_push ..
  have n2 : (zmB k m s.heap l l').objs.size = s.heap.objs.size + 2 := by rw [Heap.size_push, n1]
  have n3 : (zmC k m s.heap l l').objs.size = s.heap.objs.size + 3 := by rw [Heap.size_push, n2]
  have n4 : (zmD k m s.heap l l').objs.size = s.heap.objs.size + 4 := by rw [Heap.size_push, n3]
  have g5 : (zmE k m s.heap l l').get? (zmD k m s.heap l l').objs.size = some _ := Heap.get?_push_size _ rfl
  have g4 : (zmE k m s.heap l l').get? (zmC k m s.heap l l').objs.size = some _ := Heap.get?_push_of_some _ (Heap.get?_push_size _ rfl)
  have g3 : (zmE k m s.heap l l').get? (zmB k m s.heap l l').objs.size = some _ := Heap.get?_push_of_some _ (Heap.get?_push_of_some _ (Heap.get?_push_size _ rfl))
  have g2 : (zmE k m s.heap l l').get? (zmA k s.heap l).objs.size = some _ := Heap.get?_push_of_some _ (Heap.get?_push_of_some _ (Heap.get?_push_of_some _ (Heap.get?_push_size _ rfl)))
  have g1 : (zmE k m s.heap l l').get? s.heap.objs.size = some _ := Heap.get?_push_of_some _ (Heap.get?_push_of_some _ (Heap.get?_push_of_some _ (Heap.get?_push_of_some _ (Heap.get?_push_size _ rfl))))
  show _ ∧ _
  rw [n2, n3, n4] at g5
  rw [n1, n2] at g3
  rw [n3] at g4
  rw [n1] at g2
  rw [n4]
  exact ⟨⟨_, g5, rfl⟩, q _ g5 g3 g4 (sdI_new g1) (sdI_new g2) fun b o x => Heap.get?_push_of_some _ (Heap.get?_push_of_some _ (Heap.get?_push_of_some _ (Heap.get?_push_of_some _ (Heap.get?_push_of_some _ x))))⟩
end
end TB

end

section
set_option Elab.async false
set_option linter.all false
set_option maxRecDepth 100000
set_option maxHeartbeats 1000000
namespace TB
open PySem PySem.Spec PyProof.Rows L2
def SqG (k : Bool) (K : PySem.W.Frag) (H : Hp) (a : Addr) (xs : List V) : Prop := match k with
  | true => SqT K H a xs
  | false => SqL K H a xs
theorem side_of {X : L2.Cx} {pins : List (Addr × Obj)} {σ : L2.St} {H : Hp} {s : Shared} {k : Bool} {a : Addr} {xs : List V} (I : L2.Inv X pins σ H s) (h : SqG k X.K H a xs) : ∃ its : List Value, Vals xs its ∧ SdL k s.heap a its.toArray := by
  cases k with
  | true =>
    obtain ⟨its, rv, p, _⟩ := I.tuple h
    exact ⟨its, rv, p⟩
  | false =>
    obtain ⟨its, rv, p, _⟩ := I.list h
    exact ⟨its, rv, p.isList⟩
theorem side_inj {X : L2.Cx} {pins : List (Addr × Obj)} {σ : L2.St} {H : Hp} {s : Shared} {k : Bool} {a : Addr} {xs ys : List V} (I : L2.Inv X pins σ H s) (h : SqG k X.K H a xs) (h' : SqG k X.K H a ys) : xs = ys := by
  cases k with
  | true => exact I.tuple_inj h h'
  | false => exact I.list_inj h h'
theorem side_lt {k : Bool} {h : Heap} {a : Addr} {its : Array Value} (p : SdL k h a its) : a < h.objs.size := by
  cases k with
  | true => obtain ⟨_, e, _⟩ := p; exact Heap.lt_size e
  | false => obtain ⟨_, e, _⟩ := p; exact Heap.lt_size e
/-- both sides as they stand at each turn, the items in new pairs -/
def Itm (k m : Bool) (K : PySem.W.Frag) (a b : Addr) : L2.It :=
  ⟨fun i H => ∃ xs ys : List V, ∃ x y : V, SqG k K H a xs ∧ (SqG m K H b ys ∧ (xs[i]? = some x ∧ ys[i]? = some y)),
    fun i H v H' => ∃ T, ∃ x y : V, (v = .ref T ∧ H T = none) ∧ (H' = upd H T (.tup [x, y]) ∧ ((∀ xs, SqG k K H a xs → xs[i]? = some x) ∧ ∀ ys, SqG m K H b ys → ys[i]? = some y)),
    fun i H => ∃ xs ys : List V, SqG k K H a xs ∧ (SqG m K H b ys ∧ (xs.length ≤ i ∨ ys.length ≤ i))⟩
theorem turn_zm {P : Program} {w : World} {K : PySem.W.Frag} {elts : List Expr} {kk : Nat} {tpos : Pos} {k m : Bool} {a b c p t j j' : Addr} (D : ZipApart c p t j j' a b) :
    Turn P w K (.Tuple elts kk tpos) (Itm k m K a b) [c, p, t, j, j'] c (fun i h => (IsZip h c p t .none ∧ IsPair h p (.ref j) (.ref j')) ∧ ((∃ x y, IsPair h t x y) ∧ (SdI k h j a i ∧ SdI m h j' b i))) where
  mem := by simp
  obj := fun i h st q hq => by
    obtain ⟨⟨z, pr⟩, ⟨x, y, ou⟩, i1, i2⟩ := st
    obtain ⟨o1, c1, e1, n1, d1⟩ := i1.obj
    obtain ⟨o2, c2, e2, n2, d2⟩ := i2.obj
    rcases (show q = c ∨ q = p ∨ q = t ∨ q = j ∨ q = j' by simpa using hq) with r | r | r | r | r <;> rw [r]
    · exact ⟨_, z, nofun⟩
    · exact ⟨_, pr, nofun⟩
    · exact ⟨_, ou, nofun⟩
    · refine ⟨o1, e1, fun v q => ?_⟩
      rw [d1] at q; cases q
    · refine ⟨o2, e2, fun v q => ?_⟩
      rw [d2] at q; cases q
  keep := fun i h h' st f => by
    obtain ⟨⟨z, pr⟩, ⟨x, y, ou⟩, i1, i2⟩ := st
    exact ⟨⟨f c (by simp) _ z, f p (by simp) _ pr⟩, ⟨x, y, f t (by simp) _ ou⟩, i1.at' fun o q => f j (by simp) o q, i2.at' fun o q => f j' (by simp) o q⟩
  item := by
    intro X e1 e2 e3 hc i pins s σ H E I hf st hg
    subst e1 e2 e3
    obtain ⟨⟨z, pr⟩, ou, i1, i2⟩ := st
    obtain ⟨xs, ys, x, y, qx, qy, hx, hy⟩ := hg
    obtain ⟨us, rv, s1⟩ := side_of I qx
    obtain ⟨ws, rv2, s2⟩ := side_of I qy
    obtain ⟨u, hu, ru⟩ := rv.get hx
    obtain ⟨u2, hu2, ru2⟩ := rv2.get hy
    have lz : c < s.heap.objs.size := Heap.lt_size z
    refine nx_item ⟨D, z, pr, ou, i1, i2, s1, s2⟩ (x := u) (y := u2) (by simpa using hu) (by simpa using hu2) fun g z1 o1 k1 k2 ht up => ?_
    refine ⟨_, rfl, wpAny_letOwnedTupleGo_zip (s := { s with heap := g }) z1 fun g2 z2 sb => ?_⟩
    have ht2 : g2.get? s.heap.objs.size = some { cls := .type "tuple", data := .seq #[u, u2] } := (sb.2 _ (Nat.ne_of_gt lz)).trans ht
    have ob : ObjOk X.prog X.w (upd H s.heap.objs.size (.tup [x, y])) g2 s.heap.objs.size (.tup [x, y]) := ⟨show 2 ≤ sizeLine by decide, [u, u2], .cons ru (.cons ru2 .nil), _, ht2, rfl, _, rfl⟩
    have out : ∀ q o, q ∉ [c, p, t, j, j'] → s.heap.get? q = some o → g2.get? q = some o := fun q o nq e => (sb.2 q (fun r => nq (by simp [r]))).trans (up q o (fun r => nq (by simp [r])) (fun r => nq (by simp [r])) (fun r => nq (by simp [r])) (fun r => nq (by simp [r])) e)
    have I1 : L2.Inv X pins σ (upd H s.heap.objs.size (.tup [x, y])) { s with heap := g2 } := I.turnedNew (t' := s.toks) (ch := [c, p, t, j, j']) out hf (Nat.le_refl _) ob
    refine ⟨.ref s.heap.objs.size, _, I1, rfl, ⟨_, x, y, ⟨rfl, I.hok.fresh (Nat.le_refl _)⟩, rfl, fun l hl => (side_inj I hl qx) ▸ hx, fun l hl => (side_inj I hl qy) ▸ hy⟩, ⟨⟨z2, ?_⟩, ⟨u, u2, ?_⟩, ?_, ?_⟩, fun q hq => ?_⟩
    · exact (sb.2 _ D.TIz).trans (up _ _ D.TIz D.TITO D.TIi1 D.TIi2 pr)
    · exact (sb.2 _ D.TOz).trans o1
    · exact k1.at' fun o q => (sb.2 _ D.i1z).trans q
    · exact k2.at' fun o q => (sb.2 _ D.i2z).trans q
    · have hlt : q < s.heap.objs.size := by
        obtain ⟨_, _, h1, _⟩ := i1.obj
        obtain ⟨_, _, h2, _⟩ := i2.obj
        obtain ⟨_, _, h3⟩ := ou
        rcases (show q = c ∨ q = p ∨ q = t ∨ q = j ∨ q = j' by simpa using hq) with r | r | r | r | r <;> rw [r]
        · exact lz
        · exact Heap.lt_size pr
        · exact Heap.lt_size h3
        · exact Heap.lt_size h1
        · exact Heap.lt_size h2
      rw [upd_ne (Nat.ne_of_lt hlt)]; exact (hf q hq).1
  done := by
    intro X e1 e2 e3 hc i pins s σ H E I hf st hg
    subst e1 e2 e3
    obtain ⟨⟨z, pr⟩, ou, i1, i2⟩ := st
    obtain ⟨xs, ys, qx, qy, hend⟩ := hg
    obtain ⟨us, rv, s1⟩ := side_of I qx
    obtain ⟨ws, rv2, s2⟩ := side_of I qy
    have n1 := rv.length
    have n2 := rv2.length
    have he : us.toArray[i]? = none ∨ ws.toArray[i]? = none := hend.imp (fun q => by simp; omega) (fun q => by simp; omega)
    exact nx_end (I.ok.hd hc) ⟨D, z, pr, ou, i1, i2, s1, s2⟩ he fun g up => ⟨rfl, I.turnedL (t' := s.toks) (ch := [c, p, t, j, j']) (fun q o nq e => up q o (fun r => nq (by simp [r])) (fun r => nq (by simp [r])) (fun r => nq (by simp [r])) (fun r => nq (by simp [r])) e) hf⟩
  self := fun A i s Q E st h => wpAny_pyIter_zip st.1.1 h
def iZm (K : PySem.W.Frag) (ta : TA) : TI := fun σ H R => ta σ H fun vs H1 => ∃ (k m : Bool) (a b : Addr) (xs ys : List V), vs = [.ref a, .ref b] ∧ (SqG k K H1 a xs ∧ (SqG m K H1 b ys ∧ R (Itm k m K a b) H1))
theorem pi_zm {X : L2.Cx} {e e2 : Expr} {ta : TA} {p pos tpos : Pos} {elts : List Expr} {kk : Nat} (hg : Gl X "zip") (hm : X.mg "zip" = none) (ha : PA X [e, e2] ta) (hs : starEach [e, e2] X.env = (false, eval e X.env) :: starEach [e2] X.env) (hpl : (backTo pos (starEach [e2] X.env)).any (·.1) = false) :
    PI X (.Tuple elts kk tpos) (.Call (.Name "zip" p) [e, e2] [] pos) (iZm X.K ta) := by
  refine ⟨fun pins s σ H R I h => ?_⟩
  refine Call_ (ld_blt I hg hm PyProof.Rows.boot_zip (PyProof.Rows.callWith_type1 (thn (ha.run pos pins s σ H _ I h) fun us s1 ⟨vs, H1, I1, r1, q1⟩ => ?_) hs hpl))
  obtain ⟨k, m, a, b, xs, ys, rfl, qx, qy, q⟩ := q1
  obtain ⟨us, rv, p1⟩ := side_of I1 qx
  obtain ⟨ws, rv2, p2⟩ := side_of I1 qy
  have fr : ∀ c, c ∈ [s1.heap.objs.size + 4, s1.heap.objs.size + 2, s1.heap.objs.size + 3, s1.heap.objs.size, s1.heap.objs.size + 1] → FpOk X pins H1 c := fun c hc => by
    have le : s1.heap.objs.size ≤ c := by
      generalize s1.heap.objs.size = N at hc ⊢
      have hc : c = N + 4 ∨ c = N + 2 ∨ c = N + 3 ∨ c = N ∨ c = N + 1 := by simpa using hc
      omega
    exact I1.fpOk le (I1.hok.fresh le)
  cases r1 with
  | cons r rr => cases rr with
    | cons r' rr =>
      cases rr; cases r; cases r'
      refine call_zm p1 p2 fun g z pr ou i1 i2 up => wpAny_pyIter_zip z ?_
      have I2 : L2.Inv X pins σ H1 { s1 with heap := g } := I1.kept (t' := s1.toks) up
      exact ⟨s1.heap.objs.size + 4, [s1.heap.objs.size + 4, s1.heap.objs.size + 2, s1.heap.objs.size + 3, s1.heap.objs.size, s1.heap.objs.size + 1], _, _, H1, rfl, I2, turn_zm (PySem.W.ktu_apart s1.heap.objs.size a b (side_lt p1) (side_lt p2)), ⟨⟨z, pr⟩, ⟨_, _, ou⟩, i1, i2⟩, fr, q⟩
end TB

end

section
set_option Elab.async false
set_option linter.all false
set_option maxRecDepth 100000
set_option maxHeartbeats 1000000
/-! zip with a name for the pairs: a pair stays out, so that the zip makes a new one at each turn. -/
namespace TB
open PySem PySem.Spec PyProof.Rows L2
section
variable {prog : Program} {w : World} {A : Around} {E : Value → Shared → Prop} {s : Shared}
/-- a zip with what it keeps of its last pair -/
abbrev IsZipG (h : Heap) (z TI TO : Addr) (f0 : Value) (f : Bool) : Prop :=
  h.get? z = some { cls := .type "zip", dict := none, data := .fields #[f0, .bool f, .bool false, .ref TI, .ref TO], slots := #[] }
def Lst (v : Value) : Prop := v = .none ∨ ∃ T : Addr, v = rawInt T
theorem alive_any {a : Addr} {Q : Option Obj → Shared → Prop} (h : Q (s.heap.get? a) s) : wpAny (model prog w) A (loadIfAlive a) Q E s := fun _ _ _ => h
/-- either it is free, or the zip only notes that it asked -/
theorem free_or {c p t : Addr} {f0 : Value} {f : Bool} {Q : Bool → Shared → Prop} (z : IsZipG s.heap c p t f0 f) (l : Lst f0) (h1 : Q true s)
    (h2 : ∀ h', IsZipG h' c p t f0 true → Heap.SameBut c s.heap h' → Q false { s with heap := h' }) : wpAny (model prog w) A (Builtin.SmallTypes.ownedTupleIsFree (.ref c)) Q E s := by
  unfold Builtin.SmallTypes.ownedTupleIsFree
  rcases l with rfl | ⟨T, rfl⟩
  · exact wpAny_bind (wpAny_field z rfl (x := .none) rfl (wpAny_pure h1))
  · refine wpAny_bind (wpAny_field z rfl (x := rawInt T) rfl ?_)
    show wpAny _ _ (loadIfAlive ((T : Int).toNat) >>= _) _ _ _
    rw [Int.toNat_natCast]
    refine wpAny_bind (alive_any ?_)
    cases s.heap.get? T with
    | none =>
      simp only [Option.isNone_none, if_true]
      exact wpAny_pure h1
    | some o =>
      simp only [Option.isNone_some, Bool.false_eq_true, if_false]
      refine wpAny_bind (wpAny_field z rfl (x := .bool f) rfl ?_)
      cases f with
      | true =>
        rw [if_neg (show ¬ ((Value.bool true != Value.bool true) = true) from Bool.false_ne_true)]
        exact wpAny_pure (h2 s.heap z (Heap.SameBut.refl _ _))
      | false =>
        rw [if_pos (show (Value.bool false != Value.bool true) = true from rfl)]
        exact wpAny_bind (wpAny_setField_rec z (by simp) fun h₁ hz₁ hs₁ => wpAny_pure (h2 h₁ hz₁ hs₁))
/-- a zip between two turns, its last pair out or not -/
structure Zg (k m : Bool) (h : Heap) (c p t j j' l l' : Addr) (i : Nat) (vs ws : Array Value) (f0 : Value) (f : Bool) : Prop where
  D : ZipApart c p t j j' l l'
  z : IsZipG h c p t f0 f
  lt : Lst f0
  pr : IsPair h p (.ref j) (.ref j')
  ou : ∃ a b, IsPair h t a b
  i1 : SdI k h j l i
  i2 : SdI m h j' l' i
  s1 : SdL k h l vs
  s2 : SdL m h l' ws
theorem zg_item {k m : Bool} {c p t j j' l l' : Addr} {i : Nat} {vs ws : Array Value} {x y : Value} {f0 : Value} {f : Bool} {Q : Value → Shared → Prop} (Z : Zg k m s.heap c p t j j' l l' i vs ws f0 f) (hx : vs[i]? = some x) (hy : ws[i]? = some y)
    (q : ∀ h' g0 g, IsZipG h' c p t g0 g → Lst g0 → (∃ a b, IsPair h' t a b) → SdI k h' j l (i + 1) → SdI m h' j' l' (i + 1) → IsPair h' s.heap.objs.size x y →
      (∀ b o, b ≠ c → b ≠ t → b ≠ j → b ≠ j' → s.heap.get? b = some o → h'.get? b = some o) → Q (.ref s.heap.objs.size) { s with heap := h' }) :
    wpAny (model prog w) A (Builtin.«zip.__next__» ⟨[.ref c], []⟩) (fun f s' => ∃ v, f = .done (.ret v) ∧ Q v s') E s := by
  obtain ⟨D, z, lt, pr, ⟨a, b, ou⟩, i1, i2, s1, s2⟩ := Z
  show wpAny _ _ (field (.ref c) 2 >>= _) _ _ _
  refine wpAny_bind (wpAny_field z rfl (x := .bool false) rfl ?_); show wpAny _ _ (field (.ref c) 3 >>= _) _ _ _
  refine wpAny_bind (wpAny_field z rfl (x := .ref p) rfl ?_); refine wpAny_bind (wpAny_seqItems pr rfl ?_)
  show wpAny _ _ (Builtin.SmallTypes.ownedTupleIsFree (.ref c) >>= _) _ _ _
  refine wpAny_bind (free_or z lt ?_ fun g1 z1 e1 => ?_)
  · simp only [if_true]
    refine wpAny_bind (wpAny_rule ?_); refine wpAny_bind (wpAny_field z rfl (x := .ref t) rfl ?_)
    refine wpAny_bind (wpAny_setField_rec z (by simp) fun g1 z1 e1 => ?_); replace z1 : IsZipG g1 c p t .ellipsis f := z1
    refine wpAny_bind ?_; simp only [List.zipIdx_cons, List.zipIdx_nil, List.forIn_cons, List.forIn_nil]
    refine wpAny_bind (wpAny_bind (wpAny_onRaise ?_)); show wpAny _ _ (Builtin.SmallTypes.nextOf (.ref j) >>= _) _ _ _
    refine wpAny_bind (sd_item (i1.but e1.extBut D.i1z) (s1.but e1.extBut D.l1z) hx fun g2 k2 e2 => wpAny_pure ?_)
    have o2 : IsPair g2 t a b := e2.extBut _ _ D.TOi1 (e1.extBut _ _ D.TOz ou)
    refine wpAny_bind (wpAny_seqItems o2 rfl ?_); refine wpAny_bind (wpAny_updateSeq_pair o2 fun g3 o3 e3 => ?_)
    replace o3 : IsPair g3 t x b := o3
    refine wpAny_bind (wpAny_letGo (wpAny_pure ?_)); refine wpAny_bind (wpAny_bind (wpAny_onRaise ?_))
    show wpAny _ _ (Builtin.SmallTypes.nextOf (.ref j') >>= _) _ _ _
    refine wpAny_bind (sd_item (((i2.but e1.extBut D.i2z).but e2.extBut D.i12.symm).but e3.extBut D.TOi2.symm) (((s2.but e1.extBut D.l2z).but e2.extBut D.l2i1).but e3.extBut D.l2TO) hy fun g4 k4 e4 => wpAny_pure ?_)
    have o4 : IsPair g4 t x b := e4.extBut _ _ D.TOi2 o3
    refine wpAny_bind (wpAny_seqItems o4 rfl ?_); refine wpAny_bind (wpAny_updateSeq_pair o4 fun g5 o5 e5 => ?_)
    replace o5 : IsPair g5 t x y := o5
    refine wpAny_bind (wpAny_letGo (wpAny_pure (wpAny_pure ?_))); refine wpAny_bind (wpAny_seqItems o5 rfl ?_); refine wpAny_bind (wpAny_newTuple ?_)
    have sz : g5.objs.size = s.heap.objs.size := by rw [e5.1, e4.1, e3.1, e2.1, e1.1]
    have z5 : IsZipG g5 c p t .ellipsis f := e5.extBut _ _ D.TOz.symm (e4.extBut _ _ D.i2z.symm (e3.extBut _ _ D.TOz.symm (e2.extBut _ _ D.i1z.symm z1)))
    have up5 : ∀ b o, b ≠ c → b ≠ t → b ≠ j → b ≠ j' → s.heap.get? b = some o → g5.get? b = some o := fun b o n1 n2 n3 n4 e => e5.extBut _ _ n2 (e4.extBut _ _ n4 (e3.extBut _ _ n2 (e2.extBut _ _ n3 (e1.extBut _ _ n1 e))))
    have k1 : SdI k g5 j l (i + 1) := ((k2.but e3.extBut D.TOi1.symm).but e4.extBut D.i12).but e5.extBut D.TOi1.symm
    have k5 : SdI m g5 j' l' (i + 1) := k4.but e5.extBut D.TOi2.symm
    have lc : c < g5.objs.size := Heap.lt_size z5
    show wpAny _ _ (Builtin.SmallTypes.ownedTupleHandOut (.ref c) (.ref g5.objs.size) >>= _) _ _ _
    refine wpAny_bind ?_; unfold Builtin.SmallTypes.ownedTupleHandOut
    have z6 : IsZipG (g5.push { cls := .type "tuple", data := .seq #[x, y] }) c p t .ellipsis f := Heap.get?_push_of_some _ z5
    refine wpAny_bind (wpAny_setField_rec z6 (by simp) fun g7 z7 e7 => ?_); replace z7 : IsZipG g7 c p t (rawInt g5.objs.size) f := z7
    refine wpAny_setField_rec z7 (by simp) fun g8 z8 e8 => ?_
    replace z8 : IsZipG g8 c p t (rawInt g5.objs.size) false := z8
    have up8 : ∀ b o, b ≠ c → g5.get? b = some o → g8.get? b = some o := fun b o n e => e8.extBut _ _ n (e7.extBut _ _ n (Heap.get?_push_of_some _ e))
    have t8 : IsPair g8 g5.objs.size x y := e8.extBut _ _ (Nat.ne_of_gt lc) (e7.extBut _ _ (Nat.ne_of_gt lc) (Heap.get?_push_size _ rfl))
    rw [sz] at z8 t8
    refine wpAny_pure ⟨_, rfl, ?_⟩; show Q (.ref g5.objs.size) _
    rw [sz]
    exact q g8 _ _ z8 (.inr ⟨_, rfl⟩) ⟨x, y, up8 _ _ D.TOz o5⟩ (k1.at' fun o e => up8 _ o D.i1z e) (k5.at' fun o e => up8 _ o D.i2z e) t8 fun b o n1 n2 n3 n4 e => up8 b o n1 (up5 b o n1 n2 n3 n4 e)
  · simp only [Bool.false_eq_true, if_false]
    refine wpAny_bind ?_
    rw [← Array.forIn_toList]
    simp only [List.forIn_cons, List.forIn_nil]
    refine wpAny_bind (wpAny_bind (wpAny_holding ?_)); show wpAny _ _ (Builtin.SmallTypes.nextOf (.ref j) >>= _) _ _ _
    refine wpAny_bind (sd_item (s := { s with heap := g1 }) (i1.but e1.extBut D.i1z) (s1.but e1.extBut D.l1z) hx fun g2 k2 e2 => wpAny_pure ?_)
    refine wpAny_pure ?_
    refine wpAny_bind (wpAny_bind (wpAny_holding ?_)); show wpAny _ _ (Builtin.SmallTypes.nextOf (.ref j') >>= _) _ _ _
    refine wpAny_bind (sd_item (s := { s with heap := g2 }) ((i2.but e1.extBut D.i2z).but e2.extBut D.i12.symm) ((s2.but e1.extBut D.l2z).but e2.extBut D.l2i1) hy fun g3 k3 e3 => wpAny_pure ?_)
    refine wpAny_pure (wpAny_pure ?_)
    show wpAny _ _ (newTuple [x, y] >>= _) _ _ _
    refine wpAny_bind (wpAny_newTuple ?_)
    have sz : g3.objs.size = s.heap.objs.size := by rw [e3.1, e2.1, e1.1]
    have z3 : IsZipG g3 c p t f0 true := e3.extBut _ _ D.i2z.symm (e2.extBut _ _ D.i1z.symm z1)
    have up3 : ∀ b o, b ≠ c → b ≠ j → b ≠ j' → s.heap.get? b = some o → g3.get? b = some o := fun b o n1 n3 n4 e => e3.extBut _ _ n4 (e2.extBut _ _ n3 (e1.extBut _ _ n1 e))
    have k1 : SdI k g3 j l (i + 1) := k2.but e3.extBut D.i12
    have o3 : IsPair g3 t a b := up3 _ _ D.TOz D.TOi1 D.TOi2 ou
    refine wpAny_pure ⟨_, rfl, ?_⟩; show Q (.ref g3.objs.size) _
    have t4 : IsPair (g3.push { cls := .type "tuple", data := .seq #[x, y] }) g3.objs.size x y := Heap.get?_push_size _ rfl
    rw [sz] at t4 ⊢
    exact q _ _ _ (Heap.get?_push_of_some _ z3) lt ⟨a, b, Heap.get?_push_of_some _ o3⟩ (k1.at' fun o e => Heap.get?_push_of_some _ e) (k3.at' fun o e => Heap.get?_push_of_some _ e) t4 fun b o n1 n2 n3 n4 e => Heap.get?_push_of_some _ (up3 b o n1 n3 n4 e)
theorem zg_end {k m : Bool} {c p t j j' l l' : Addr} {i : Nat} {vs ws : Array Value} {f0 : Value} {f : Bool} {Q : Fin → Shared → Prop} (hh : A.handled = none) (Z : Zg k m s.heap c p t j j' l l' i vs ws f0 f) (hend : vs[i]? = none ∨ ws[i]? = none)
    (q : ∀ h' e, (∀ b o, b ≠ c → b ≠ t → b ≠ j → b ≠ j' → s.heap.get? b = some o → h'.get? b = some o) → (∃ o, h'.get? e = some o ∧ o.cls = .type "StopIteration") → E (.ref e) { s with heap := h' }) :
    wpAny (model prog w) A (Builtin.«zip.__next__» ⟨[.ref c], []⟩) Q E s := by
  obtain ⟨D, z, lt, pr, ⟨a, b, ou⟩, i1, i2, s1, s2⟩ := Z
  show wpAny _ _ (field (.ref c) 2 >>= _) _ _ _
  refine wpAny_bind (wpAny_field z rfl (x := .bool false) rfl ?_); show wpAny _ _ (field (.ref c) 3 >>= _) _ _ _
  refine wpAny_bind (wpAny_field z rfl (x := .ref p) rfl ?_); refine wpAny_bind (wpAny_seqItems pr rfl ?_)
  show wpAny _ _ (Builtin.SmallTypes.ownedTupleIsFree (.ref c) >>= _) _ _ _
  refine wpAny_bind (free_or z lt ?_ fun g1 z1 e1 => ?_)
  · simp only [if_true]
    refine wpAny_bind (wpAny_rule ?_); refine wpAny_bind (wpAny_field z rfl (x := .ref t) rfl ?_)
    refine wpAny_bind (wpAny_setField_rec z (by simp) fun g1 z1 e1 => ?_); replace z1 : IsZipG g1 c p t .ellipsis f := z1
    refine wpAny_bind ?_; simp only [List.zipIdx_cons, List.zipIdx_nil, List.forIn_cons, List.forIn_nil]
    refine wpAny_bind (wpAny_bind (wpAny_onRaise ?_)); show wpAny _ _ (Builtin.SmallTypes.nextOf (.ref j) >>= _) _ _ _
    cases hx : vs[i]? with
    | none =>
      refine wpAny_bind (sd_end hh (i1.but e1.extBut D.i1z) (s1.but e1.extBut D.l1z) hx fun g2 e e2 he => ?_)
      obtain ⟨oe, h1, h2⟩ := he
      have z2 : IsZipG g2 c p t .ellipsis f := e2 _ _ D.i1z.symm z1
      have ne : e ≠ c := fun x => by subst x; rw [z2] at h1; cases h1; simp at h2
      exact wpAny_setField_rec z2 (by simp) fun g3 _ e3 => q g3 e (fun b o n1 _ n3 _ x => e3.extBut _ _ n1 (e2 _ _ n3 (e1.extBut _ _ n1 x))) ⟨oe, e3.extBut _ _ ne h1, h2⟩
    | some x =>
      have hy : ws[i]? = none := hend.resolve_left (by rw [hx]; simp)
      refine wpAny_bind (sd_item (i1.but e1.extBut D.i1z) (s1.but e1.extBut D.l1z) hx fun g2 k2 e2 => wpAny_pure ?_)
      have o2 : IsPair g2 t a b := e2.extBut _ _ D.TOi1 (e1.extBut _ _ D.TOz ou)
      refine wpAny_bind (wpAny_seqItems o2 rfl ?_); refine wpAny_bind (wpAny_updateSeq_pair o2 fun g3 o3 e3 => ?_)
      refine wpAny_bind (wpAny_letGo (wpAny_pure ?_)); refine wpAny_bind (wpAny_bind (wpAny_onRaise ?_))
      show wpAny _ _ (Builtin.SmallTypes.nextOf (.ref j') >>= _) _ _ _
      refine wpAny_bind (sd_end hh (((i2.but e1.extBut D.i2z).but e2.extBut D.i12.symm).but e3.extBut D.TOi2.symm) (((s2.but e1.extBut D.l2z).but e2.extBut D.l2i1).but e3.extBut D.l2TO) hy fun g4 e e4 he => ?_)
      obtain ⟨oe, h1, h2⟩ := he
      have z4 : IsZipG g4 c p t .ellipsis f := e4 _ _ D.i2z.symm (e3.extBut _ _ D.TOz.symm (e2.extBut _ _ D.i1z.symm z1))
      have ne : e ≠ c := fun x => by subst x; rw [z4] at h1; cases h1; simp at h2
      exact wpAny_setField_rec z4 (by simp) fun g5 _ e5 => q g5 e (fun b o n1 n2 n3 n4 x => e5.extBut _ _ n1 (e4 _ _ n4 (e3.extBut _ _ n2 (e2.extBut _ _ n3 (e1.extBut _ _ n1 x))))) ⟨oe, e5.extBut _ _ ne h1, h2⟩
  · simp only [Bool.false_eq_true, if_false]
    refine wpAny_bind ?_
    rw [← Array.forIn_toList]
    simp only [List.forIn_cons, List.forIn_nil]
    refine wpAny_bind (wpAny_bind (wpAny_holding ?_)); show wpAny _ _ (Builtin.SmallTypes.nextOf (.ref j) >>= _) _ _ _
    cases hx : vs[i]? with
    | none =>
      refine wpAny_bind (sd_end (s := { s with heap := g1 }) hh (i1.but e1.extBut D.i1z) (s1.but e1.extBut D.l1z) hx fun g2 e e2 he => ?_)
      exact q g2 e (fun b o n1 _ n3 _ x => e2 _ _ n3 (e1.extBut _ _ n1 x)) he
    | some x =>
      have hy : ws[i]? = none := hend.resolve_left (by rw [hx]; simp)
      refine wpAny_bind (sd_item (s := { s with heap := g1 }) (i1.but e1.extBut D.i1z) (s1.but e1.extBut D.l1z) hx fun g2 k2 e2 => wpAny_pure ?_)
      refine wpAny_pure ?_
      refine wpAny_bind (wpAny_bind (wpAny_holding ?_)); show wpAny _ _ (Builtin.SmallTypes.nextOf (.ref j') >>= _) _ _ _
      refine wpAny_bind (sd_end (s := { s with heap := g2 }) hh ((i2.but e1.extBut D.i2z).but e2.extBut D.i12.symm) ((s2.but e1.extBut D.l2z).but e2.extBut D.l2i1) hy fun g4 e e4 he => ?_)
      exact q g4 e (fun b o n1 n2 n3 n4 x => e4 _ _ n4 (e2.extBut _ _ n3 (e1.extBut _ _ n1 x))) he
theorem ng_item {k m : Bool} {c p t j j' l l' : Addr} {i : Nat} {vs ws : Array Value} {x y : Value} {f0 : Value} {f : Bool} {Q : Option Value → Shared → Prop} (Z : Zg k m s.heap c p t j j' l l' i vs ws f0 f) (hx : vs[i]? = some x) (hy : ws[i]? = some y)
    (q : ∀ h' g0 g, IsZipG h' c p t g0 g → Lst g0 → (∃ a b, IsPair h' t a b) → SdI k h' j l (i + 1) → SdI m h' j' l' (i + 1) → IsPair h' s.heap.objs.size x y →
      (∀ b o, b ≠ c → b ≠ t → b ≠ j → b ≠ j' → s.heap.get? b = some o → h'.get? b = some o) → Q (some (.ref s.heap.objs.size)) { s with heap := h' }) : wpAny (model prog w) A (pyNext (.ref c)) Q E s := by
  have ty : s.TypeIs (.ref c) "zip" := ⟨_, Z.z, rfl⟩
  unfold pyNext
  exact wpAny_bind (wpAny_attempt (wpAny_callSpecial?_slot (name := Str.ofString "__next__") ty F.slot_zip_next (wpAny_call_entry F.slot_zip_next ty F.entry_zip_next (zg_item Z hx hy fun h' g0 g a1 a2 a3 a4 a5 a6 a7 => wpAny_pure (q h' g0 g a1 a2 a3 a4 a5 a6 a7)) (F.args_zip_next_1 _))))
theorem ng_end {k m : Bool} {c p t j j' l l' : Addr} {i : Nat} {vs ws : Array Value} {f0 : Value} {f : Bool} {Q : Option Value → Shared → Prop} (hh : A.handled = none) (Z : Zg k m s.heap c p t j j' l l' i vs ws f0 f) (hend : vs[i]? = none ∨ ws[i]? = none)
    (q : ∀ h', (∀ b o, b ≠ c → b ≠ t → b ≠ j → b ≠ j' → s.heap.get? b = some o → h'.get? b = some o) → Q none { s with heap := h' }) : wpAny (model prog w) A (pyNext (.ref c)) Q E s := by
  have ty : s.TypeIs (.ref c) "zip" := ⟨_, Z.z, rfl⟩
  unfold pyNext
  refine wpAny_bind (wpAny_attempt (wpAny_callSpecial?_slot (name := Str.ofString "__next__") ty F.slot_zip_next (wpAny_call_entry F.slot_zip_next ty F.entry_zip_next (zg_end hh Z hend fun h' e hk he => ?_) (F.args_zip_next_1 _))))
  obtain ⟨o, h1, h2⟩ := he
  exact wpAny_bind (wpAny_isInstance (T := "StopIteration") (b := true) ⟨o, h1, h2⟩ isSubtype_stop (wpAny_pure (q _ hk)))
theorem iter_zg {z TI TO : Addr} {f0 : Value} {f : Bool} {Q : Value → Shared → Prop} (hz : IsZipG s.heap z TI TO f0 f) (h : Q (.ref z) s) : wpAny (model prog w) A (pyIter (.ref z)) Q E s := by
  have hT : s.TypeIs (.ref z) "zip" := ⟨_, hz, rfl⟩
  refine wpAny_pyIter_slot hT F.slot_zip_iter (wpAny_call_entry F.slot_zip_iter hT F.entry_zip_iter ?_ (F.args_zip_iter_1 _))
  show wpAny _ _ (ret (.ref z)) _ _ s
  exact wpAny_pure ⟨_, rfl, "zip", _, hT, F.slot_zip_next.lookup, h⟩
end
theorem turn_zg {P : Program} {w : World} {K : PySem.W.Frag} {tg : Expr} (hn : ∀ it v, letOwnedTupleGo tg it v = pure ()) {k m : Bool} {a b c p t j j' : Addr} (D : ZipApart c p t j j' a b) :
    Turn P w K tg (Itm k m K a b) [c, p, t, j, j'] c (fun i h => ((∃ f0 f, IsZipG h c p t f0 f ∧ Lst f0) ∧ IsPair h p (.ref j) (.ref j')) ∧ ((∃ x y, IsPair h t x y) ∧ (SdI k h j a i ∧ SdI m h j' b i))) where
  mem := by simp
  obj := fun i h st q hq => by
    obtain ⟨⟨⟨f0, f, z, lt⟩, pr⟩, ⟨x, y, ou⟩, i1, i2⟩ := st
    obtain ⟨o1, c1, e1, n1, d1⟩ := i1.obj
    obtain ⟨o2, c2, e2, n2, d2⟩ := i2.obj
    rcases (show q = c ∨ q = p ∨ q = t ∨ q = j ∨ q = j' by simpa using hq) with r | r | r | r | r <;> rw [r]
    · exact ⟨_, z, nofun⟩
    · exact ⟨_, pr, nofun⟩
    · exact ⟨_, ou, nofun⟩
    · refine ⟨o1, e1, fun v q => ?_⟩
      rw [d1] at q; cases q
    · refine ⟨o2, e2, fun v q => ?_⟩
      rw [d2] at q; cases q
  keep := fun i h h' st f => by
    obtain ⟨⟨⟨f0, g, z, lt⟩, pr⟩, ⟨x, y, ou⟩, i1, i2⟩ := st
    exact ⟨⟨⟨f0, g, f c (by simp) _ z, lt⟩, f p (by simp) _ pr⟩, ⟨x, y, f t (by simp) _ ou⟩, i1.at' fun o q => f j (by simp) o q, i2.at' fun o q => f j' (by simp) o q⟩
  item := by
    intro X e1 e2 e3 hc i pins s σ H E I hf st hg
    subst e1 e2 e3
    obtain ⟨⟨⟨f0, f, z, lt⟩, pr⟩, ou, i1, i2⟩ := st
    obtain ⟨xs, ys, x, y, qx, qy, hx, hy⟩ := hg
    obtain ⟨us, rv, s1⟩ := side_of I qx
    obtain ⟨ws, rv2, s2⟩ := side_of I qy
    obtain ⟨u, hu, ru⟩ := rv.get hx
    obtain ⟨u2, hu2, ru2⟩ := rv2.get hy
    refine ng_item ⟨D, z, lt, pr, ou, i1, i2, s1, s2⟩ (x := u) (y := u2) (by simpa using hu) (by simpa using hu2) fun g g0 gf z1 lt1 o1 k1 k2 ht up => ?_
    refine ⟨_, rfl, ?_⟩
    rw [hn]
    refine wpAny_pure ?_
    have ob : ObjOk X.prog X.w (upd H s.heap.objs.size (.tup [x, y])) g s.heap.objs.size (.tup [x, y]) := ⟨show 2 ≤ sizeLine by decide, [u, u2], .cons ru (.cons ru2 .nil), _, ht, rfl, _, rfl⟩
    have out : ∀ q o, q ∉ [c, p, t, j, j'] → s.heap.get? q = some o → g.get? q = some o := fun q o nq e => up q o (fun r => nq (by simp [r])) (fun r => nq (by simp [r])) (fun r => nq (by simp [r])) (fun r => nq (by simp [r])) e
    have I1 : L2.Inv X pins σ (upd H s.heap.objs.size (.tup [x, y])) { s with heap := g } := I.turnedNew (t' := s.toks) (ch := [c, p, t, j, j']) out hf (Nat.le_refl _) ob
    refine ⟨.ref s.heap.objs.size, _, I1, rfl, ⟨_, x, y, ⟨rfl, I.hok.fresh (Nat.le_refl _)⟩, rfl, fun l hl => (side_inj I hl qx) ▸ hx, fun l hl => (side_inj I hl qy) ▸ hy⟩, ⟨⟨⟨g0, gf, z1, lt1⟩, up _ _ D.TIz D.TITO D.TIi1 D.TIi2 pr⟩, o1, k1, k2⟩, fun q hq => ?_⟩
    have hlt : q < s.heap.objs.size := by
      obtain ⟨_, _, h1, _⟩ := i1.obj
      obtain ⟨_, _, h2, _⟩ := i2.obj
      obtain ⟨_, _, h3⟩ := ou
      rcases (show q = c ∨ q = p ∨ q = t ∨ q = j ∨ q = j' by simpa using hq) with r | r | r | r | r <;> rw [r]
      · exact Heap.lt_size z
      · exact Heap.lt_size pr
      · exact Heap.lt_size h3
      · exact Heap.lt_size h1
      · exact Heap.lt_size h2
    rw [upd_ne (Nat.ne_of_lt hlt)]; exact (hf q hq).1
  done := by
    intro X e1 e2 e3 hc i pins s σ H E I hf st hg
    subst e1 e2 e3
    obtain ⟨⟨⟨f0, f, z, lt⟩, pr⟩, ou, i1, i2⟩ := st
    obtain ⟨xs, ys, qx, qy, hend⟩ := hg
    obtain ⟨us, rv, s1⟩ := side_of I qx
    obtain ⟨ws, rv2, s2⟩ := side_of I qy
    have n1 := rv.length
    have n2 := rv2.length
    have he : us.toArray[i]? = none ∨ ws.toArray[i]? = none := hend.imp (fun q => by simp; omega) (fun q => by simp; omega)
    exact ng_end (I.ok.hd hc) ⟨D, z, lt, pr, ou, i1, i2, s1, s2⟩ he fun g up => ⟨rfl, I.turnedL (t' := s.toks) (ch := [c, p, t, j, j']) (fun q o nq e => up q o (fun r => nq (by simp [r])) (fun r => nq (by simp [r])) (fun r => nq (by simp [r])) (fun r => nq (by simp [r])) e) hf⟩
  self := fun A i s Q E st h => by
    obtain ⟨⟨⟨f0, f, z, lt⟩, pr⟩, _⟩ := st
    exact iter_zg z h
theorem pi_zg {X : L2.Cx} {e e2 tg : Expr} {ta : TA} {p pos : Pos} (hn : ∀ it v, letOwnedTupleGo tg it v = pure ()) (hg : Gl X "zip") (hm : X.mg "zip" = none) (ha : PA X [e, e2] ta) (hs : starEach [e, e2] X.env = (false, eval e X.env) :: starEach [e2] X.env) (hpl : (backTo pos (starEach [e2] X.env)).any (·.1) = false) :
    PI X tg (.Call (.Name "zip" p) [e, e2] [] pos) (iZm X.K ta) := by
  refine ⟨fun pins s σ H R I h => ?_⟩
  refine Call_ (ld_blt I hg hm PyProof.Rows.boot_zip (PyProof.Rows.callWith_type1 (thn (ha.run pos pins s σ H _ I h) fun us s1 ⟨vs, H1, I1, r1, q1⟩ => ?_) hs hpl))
  obtain ⟨k, m, a, b, xs, ys, rfl, qx, qy, q⟩ := q1
  obtain ⟨us, rv, p1⟩ := side_of I1 qx
  obtain ⟨ws, rv2, p2⟩ := side_of I1 qy
  have fr : ∀ c, c ∈ [s1.heap.objs.size + 4, s1.heap.objs.size + 2, s1.heap.objs.size + 3, s1.heap.objs.size, s1.heap.objs.size + 1] → FpOk X pins H1 c := fun c hc => by
    have le : s1.heap.objs.size ≤ c := by
      generalize s1.heap.objs.size = N at hc ⊢
      have hc : c = N + 4 ∨ c = N + 2 ∨ c = N + 3 ∨ c = N ∨ c = N + 1 := by simpa using hc
      omega
    exact I1.fpOk le (I1.hok.fresh le)
  cases r1 with
  | cons r rr => cases rr with
    | cons r' rr =>
      cases rr; cases r; cases r'
      refine call_zm p1 p2 fun g z pr ou i1 i2 up => wpAny_pyIter_zip z ?_
      have I2 : L2.Inv X pins σ H1 { s1 with heap := g } := I1.kept (t' := s1.toks) up
      exact ⟨s1.heap.objs.size + 4, [s1.heap.objs.size + 4, s1.heap.objs.size + 2, s1.heap.objs.size + 3, s1.heap.objs.size, s1.heap.objs.size + 1], _, _, H1, rfl, I2, turn_zg hn (PySem.W.ktu_apart s1.heap.objs.size a b (side_lt p1) (side_lt p2)), ⟨⟨⟨_, _, z, .inl rfl⟩, pr⟩, ⟨_, _, ou⟩, i1, i2⟩, fr, q⟩
end TB

end

section
set_option Elab.async false
set_option linter.all false
set_option maxHeartbeats 1000000
namespace TB
open PySem L2

/-- the set A' tells no more than A and what is new -/
def AvX (A A' : Av) (H : Hp) : Prop := ∀ a, A' a → A a ∨ H a = none
section
variable {A A' : Av} {α α' : List Addr} {H H' : Hp}
theorem AvX.refl : AvX A A H := fun a m => .inl m
theorem AvX.hk (q : AvX A A' H) (e : Ext α H α' H') : ∀ a u, a ∉ α → ¬ A a → At H a u → a ∉ α' ∧ ¬ A' a ∧ At H' a u := fun a u n m k => by
  refine ⟨(e.at n k).1, fun z => ?_, (e.at n k).2⟩
  obtain ⟨o, k⟩ := k.ex
  rcases q a z with z | z
  · exact m z
  · rw [z] at k; cases k
theorem Rep.extA (q : AvX A A' H) (e : Ext α H α' H') {d : D} {x : L2.V} (r : Rep A α H d x) : Rep A' α' H' d x := r.imp (fun _ _ g => e.get g) (q.hk e)
theorem Reps.extA (q : AvX A A' H) (e : Ext α H α' H') {d : List D} {x : List L2.V} (r : Reps A α H d x) : Reps A' α' H' d x := r.imp (fun _ _ g => e.get g) (q.hk e)
theorem XDict.extA {g : G} (q : AvX A A' H) (e : Ext α H α' H') {c : Nat} {fs : List D} {d : Option Addr} (x : XDict g A α H c fs d) : XDict g A' α' H' c fs d := by
  obtain ⟨hl, x⟩ := x
  refine ⟨hl, ?_⟩
  rcases x with x | ⟨dd, ps, h1, h2, h3, h4, h5⟩
  · exact .inl x
  · refine .inr ⟨dd, ps, h1, e.out h4 h2, fun z => (q dd z).elim h3 fun z => (by rw [z] at h4; cases h4), e.keep _ _ h4 h2, fun j f v a b => ?_⟩
    obtain ⟨x, k, r⟩ := h5 j f v a b
    exact ⟨x, k, r.extA q e⟩
theorem ERel.extA {g : G} {ξ : Xi} {env : Env} {σ : L2.St} (q : AvX A A' H) (e : Ext α H α' H') (r : ERel g ξ A α H env σ) : ERel g ξ A' α' H' env σ :=
  ⟨r.1, fun i d k => by
    obtain ⟨x, k, s⟩ := r.2 i d k
    refine ⟨x, k, ?_⟩
    cases s with
    | rep r => exact .rep (r.extA q e)
    | exc k => exact .exc fun e' h1 h2 => let ⟨k1, k2, k3, k4⟩ := k e' h1 h2; ⟨k1, k2, k3, k4.extA q e⟩⟩
end
/-- the iterator J walks the source src -/
structure Wk (A : Av) (α₀ : List Addr) (H₀ : Hp) (src : Sr) (n : Nat) (J : L2.It) : Prop where
  go : ∀ A' α h H i, AvX A A' H₀ → Ext α₀ H₀ α H → HRel A' α h H → src.len h = some n → i < n → J.go i H
  yld : ∀ A' α h H i x H', AvX A A' H₀ → Ext α₀ H₀ α H → HRel A' α h H → src.len h = some n → i < n → J.yld i H x H' → ∃ d, src.at h i = some d ∧ Rep A' α H' d x ∧ HRel A' α h H' ∧ Ext α H α H'
  stop : ∀ A' α h H, AvX A A' H₀ → Ext α₀ H₀ α H → HRel A' α h H → src.len h = some n → J.stop n H
section
variable {X : L2.Cx} {g : G} {W : L2.WX} {cx : Cx} {pos : Pos} {K : Frag}
variable {ξ : Xi} {A : Av} {α : List Addr} {h : Lh} {env : Env} {σ : L2.St} {H : Hp} {n : Nat}
theorem SqL.get (R : HRel A α h H) {d : D} {a : Addr} {ds : List D} (r : Rep A α H d (.ref a)) (e : vw h d = some (false, ds)) : ∃ xs, SqL K H a xs ∧ Reps A α H ds xs := by
  obtain ⟨a', xs, e1, hq, rs⟩ := vw_list R r e
  cases e1
  exact ⟨xs, .inl hq, rs⟩
theorem SqT.get (R : HRel A α h H) {d : D} {a : Addr} {ds : List D} (r : Rep A α H d (.ref a)) (e : vw h d = some (true, ds)) : ∃ xs, SqT K H a xs ∧ Reps A α H ds xs := by
  obtain ⟨a', xs, e1, hq, rs⟩ := vw_tup R r e
  cases e1
  exact ⟨xs, .inl (.inl hq), rs⟩
/-- the kind of a row stays -/
def isTup : D → Bool
  | .tup _ => true
  | _ => false
theorem vw_kind {h : Lh} {d : D} {k : Bool} {ds : List D} (e : vw h d = some (k, ds)) : k = isTup d := by
  cases d with
  | lst _ => cases e; rfl
  | tup _ => cases e; rfl
  | ref n =>
    have e' : (match h[n]? with
      | some (.lst ds) => some (false, ds)
      | some (.ro ds) => some (false, ds)
      | _ => none) = some (k, ds) := e
    cases q : h[n]? with
    | none => rw [q] at e'; cases e'
    | some o =>
      rw [q] at e'
      cases o <;> cases e' <;> rfl
  | _ => cases e
theorem wk_list {d : D} {a : Addr} (r : Rep A α H d (.ref a)) (nt : isTup d = false) : Wk A α H (.seq d) n (Itl K a) where
  go := fun A' α1 h1 H1 i qA e R hl hi => by
    obtain ⟨p, e1, rfl⟩ := Option.map_eq_some_iff.mp (show (vw h1 d).map (fun p => p.2.length) = some n from hl)
    obtain ⟨k, ds⟩ := p
    have hk := vw_kind e1
    rw [nt] at hk; subst hk
    obtain ⟨xs, hq, rs⟩ := SqL.get (K := K) R (r.extA qA e) e1
    have hi : i < ds.length := hi
    obtain ⟨x, hx, _⟩ := rs.get (List.getElem?_eq_getElem hi)
    exact ⟨xs, x, hq, hx⟩
  yld := fun A' α1 h1 H1 i x H' qA e R hl hi hy => by
    obtain ⟨p, e1, rfl⟩ := Option.map_eq_some_iff.mp (show (vw h1 d).map (fun p => p.2.length) = some n from hl)
    obtain ⟨k, ds⟩ := p
    have hk := vw_kind e1
    rw [nt] at hk; subst hk
    obtain ⟨xs, hq, rs⟩ := SqL.get (K := K) R (r.extA qA e) e1
    obtain ⟨rfl, hy⟩ := hy
    have hi : i < ds.length := hi
    obtain ⟨y, hx, ry⟩ := rs.get (List.getElem?_eq_getElem hi)
    rw [hy xs hq] at hx
    cases hx
    refine ⟨ds[i], ?_, ry, R, .refl⟩
    show (vw h1 d).bind (fun p => p.2[i]?) = _
    rw [e1]
    exact List.getElem?_eq_getElem hi
  stop := fun A' α1 h1 H1 qA e R hl => by
    obtain ⟨p, e1, rfl⟩ := Option.map_eq_some_iff.mp (show (vw h1 d).map (fun p => p.2.length) = some n from hl)
    obtain ⟨k, ds⟩ := p
    have hk := vw_kind e1
    rw [nt] at hk; subst hk
    obtain ⟨xs, hq, rs⟩ := SqL.get (K := K) R (r.extA qA e) e1
    exact ⟨xs, hq, by rw [← rs.length]; exact Nat.le_refl _⟩
theorem wk_tup {d : D} {a : Addr} (r : Rep A α H d (.ref a)) (nt : isTup d = true) : Wk A α H (.seq d) n (Itt K a) where
  go := fun A' α1 h1 H1 i qA e R hl hi => by
    obtain ⟨p, e1, rfl⟩ := Option.map_eq_some_iff.mp (show (vw h1 d).map (fun p => p.2.length) = some n from hl)
    obtain ⟨k, ds⟩ := p
    have hk := vw_kind e1
    rw [nt] at hk; subst hk
    obtain ⟨xs, hq, rs⟩ := SqT.get (K := K) R (r.extA qA e) e1
    have hi : i < ds.length := hi
    obtain ⟨x, hx, _⟩ := rs.get (List.getElem?_eq_getElem hi)
    exact ⟨xs, x, hq, hx⟩
  yld := fun A' α1 h1 H1 i x H' qA e R hl hi hy => by
    obtain ⟨p, e1, rfl⟩ := Option.map_eq_some_iff.mp (show (vw h1 d).map (fun p => p.2.length) = some n from hl)
    obtain ⟨k, ds⟩ := p
    have hk := vw_kind e1
    rw [nt] at hk; subst hk
    obtain ⟨xs, hq, rs⟩ := SqT.get (K := K) R (r.extA qA e) e1
    obtain ⟨rfl, hy⟩ := hy
    have hi : i < ds.length := hi
    obtain ⟨y, hx, ry⟩ := rs.get (List.getElem?_eq_getElem hi)
    rw [hy xs hq] at hx
    cases hx
    refine ⟨ds[i], ?_, ry, R, .refl⟩
    show (vw h1 d).bind (fun p => p.2[i]?) = _
    rw [e1]
    exact List.getElem?_eq_getElem hi
  stop := fun A' α1 h1 H1 qA e R hl => by
    obtain ⟨p, e1, rfl⟩ := Option.map_eq_some_iff.mp (show (vw h1 d).map (fun p => p.2.length) = some n from hl)
    obtain ⟨k, ds⟩ := p
    have hk := vw_kind e1
    rw [nt] at hk; subst hk
    obtain ⟨xs, hq, rs⟩ := SqT.get (K := K) R (r.extA qA e) e1
    exact ⟨xs, hq, by rw [← rs.length]; exact Nat.le_refl _⟩
theorem wk_rng {lo : Int} {m n : Nat} : Wk A α H (.rng lo 1 m) n (Itr lo m) where
  go := fun A' α1 h1 H1 i qA e R hl hi => by cases hl; exact hi
  yld := fun A' α1 h1 H1 i x H' qA e R hl hi hy => by
    obtain ⟨rfl, rfl⟩ := hy
    refine ⟨.int (lo + i), ?_, .int _, R, .refl⟩
    show some (D.int (lo + (i : Int) * 1)) = _
    rw [Int.mul_one]
  stop := fun A' α1 h1 H1 qA e R hl => by cases hl; exact Nat.le_refl _
theorem wk_rngC {lo c : Int} {m n : Nat} : Wk A α H (.rng lo c m) n (Itc lo c m) where
  go := fun A' α1 h1 H1 i qA e R hl hi => by cases hl; exact hi
  yld := fun A' α1 h1 H1 i x H' qA e R hl hi hy => by
    obtain ⟨rfl, rfl⟩ := hy
    exact ⟨.int (lo + i * c), rfl, .int _, R, .refl⟩
  stop := fun A' α1 h1 H1 qA e R hl => by cases hl; exact Nat.le_refl _
theorem zip_len {a b : D} {n : Nat} (e : (Sr.zip a b).len h = some n) : ∃ k k' xs ys, vw h a = some (k, xs) ∧ vw h b = some (k', ys) ∧ xs.length = n ∧ ys.length = n := by
  have e : (match vw h a, vw h b with
    | some (_, xs), some (_, ys) => if xs.length = ys.length then some xs.length else none
    | _, _ => none) = some n := e
  cases e1 : vw h a with
  | none => rw [e1] at e; cases e
  | some p =>
    cases e2 : vw h b with
    | none => rw [e1, e2] at e; cases e
    | some q =>
      obtain ⟨k, xs⟩ := p
      obtain ⟨k', ys⟩ := q
      rw [e1, e2] at e
      dsimp only at e
      by_cases c : xs.length = ys.length
      · rw [if_pos c] at e
        cases e
        exact ⟨k, k', xs, ys, rfl, rfl, rfl, c.symm⟩
      · rw [if_neg c] at e; cases e
theorem zip_at {a b : D} {k k' : Bool} {xs ys : List D} {i : Nat} {x y : D} (e1 : vw h a = some (k, xs)) (e2 : vw h b = some (k', ys)) (hx : xs[i]? = some x) (hy : ys[i]? = some y) : (Sr.zip a b).at h i = some (.tup [x, y]) := by
  show (match vw h a, vw h b with
    | some (_, xs), some (_, ys) => match xs[i]?, ys[i]? with
      | some x, some y => some (D.tup [x, y])
      | _, _ => none
    | _, _ => none) = _
  rw [e1, e2]
  dsimp only
  rw [hx, hy]
/-- a pair just made -/
theorem pair_new (R : HRel A α h H) {T : Addr} {d1 d2 : D} {x y : L2.V} (n : H T = none) (r1 : Rep A α H d1 x) (r2 : Rep A α H d2 y) : Rep A α (upd H T (.tup [x, y])) (.tup [d1, d2]) (.ref T) ∧ HRel A α h (upd H T (.tup [x, y])) ∧ Ext α H α (upd H T (.tup [x, y])) :=
  ⟨.tup (R.fresh n).1 (R.fresh n).2 upd_same (.cons (r1.ext (Ext.alloc n)) (.one (r2.ext (Ext.alloc n)))), R.alloc n, Ext.alloc n⟩
theorem SqG.get {k : Bool} (R : HRel A α h H) {d : D} {a : Addr} {ds : List D} (r : Rep A α H d (.ref a)) (e : vw h d = some (k, ds)) : ∃ xs, SqG k K H a xs ∧ Reps A α H ds xs := by
  cases k with
  | true => exact SqT.get R r e
  | false => exact SqL.get R r e
theorem wk_zm {d1 d2 : D} {a b : Addr} {k m : Bool} (r1 : Rep A α H d1 (.ref a)) (r2 : Rep A α H d2 (.ref b)) (t1 : isTup d1 = k) (t2 : isTup d2 = m) : Wk A α H (.zip d1 d2) n (Itm k m K a b) where
  go := fun A' α1 h1 H1 i qA e R hl hi => by
    obtain ⟨k, k', xs, ys, e1, e2, rfl, l2⟩ := zip_len hl
    have hk := vw_kind e1
    have hk' := vw_kind e2
    rw [t1] at hk; rw [t2] at hk'; subst hk; subst hk'
    obtain ⟨us, hq, rs⟩ := SqG.get (K := K) R (r1.extA qA e) e1
    obtain ⟨ws, hq2, rs2⟩ := SqG.get (K := K) R (r2.extA qA e) e2
    obtain ⟨x, hx, _⟩ := rs.get (List.getElem?_eq_getElem hi)
    obtain ⟨y, hy, _⟩ := rs2.get (List.getElem?_eq_getElem (by rw [l2]; exact hi))
    exact ⟨us, ws, x, y, hq, hq2, hx, hy⟩
  yld := fun A' α1 h1 H1 i x H' qA e R hl hi hy => by
    obtain ⟨k, k', xs, ys, e1, e2, rfl, l2⟩ := zip_len hl
    have hk := vw_kind e1
    have hk' := vw_kind e2
    rw [t1] at hk; rw [t2] at hk'; subst hk; subst hk'
    obtain ⟨us, hq, rs⟩ := SqG.get (K := K) R (r1.extA qA e) e1
    obtain ⟨ws, hq2, rs2⟩ := SqG.get (K := K) R (r2.extA qA e) e2
    have hx0 := List.getElem?_eq_getElem hi
    have hy0 : ys[i]? = _ := List.getElem?_eq_getElem (by rw [l2]; exact hi)
    obtain ⟨u, hu, ru⟩ := rs.get hx0
    obtain ⟨w, hw, rw'⟩ := rs2.get hy0
    obtain ⟨T, x', y', ⟨rfl, hn⟩, rfl, k1, k2⟩ := hy
    rw [k1 us hq] at hu; cases hu
    rw [k2 ws hq2] at hw; cases hw
    obtain ⟨q1, q2, q3⟩ := pair_new R hn ru rw'
    exact ⟨_, zip_at e1 e2 hx0 hy0, q1, q2, q3⟩
  stop := fun A' α1 h1 H1 qA e R hl => by
    obtain ⟨k, k', xs, ys, e1, e2, rfl, l2⟩ := zip_len hl
    have hk := vw_kind e1
    have hk' := vw_kind e2
    rw [t1] at hk; rw [t2] at hk'; subst hk; subst hk'
    obtain ⟨us, hq, rs⟩ := SqG.get (K := K) R (r1.extA qA e) e1
    obtain ⟨ws, hq2, rs2⟩ := SqG.get (K := K) R (r2.extA qA e) e2
    exact ⟨us, ws, hq, hq2, .inl (by rw [← rs.length]; exact Nat.le_refl _)⟩
theorem enu_len {d : D} {n : Nat} (e : (Sr.enu d).len h = some n) : ∃ ds, vw h d = some (false, ds) ∧ ds.length = n := by
  have e : (match vw h d with
    | some (false, ds) => some ds.length
    | _ => none) = some n := e
  cases e1 : vw h d with
  | none => rw [e1] at e; cases e
  | some p =>
    obtain ⟨k, ds⟩ := p
    rw [e1] at e
    cases k with
    | true => cases e
    | false => cases e; exact ⟨ds, rfl, rfl⟩
theorem wk_enu {d : D} {a : Addr} (r : Rep A α H d (.ref a)) : Wk A α H (.enu d) n (Ite K a) where
  go := fun A' α1 h1 H1 i qA e R hl hi => by
    obtain ⟨ds, e1, rfl⟩ := enu_len hl
    obtain ⟨xs, hq, rs⟩ := SqL.get (K := K) R (r.extA qA e) e1
    obtain ⟨x, hx, _⟩ := rs.get (List.getElem?_eq_getElem hi)
    exact ⟨xs, x, hq, hx⟩
  yld := fun A' α1 h1 H1 i x H' qA e R hl hi hy => by
    obtain ⟨ds, e1, rfl⟩ := enu_len hl
    obtain ⟨xs, hq, rs⟩ := SqL.get (K := K) R (r.extA qA e) e1
    obtain ⟨T, y, rfl, hn, rfl, hy⟩ := hy
    obtain ⟨z, hx, rz⟩ := rs.get (List.getElem?_eq_getElem hi)
    rw [hy xs hq] at hx
    cases hx
    obtain ⟨q1, q2, q3⟩ := pair_new R hn (.int i) rz
    refine ⟨_, ?_, q1, q2, q3⟩
    show (vw h1 d).bind (fun p => (p.2[i]?).map fun x => D.tup [.int i, x]) = _
    rw [e1]
    show (ds[i]?).map _ = _
    rw [List.getElem?_eq_getElem hi]
    rfl
  stop := fun A' α1 h1 H1 qA e R hl => by
    obtain ⟨ds, e1, rfl⟩ := enu_len hl
    obtain ⟨xs, hq, rs⟩ := SqL.get (K := K) R (r.extA qA e) e1
    exact ⟨xs, hq, by rw [← rs.length]; exact Nat.le_refl _⟩
/-- from the end; the length is that of the start -/
theorem rev_at {d : D} {k : Bool} {ds : List D} {i n : Nat} (e : vw h d = some (k, ds)) (hn : ds.length = n) (hi : i < n) : (Sr.rev d).at h i = ds[n - 1 - i]? := by
  show (vw h d).bind (fun p => p.2[p.2.length - 1 - i]?) = _
  rw [e]
  show ds[ds.length - 1 - i]? = _
  rw [hn]
theorem wk_rev {d : D} {a : Addr} (r : Rep A α H d (.ref a)) (nt : isTup d = false) : Wk A α H (.rev d) n (Itv K a n) where
  go := fun A' α1 h1 H1 i qA e R hl hi => by
    obtain ⟨p, e1, hn⟩ := Option.map_eq_some_iff.mp (show (vw h1 d).map (fun p => p.2.length) = some n from hl)
    obtain ⟨k, ds⟩ := p
    have hn : ds.length = n := hn
    have hk := vw_kind e1
    rw [nt] at hk; subst hk
    obtain ⟨xs, hq, rs⟩ := SqL.get (K := K) R (r.extA qA e) e1
    obtain ⟨x, hx, _⟩ := rs.get (List.getElem?_eq_getElem (show n - 1 - i < ds.length by omega))
    exact ⟨hi, xs, x, hq, hx⟩
  yld := fun A' α1 h1 H1 i x H' qA e R hl hi hy => by
    obtain ⟨p, e1, hn⟩ := Option.map_eq_some_iff.mp (show (vw h1 d).map (fun p => p.2.length) = some n from hl)
    obtain ⟨k, ds⟩ := p
    have hn : ds.length = n := hn
    have hk := vw_kind e1
    rw [nt] at hk; subst hk
    obtain ⟨xs, hq, rs⟩ := SqL.get (K := K) R (r.extA qA e) e1
    obtain ⟨rfl, hy⟩ := hy
    have hd := List.getElem?_eq_getElem (show n - 1 - i < ds.length by omega)
    obtain ⟨y, hx, ry⟩ := rs.get hd
    rw [hy xs hq] at hx
    cases hx
    exact ⟨_, (rev_at e1 hn hi).trans hd, ry, R, .refl⟩
  stop := fun A' α1 h1 H1 qA e R hl => Nat.le_refl _
theorem wk_revT {d : D} {a : Addr} (r : Rep A α H d (.ref a)) (nt : isTup d = true) : Wk A α H (.rev d) n (RT.ItvT K a n) where
  go := fun A' α1 h1 H1 i qA e R hl hi => by
    obtain ⟨p, e1, hn⟩ := Option.map_eq_some_iff.mp (show (vw h1 d).map (fun p => p.2.length) = some n from hl)
    obtain ⟨k, ds⟩ := p
    have hn : ds.length = n := hn
    have hk := vw_kind e1
    rw [nt] at hk; subst hk
    obtain ⟨xs, hq, rs⟩ := SqT.get (K := K) R (r.extA qA e) e1
    obtain ⟨x, hx, _⟩ := rs.get (List.getElem?_eq_getElem (show n - 1 - i < ds.length by omega))
    exact ⟨hi, xs, x, hq, hx⟩
  yld := fun A' α1 h1 H1 i x H' qA e R hl hi hy => by
    obtain ⟨p, e1, hn⟩ := Option.map_eq_some_iff.mp (show (vw h1 d).map (fun p => p.2.length) = some n from hl)
    obtain ⟨k, ds⟩ := p
    have hn : ds.length = n := hn
    have hk := vw_kind e1
    rw [nt] at hk; subst hk
    obtain ⟨xs, hq, rs⟩ := SqT.get (K := K) R (r.extA qA e) e1
    obtain ⟨rfl, hy⟩ := hy
    have hd := List.getElem?_eq_getElem (show n - 1 - i < ds.length by omega)
    obtain ⟨y, hx, ry⟩ := rs.get hd
    rw [hy xs hq] at hx
    cases hx
    exact ⟨_, (rev_at e1 hn hi).trans hd, ry, R, .refl⟩
  stop := fun A' α1 h1 H1 qA e R hl => Nat.le_refl _
/-- a dict that is locked -/
theorem wk_keys {p : Addr} {o : Obj} {kvs : List (L2.Key × L2.V)} (e0 : H p = some (.frz o (.dK kvs))) (np : p ∉ α) : Wk A α H (.keys (kvs.map (·.1))) n (Itk p o kvs) where
  go := fun A' α1 h1 H1 i qA e R hl hi => by
    have hl : some ((kvs.map (·.1)).length) = some n := hl
    rw [List.length_map] at hl
    cases hl
    exact ⟨e.keep _ _ e0 np, hi⟩
  yld := fun A' α1 h1 H1 i x H' qA e R hl hi hy => by
    obtain ⟨rfl, k, v, hk, rfl⟩ := hy
    refine ⟨keyD k, ?_, ?_, R, .refl⟩
    · show ((kvs.map (·.1))[i]?).map keyD = _
      rw [List.getElem?_map, hk]
      rfl
    · cases k with
      | inl i => exact .int i
      | inr s => exact .str s
  stop := fun A' α1 h1 H1 qA e R hl => by
    have hl : some ((kvs.map (·.1)).length) = some n := hl
    rw [List.length_map] at hl
    cases hl
    exact ⟨e.keep _ _ e0 np, Nat.le_refl _⟩

/-! ### the readings -/
def PostI (g : G) (A : Av) (α : List Addr) (H : Hp) (σ : L2.St) (W : L2.WX) (R : L2.It → Hp → Prop) : Rs Sr → Prop
  | .ok s h' => ∃ n, s.len h' = some n ∧ ∀ α' H' J, Ext α H α' H' → HRel A α' h' H' → Wk A α' H' s n J → R J H'
  | .exc c fs h' => ∀ α' H' d, Ext α H α' H' → HRel A α' h' H' → XDict g A α' H' c fs d → W (.ref (g.cls c)) d σ H'
  | .stuck => False
def vI (g : G) (W : L2.WX) (cx : Cx) (it : It) : L2.TI := fun σ H R => ∃ ξ A α h env, Rl g ξ A α h env σ H ∧ PostI g A α H σ W R (it.ev cx env h)
theorem PostI.mono {α' : List Addr} {H' : Hp} {Q : L2.It → Hp → Prop} {r : Rs Sr} (P : PostI g A α H σ W Q r) (e : Ext α H α' H') : PostI g A α' H' σ W Q r := by
  cases r with
  | ok d h' =>
    obtain ⟨n, hn, P⟩ := P
    exact ⟨n, hn, fun α2 H2 x e2 => P α2 H2 x (e.trans e2)⟩
  | exc c fs h' => exact fun α2 H2 d e2 => P α2 H2 d (e.trans e2)
  | stuck => exact P
theorem weakI {tg e : Expr} {t t' : L2.TI} (p : PI X tg e t) (i : ∀ σ H Q, t' σ H Q → t σ H Q) : PI X tg e t' := ⟨fun pins s σ H R I w => p.run pins s σ H R I (i σ H R w)⟩
theorem orI {tg e : Expr} {t t' : L2.TI} (p : PI X tg e t) (q : PI X tg e t') : PI X tg e (fun σ H Q => t σ H Q ∨ t' σ H Q) :=
  ⟨fun pins s σ H R I w => w.elim (p.run pins s σ H R I) (q.run pins s σ H R I)⟩
theorem vE_bindI {m : E} {Q : L2.It → Hp → Prop} {k : D → Lh → Rs Sr} {R' : L2.V → Hp → Prop} (R : Rl g ξ A α h env σ H) (P : PostI g A α H σ W Q ((m.ev cx env h).bind k))
    (f : ∀ d h1 α1 H1 x, m.ev cx env h = .ok d h1 → Ext α H α1 H1 → Rl g ξ A α1 h1 env σ H1 → Rep A α1 H1 d x → PostI g A α1 H1 σ W Q (k d h1) → R' x H1) : vE g W cx m σ H R' := by
  refine ⟨ξ, A, α, h, env, R, ?_⟩
  cases q : m.ev cx env h with
  | ok d h1 =>
    rw [q] at P
    exact fun α1 H1 x e k1 r => f d h1 α1 H1 x q e (R.step e k1) r (PostI.mono P e)
  | exc c fs h1 => rw [q] at P; exact P
  | stuck => rw [q] at P; exact P
/-- a list or a tuple, walked -/
theorem pi_any {tg e : Expr} {te : L2.TE} (he : PE X e te) : PI X tg e fun σ H R => te σ H fun x H1 => ∃ a, x = .ref a ∧ (((∃ xs, SqL X.K H1 a xs) ∧ R (Itl X.K a) H1) ∨ ((∃ xs, SqT X.K H1 a xs) ∧ R (Itt X.K a) H1)) := by
  refine ⟨fun pins s σ H R I w => ?_⟩
  refine thn (he.run pins s σ H _ I w) fun u s1 hq => ?_
  obtain ⟨x, H1, I1, r1, a, rfl, q⟩ := hq
  cases r1
  rcases q with ⟨⟨xs, hx⟩, q⟩ | ⟨⟨xs, hx⟩, q⟩
  · obtain ⟨us, rv, p, _⟩ := I1.list hx
    exact wpAny_pyIter_list p.isList (pi_one (tk := s1.toks) I1 _ (turn_list a _) ⟨_, Heap.get?_push_size _ rfl, rfl, rfl⟩ q)
  · obtain ⟨us, rv, p, _⟩ := I1.tuple hx
    exact wpAny_pyIter_tuple (show s1.heap.IsTuple a us.toArray from p) (pi_one (tk := s1.toks) I1 _ (turn_tuple a _) ⟨_, Heap.get?_push_size _ rfl, rfl, rfl⟩ q)
theorem seq_of (R : HRel A α h H) {d : D} {x : L2.V} {n : Nat} (r : Rep A α H d x) (e : (vw h d).map (fun p => p.2.length) = some n) : ∃ a, x = .ref a ∧ ((isTup d = false ∧ ∃ xs, SqL K H a xs ∧ xs.length = n) ∨ (isTup d = true ∧ ∃ xs, SqT K H a xs ∧ xs.length = n)) := by
  obtain ⟨p, e1, hn⟩ := Option.map_eq_some_iff.mp e
  obtain ⟨k, ds⟩ := p
  have hn : ds.length = n := hn
  have hk := vw_kind e1
  cases k with
  | false =>
    obtain ⟨a, xs, rfl, hq, rs⟩ := vw_list R r e1
    exact ⟨a, rfl, .inl ⟨hk.symm, xs, .inl hq, by rw [← rs.length, hn]⟩⟩
  | true =>
    obtain ⟨a, xs, rfl, hq, rs⟩ := vw_tup R r e1
    exact ⟨a, rfl, .inr ⟨hk.symm, xs, .inl (.inl hq), by rw [← rs.length, hn]⟩⟩
theorem i_ex {tg e : Expr} {m : E} (he : PE X e (vE g W cx m)) : PI X tg e (vI g W cx (.ex m)) := by
  refine weakI (pi_any he) fun σ H Q ⟨ξ, A, α, h, env, R, P⟩ => ?_
  refine vE_bindI R P fun d h1 α1 H1 x _ e1 R1 r1 P1 => ?_
  obtain ⟨n, hn, P1⟩ := P1
  obtain ⟨a, rfl, q⟩ := seq_of (K := X.K) R1.h r1 hn
  refine ⟨a, rfl, ?_⟩
  rcases q with ⟨k, xs, hq, _⟩ | ⟨k, xs, hq, _⟩
  · exact .inl ⟨⟨xs, hq⟩, P1 α1 H1 _ .refl R1.h (wk_list r1 k)⟩
  · exact .inr ⟨⟨xs, hq⟩, P1 α1 H1 _ .refl R1.h (wk_tup r1 k)⟩
theorem i_r1 {tg a : Expr} {m : E} {p : Pos} (hg : Gl X "range") (hm : X.mg "range" = none) (ha : PE X a (vE g W cx m)) (hs : notStar a = true) : PI X tg (.Call (.Name "range" p) [a] [] pos) (vI g W cx (.r1 m)) := by
  refine weakI (pi_range1 hg hm (pa_cons ha pa_nil (star_ok hs)) (star_ok hs)) fun σ H Q ⟨ξ, A, α, h, env, R, P⟩ => ?_
  refine vE_bindI R P fun d h1 α1 H1 x _ e1 R1 r1 P1 => ?_
  cases r1 with
  | int j =>
    have P1 : PostI g A α1 H1 σ W Q (if okRng j then .ok (.rng 0 1 j.toNat) h1 else .stuck) := P1
    by_cases hk : okRng j = true
    · rw [if_pos hk] at P1
      have hk := of_decide_eq_true hk
      obtain ⟨n, hn, P1⟩ := P1
      exact ⟨j, rfl, by omega, by omega, P1 α1 H1 _ .refl R1.h wk_rng⟩
    · rw [if_neg hk] at P1; exact False.elim P1
  | _ => exact False.elim P1
theorem i_r2 {tg a b : Expr} {m m2 : E} {p : Pos} (hg : Gl X "range") (hm : X.mg "range" = none) (ha : PE X a (vE g W cx m)) (hb : PE X b (vE g W cx m2)) (hs : notStar a = true) (hs2 : notStar b = true) :
    PI X tg (.Call (.Name "range" p) [a, b] [] pos) (vI g W cx (.r2 m m2)) := by
  refine weakI (pi_range2 hg hm (pa_cons ha (pa_cons hb pa_nil (star_ok hs2)) (star_ok hs)) (by rw [star_ok hs, star_ok hs2]; rfl) (star_ok hs2)) fun σ H Q ⟨ξ, A, α, h, env, R, P⟩ => ?_
  refine vE_bindI R P fun d h1 α1 H1 x _ e1 R1 r1 P1 => ?_
  refine vE_bindI R1 P1 fun d2 h2 α2 H2 x2 _ e2 R2 r2 P2 => ?_
  cases r1 with
  | int i =>
    cases r2 with
    | int j =>
      have P2 : PostI g A α2 H2 σ W Q (if okRng i && okRng j then .ok (.rng i 1 (j - i).toNat) h2 else .stuck) := P2
      by_cases hk : (okRng i && okRng j) = true
      · rw [if_pos hk] at P2
        obtain ⟨k1, k2⟩ := Bool.and_eq_true_iff.mp hk
        have k1 := of_decide_eq_true k1
        have k2 := of_decide_eq_true k2
        obtain ⟨n, hn, P2⟩ := P2
        exact ⟨i, j, rfl, ⟨by omega, by omega, by omega, by omega⟩, P2 α2 H2 _ .refl R2.h wk_rng⟩
      · rw [if_neg hk] at P2; exact False.elim P2
    | _ => exact False.elim P2
  | _ => exact False.elim P2
theorem i_r3 {tg a b c : Expr} {m m2 m3 : E} {p : Pos} (hg : Gl X "range") (hm : X.mg "range" = none) (ha : PE X a (vE g W cx m)) (hb : PE X b (vE g W cx m2)) (hc : PE X c (vE g W cx m3)) (hs : notStar a = true) (hs2 : notStar b = true) (hs3 : notStar c = true) :
    PI X tg (.Call (.Name "range" p) [a, b, c] [] pos) (vI g W cx (.r3 m m2 m3)) := by
  refine weakI (pi_range3 hg hm (pa_cons ha (pa_cons hb (pa_cons hc pa_nil (star_ok hs3)) (star_ok hs2)) (star_ok hs)) (star_ok hs) (by rw [star_ok hs2, star_ok hs3]; rfl)) fun σ H Q ⟨ξ, A, α, h, env, R, P⟩ => ?_
  refine vE_bindI R P fun d h1 α1 H1 x _ e1 R1 r1 P1 => ?_
  refine vE_bindI R1 P1 fun d2 h2 α2 H2 x2 _ e2 R2 r2 P2 => ?_
  refine vE_bindI R2 P2 fun d3 h3 α3 H3 x3 _ e3 R3 r3 P3 => ?_
  cases r1 with
  | int i =>
    cases r2 with
    | int j =>
      cases r3 with
      | int k =>
        have P3 : PostI g A α3 H3 σ W Q (if decide (k = -1) && (okRng i && okRng j) then .ok (.rng i (-1) (i - j).toNat) h3 else .stuck) := P3
        by_cases hk : (decide (k = -1) && (okRng i && okRng j)) = true
        · rw [if_pos hk] at P3
          obtain ⟨k0, hk⟩ := Bool.and_eq_true_iff.mp hk
          obtain ⟨k1, k2⟩ := Bool.and_eq_true_iff.mp hk
          have k0 := of_decide_eq_true k0
          have k1 := of_decide_eq_true k1
          have k2 := of_decide_eq_true k2
          obtain ⟨n, hn, P4⟩ := P3
          subst k0
          exact ⟨i, j, -1, _, rfl, RgC.neg (by omega) (by omega) (by omega) (by omega), P4 α3 H3 _ .refl R3.h wk_rngC⟩
        · rw [if_neg hk] at P3; exact False.elim P3
      | _ => exact False.elim P3
    | _ => exact False.elim P3
  | _ => exact False.elim P3
def zipT : Expr → Bool
  | .Tuple _ _ _ => true
  | .Name _ _ => true
  | _ => false
theorem pi_zt {X : L2.Cx} {e e2 tg : Expr} {ta : TA} {p pos : Pos} (hz : zipT tg = true) (hg : Gl X "zip") (hm : X.mg "zip" = none) (ha : PA X [e, e2] ta) (hs : starEach [e, e2] X.env = (false, eval e X.env) :: starEach [e2] X.env) (hpl : (backTo pos (starEach [e2] X.env)).any (·.1) = false) :
    PI X tg (.Call (.Name "zip" p) [e, e2] [] pos) (iZm X.K ta) := by
  cases tg <;> first
    | exact pi_zm hg hm ha hs hpl
    | exact pi_zg (fun _ _ => rfl) hg hm ha hs hpl
    | cases hz
theorem i_zip {tg a b : Expr} {m m2 : E} {p : Pos} (hz : zipT tg = true) (hg : Gl X "zip") (hm : X.mg "zip" = none) (ha : PE X a (vE g W cx m)) (hb : PE X b (vE g W cx m2)) (hs : notStar a = true) (hs2 : notStar b = true) :
    PI X tg (.Call (.Name "zip" p) [a, b] [] pos) (vI g W cx (.zip m m2)) := by
  refine weakI (pi_zt hz hg hm (pa_cons ha (pa_cons hb pa_nil (star_ok hs2)) (star_ok hs)) (star_ok hs) (by rw [star_ok hs2]; rfl)) fun σ H Q ⟨ξ, A, α, h, env, R, P⟩ => ?_
  refine vE_bindI R P fun d h1 α1 H1 x _ e1 R1 r1 P1 => ?_
  refine vE_bindI R1 P1 fun d2 h2 α2 H2 x2 _ e2 R2 r2 P2 => ?_
  obtain ⟨n, hn, P2⟩ := P2
  obtain ⟨k, k', xs, ys, f1, f2, l1, l2⟩ := zip_len hn
  have r1 := r1.ext e2
  have k1 := vw_kind f1
  have k2 := vw_kind f2
  have side : ∀ {k : Bool} {d : D} {x : L2.V} {ds : List D}, Rep A α2 H2 d x → vw h2 d = some (k, ds) → ∃ a us, x = .ref a ∧ SqG k X.K H2 a us := fun {k d x ds} r f => by
    cases k with
    | false =>
      obtain ⟨a1, us, rfl, q1, _⟩ := vw_list R2.h r f
      exact ⟨a1, us, rfl, .inl q1⟩
    | true =>
      obtain ⟨a1, us, rfl, q1, _⟩ := vw_tup R2.h r f
      exact ⟨a1, us, rfl, .inl (.inl q1)⟩
  obtain ⟨a1, us, rfl, q1⟩ := side r1 f1
  obtain ⟨a2, ws, rfl, q2⟩ := side r2 f2
  exact ⟨k, k', a1, a2, us, ws, rfl, q1, q2, P2 α2 H2 _ .refl R2.h (wk_zm r1 r2 k1.symm k2.symm)⟩
theorem i_enu {elts : List Expr} {kk : Nat} {tpos : Pos} {a : Expr} {m : E} {p : Pos} (hg : Gl X "enumerate") (hm : X.mg "enumerate" = none) (ha : PE X a (vE g W cx m)) (hs : notStar a = true) :
    PI X (.Tuple elts kk tpos) (.Call (.Name "enumerate" p) [a] [] pos) (vI g W cx (.enu m)) := by
  refine weakI (pi_enum hg hm (pa_cons ha pa_nil (star_ok hs)) (star_ok hs)) fun σ H Q ⟨ξ, A, α, h, env, R, P⟩ => ?_
  refine vE_bindI R P fun d h1 α1 H1 x _ e1 R1 r1 P1 => ?_
  obtain ⟨n, hn, P1⟩ := P1
  obtain ⟨ds, f1, _⟩ := enu_len hn
  obtain ⟨a1, us, rfl, q1, rs1⟩ := vw_list R1.h r1 f1
  exact ⟨a1, us, rfl, .inl q1, P1 α1 H1 _ .refl R1.h (wk_enu r1)⟩
theorem i_rev {tg a : Expr} {m : E} {p : Pos} (hg : Gl X "reversed") (hm : X.mg "reversed" = none) (ha : PE X a (vE g W cx m)) (hs : notStar a = true) : PI X tg (.Call (.Name "reversed" p) [a] [] pos) (vI g W cx (.rev m)) := by
  refine weakI (RT.pi_revA hg hm ha (star_ok hs)) fun σ H Q ⟨ξ, A, α, h, env, R, P⟩ => ?_
  refine vE_bindI R P fun d h1 α1 H1 x _ e1 R1 r1 P1 => ?_
  obtain ⟨n, hn, P1⟩ := P1
  obtain ⟨a1, rfl, q⟩ := seq_of (K := X.K) R1.h r1 hn
  rcases q with ⟨k, xs, hq, rfl⟩ | ⟨k, xs, hq, rfl⟩
  · exact ⟨a1, xs, rfl, .inl ⟨hq, P1 α1 H1 _ .refl R1.h (wk_rev r1 k)⟩⟩
  · exact ⟨a1, xs, rfl, .inr ⟨hq, P1 α1 H1 _ .refl R1.h (wk_revT r1 k)⟩⟩
end
end TB

end

section
set_option Elab.async false
set_option linter.all false
set_option maxHeartbeats 1000000
namespace TB
open PySem L2

section
variable {A A' : Av} {α α' : List Addr} {h : Lh} {H H' : Hp} {D₀ : Addr} {o : HO}
/-- what stands apart from D₀ does not see it change -/
theorem At.updD {a : Addr} {u : HO} (hn : a ≠ D₀) (k : At H a u) : At (upd H D₀ o) a u := by
  cases u with
  | dK kvs =>
    rcases (show Rd H a (.dK kvs) from k) with k | ⟨o', k⟩
    · exact .inl (by rw [upd_ne hn]; exact k)
    · exact .inr ⟨o', by rw [upd_ne hn]; exact k⟩
  | _ => exact (upd_ne hn).trans k
theorem Rep.updD (hA : A D₀) {d : D} {x : L2.V} (r : Rep A α H d x) : Rep A α (upd H D₀ o) d x := r.imp (fun _ _ g => g) fun a u n m k => ⟨n, m, k.updD fun z => m (z ▸ hA)⟩
theorem Reps.updD (hA : A D₀) {d : List D} {x : List L2.V} (r : Reps A α H d x) : Reps A α (upd H D₀ o) d x := r.imp (fun _ _ g => g) fun a u n m k => ⟨n, m, k.updD fun z => m (z ▸ hA)⟩
theorem HRel.updD (hA : A D₀) (R : HRel A α h H) : HRel A α h (upd H D₀ o) where
  len := R.len
  nd := R.nd
  av := fun a m => by
    obtain ⟨m1, u, e⟩ := R.av a m
    refine ⟨m1, ?_⟩
    by_cases z : a = D₀
    · subst z; exact ⟨o, upd_same⟩
    · exact ⟨u, by rw [upd_ne z]; exact e⟩
  at_ := fun i o' e => by
    obtain ⟨a, g, q⟩ := R.at_ i o' e
    have hne : a ≠ D₀ := fun z => (R.av D₀ hA).1 (z ▸ List.mem_of_getElem? g)
    exact ⟨a, g, q.imp (fun u z => by rw [upd_ne hne]; exact z) fun _ _ r => r.updD hA⟩
theorem Ext.updD (e : Ext α H α' H') (hD : H D₀ = none) : Ext α H α' (upd H' D₀ o) :=
  ⟨e.pre, e.new, fun a u q n => by rw [upd_ne (ne_of_none q hD)]; exact e.keep a u q n⟩
/-- fewer things to stand apart from -/
theorem HRel.less (hA : ∀ a, A a → A' a) (R : HRel A' α h H) : HRel A α h H where
  len := R.len
  nd := R.nd
  av := fun a m => R.av a (hA a m)
  at_ := fun i o e => by
    obtain ⟨a, g, q⟩ := R.at_ i o e
    exact ⟨a, g, q.imp (fun u z => z) fun _ _ r => r.imp (fun _ _ g => g) fun a u n m k => ⟨n, fun z => m (hA a z), k⟩⟩
theorem Reps.less (hA : ∀ a, A a → A' a) {d : List D} {x : List L2.V} (r : Reps A' α H d x) : Reps A α H d x := r.imp (fun _ _ g => g) fun a u n m k => ⟨n, fun z => m (hA a z), k⟩
end

/-- no exception leaves -/
abbrev WF : L2.WX := fun _ _ _ _ => False
section
variable {X : L2.Cx} {g : G} {W : L2.WX} {cx : Cx} {pos : Pos}
variable {ξ : Xi} {A : Av} {α : List Addr} {h : Lh} {env : Env} {σ : L2.St} {H : Hp}
def tCond (g : G) (cx : Cx) : Eo → L2.TT
  | .no => tYes
  | .so m => vT g WF cx m
def compStep (cx : Cx) (env : Env) (own : List Nat) (t : Tg) (c : Eo) (e : E) : D → List D → Lh → Rs (List D) := fun d acc h =>
  noexc ((t.as cx (wipe env own) d h).bind fun σ2 h => (c.ev cx σ2 h).bind fun b h => match b with
    | some b => (match truth h b with
      | some true => (e.ev cx σ2 h).bind fun x h => .ok (acc ++ [x]) h
      | some false => .ok acc h
      | none => .stuck)
    | none => (e.ev cx σ2 h).bind fun x h => .ok (acc ++ [x]) h)
/-- the part behind the iterator -/
def tLcB (g : L2.TG) (tt : L2.TT) (te : L2.TE) (vs : List Nat) (σ : L2.St) (Q : L2.VK) (J : L2.It) (H1 : Hp) : Prop :=
  ∀ D, H1 D = none → ∃ W : Nat → Nat → Hp → Prop, (∃ m, W 0 m (upd H1 D (.lst []))) ∧ ∀ i m H, W i m H →
    (J.stop i H ∧ Q (.ref D) H) ∨ (J.go i H ∧ ∃ Nx : Hp → Prop, (∀ H', Nx H' → ∃ m', m' < m ∧ W (i + 1) m' H') ∧ ∀ x H', J.yld i H x H' → g x (L2.wipe σ vs) H' fun σ2 H2 => L2.wipe σ2 vs = L2.wipe σ vs ∧ tt σ2 H2 fun b H3 =>
      if b = true then te σ2 H3 fun y H4 => ∃ acc, H4 D = some (.lst acc) ∧ acc.length < sizeLine ∧ Nx (upd H4 D (.lst (acc ++ [y]))) else Nx H3)
theorem comp_core {J : L2.It} {src : Sr} {n : Nat} {own : List Nat} {t : Tg} {c : Eo} {e : E} {fz : Bool} {Q : L2.VK} (R : Rl g ξ A α h env σ H) (hn : n ≤ lim) (hns : ∀ i ∈ t.nms, i ∈ own) (wk : Wk A α H src n J)
    (P : PostE g A α H σ W Q ((turns src (compStep cx env own t c e) n n [] h).bind fun ds h => fin fz (some (.l ds)) h)) :
    tLcB (vG g cx t) (tCond g cx c) (vE g WF cx e) own σ Q J H := by
  intro D₀ hD
  have fresh := R.h.fresh hD
  let A' : Av := fun a => A a ∨ a = D₀
  have qA : AvX A A' H := fun a m => m.elim .inl fun z => .inr (z ▸ hD)
  have lessA : ∀ a, A a → A' a := fun a m => .inl m
  have hA' : A' D₀ := .inr rfl
  refine ⟨fun i m H2 => ∃ α2 h2 acc accv, i ≤ n ∧ m = n - i ∧ Ext α H α2 H2 ∧ HRel A' α2 h2 H2 ∧ H2 D₀ = some (.lst accv) ∧ Reps A' α2 H2 acc accv ∧ acc.length ≤ i ∧
    PostE g A α H σ W Q ((turns src (compStep cx env own t c e) n (n - i) acc h2).bind fun ds h => fin fz (some (.l ds)) h), ⟨n, α, h, [], [], Nat.zero_le _, rfl, Ext.alloc hD, ?_, upd_same, .nil, Nat.le_refl _, P⟩, ?_⟩
  · have R0 := R.h.alloc (o := .lst []) hD
    refine ⟨R0.len, R0.nd, fun a m => ?_, fun i o q => ?_⟩
    · rcases m with m | m
      · exact R0.av a m
      · subst m; exact ⟨fresh.1, _, upd_same⟩
    · obtain ⟨a, ga, w⟩ := R.h.at_ i o q
      have hne : a ≠ D₀ := fun z => fresh.1 (z ▸ List.mem_of_getElem? ga)
      refine ⟨a, ga, w.imp (fun u z => by rw [upd_ne hne]; exact z) fun _ _ r => r.extA qA (Ext.alloc hD)⟩
  rintro i m H2 ⟨α2, h2, acc, accv, hi, rfl, e2, R2, hDv, racc, hal, P2⟩
  have RA2 : HRel A α2 h2 H2 := R2.less lessA
  have nD : D₀ ∉ α2 := (R2.av D₀ hA').1
  by_cases hlt : i < n
  · -- a turn
    obtain ⟨k, hk⟩ : ∃ k, n - i = k + 1 := ⟨n - i - 1, by omega⟩
    rw [hk] at P2
    have P2 : PostE g A α H σ W Q (((if src.len h2 = some n then match src.at h2 (n - (k + 1)) with
        | some d => (compStep cx env own t c e d acc h2).bind fun a h => turns src (compStep cx env own t c e) n k a h
        | none => .stuck
      else .stuck) : Rs (List D)).bind fun ds h => fin fz (some (.l ds)) h) := P2
    by_cases hl : src.len h2 = some n
    · rw [if_pos hl] at P2
      have hki : n - (k + 1) = i := by omega
      rw [hki] at P2
      refine .inr ⟨wk.go A' α2 h2 H2 i qA e2 R2 hl hlt, fun H3 => ∃ α2 h2 acc accv, Ext α H α2 H3 ∧ HRel A' α2 h2 H3 ∧ H3 D₀ = some (.lst accv) ∧ Reps A' α2 H3 acc accv ∧ acc.length ≤ i + 1 ∧
        PostE g A α H σ W Q ((turns src (compStep cx env own t c e) n k acc h2).bind fun ds h => fin fz (some (.l ds)) h), ?_, ?_⟩
      · rintro H3 ⟨α3, h3, acc3, accv3, w1, w2, w3, w4, w5, w6⟩
        exact ⟨k, by omega, α3, h3, acc3, accv3, by omega, by omega, w1, w2, w3, w4, w5, by rw [show n - (i + 1) = k by omega]; exact w6⟩
      · intro x H3 hy
        obtain ⟨d, hat, rd, R3, e3⟩ := wk.yld A' α2 h2 H2 i x H3 qA e2 R2 hl hlt hy
        rw [hat] at P2
        have P2 : PostE g A α H σ W Q (((compStep cx env own t c e d acc h2).bind fun a h => turns src (compStep cx env own t c e) n k a h).bind fun ds h => fin fz (some (.l ds)) h) := P2
        have hD3 := e3.keep _ _ hDv nD
        have E0 : ERel g ξ A' α2 H3 (TB.wipe env own) (L2.wipe σ own) := (R.e.extA qA (e2.trans e3)).wipe own
        refine ⟨ξ, A', α2, h2, TB.wipe env own, d, ⟨E0, R3, R.x⟩, rd, ?_⟩
        unfold compStep at P2
        cases q : t.as cx (TB.wipe env own) d h2 with
        | stuck => rw [q] at P2; exact P2
        | exc c' fs h3 => rw [q] at P2; exact P2
        | ok env3 h3 =>
          rw [q] at P2
          intro α3 H4 σ2 e4 R4 w4
          refine ⟨(w4 own hns).trans (wipe_wipe σ own), ?_⟩
          -- behind the test
          have yes : ∀ (α5 : List Addr) (h5 : Lh) (H5 : Hp), Ext α2 H3 α5 H5 → Rl g g.xi A' α5 h5 env3 σ2 H5 → PostE g A α H σ W Q (((noexc ((e.ev cx env3 h5).bind fun x h => .ok (acc ++ [x]) h)).bind fun a h => turns src (compStep cx env own t c e) n k a h).bind fun ds h => fin fz (some (.l ds)) h) →
              vE g WF cx e σ2 H5 fun y H6 => ∃ acc, H6 D₀ = some (.lst acc) ∧ acc.length < sizeLine ∧ ∃ α2 h2 acc' accv, Ext α H α2 (upd H6 D₀ (.lst (acc ++ [y]))) ∧ HRel A' α2 h2 (upd H6 D₀ (.lst (acc ++ [y]))) ∧ (upd H6 D₀ (.lst (acc ++ [y]))) D₀ = some (.lst accv) ∧ Reps A' α2 (upd H6 D₀ (.lst (acc ++ [y]))) acc' accv ∧ acc'.length ≤ i + 1 ∧
                PostE g A α H σ W Q ((turns src (compStep cx env own t c e) n k acc' h2).bind fun ds h => fin fz (some (.l ds)) h) := by
            intro α5 h5 H5 e5 R5 P5
            refine ⟨_, A', α5, h5, env3, R5, ?_⟩
            cases q5 : e.ev cx env3 h5 with
            | stuck => rw [q5] at P5; exact P5
            | exc c' fs h6 => rw [q5] at P5; exact fun _ _ _ _ _ _ => P5
            | ok y h6 =>
              rw [q5] at P5
              intro α6 H6 yv e6 R6 r6
              have ee := (e3.trans e5).trans e6
              have h6D := ee.keep _ _ hDv nD
              refine ⟨accv, h6D, ?_, α6, h6, acc ++ [y], accv ++ [yv], ((e2.trans ee)).updD hD, R6.updD hA', upd_same, ((racc.ext ee).append (.one r6)).updD hA', by simp; omega, P5⟩
              rw [← racc.length]
              exact lim_lt (Nat.lt_of_le_of_lt hal (Nat.lt_of_lt_of_le hlt hn))
          cases c with
          | no =>
            exact yes α3 h3 H4 e4 R4 P2
          | so mc =>
            refine ⟨_, A', α3, h3, env3, R4, ?_⟩
            cases q4 : mc.ev cx env3 h3 with
            | stuck =>
              have : (Eo.so mc).ev cx env3 h3 = .stuck := by show (mc.ev cx env3 h3).bind _ = _; rw [q4]; rfl
              have P2 : PostE g A α H σ W Q (((noexc (((Eo.so mc).ev cx env3 h3).bind fun b h => match b with
                | some b => (match truth h b with
                  | some true => (e.ev cx env3 h).bind fun x h => .ok (acc ++ [x]) h
                  | some false => .ok acc h
                  | none => .stuck)
                | none => (e.ev cx env3 h).bind fun x h => .ok (acc ++ [x]) h)).bind fun a h => turns src (compStep cx env own t (.so mc) e) n k a h).bind fun ds h => fin fz (some (.l ds)) h) := P2
              rw [this] at P2
              exact P2
            | exc c' fs h6 =>
              have : (Eo.so mc).ev cx env3 h3 = .exc c' fs h6 := by show (mc.ev cx env3 h3).bind _ = _; rw [q4]; rfl
              have P2 : PostE g A α H σ W Q (((noexc (((Eo.so mc).ev cx env3 h3).bind fun b h => match b with
                | some b => (match truth h b with
                  | some true => (e.ev cx env3 h).bind fun x h => .ok (acc ++ [x]) h
                  | some false => .ok acc h
                  | none => .stuck)
                | none => (e.ev cx env3 h).bind fun x h => .ok (acc ++ [x]) h)).bind fun a h => turns src (compStep cx env own t (.so mc) e) n k a h).bind fun ds h => fin fz (some (.l ds)) h) := P2
              rw [this] at P2
              exact fun _ _ _ _ _ _ => P2
            | ok b h4 =>
              have : (Eo.so mc).ev cx env3 h3 = .ok (some b) h4 := by show (mc.ev cx env3 h3).bind _ = _; rw [q4]; rfl
              have P2 : PostE g A α H σ W Q (((noexc (((Eo.so mc).ev cx env3 h3).bind fun b h => match b with
                | some b => (match truth h b with
                  | some true => (e.ev cx env3 h).bind fun x h => .ok (acc ++ [x]) h
                  | some false => .ok acc h
                  | none => .stuck)
                | none => (e.ev cx env3 h).bind fun x h => .ok (acc ++ [x]) h)).bind fun a h => turns src (compStep cx env own t (.so mc) e) n k a h).bind fun ds h => fin fz (some (.l ds)) h) := P2
              rw [this] at P2
              have P2 : PostE g A α H σ W Q (((noexc (match truth h4 b with
                  | some true => (e.ev cx env3 h4).bind fun x h => .ok (acc ++ [x]) h
                  | some false => .ok acc h4
                  | none => .stuck)).bind fun a h => turns src (compStep cx env own t (.so mc) e) n k a h).bind fun ds h => fin fz (some (.l ds)) h) := P2
              cases qb : truth h4 b with
              | none => rw [qb] at P2; exact False.elim P2
              | some bb =>
                rw [qb] at P2
                refine ⟨bb, qb, fun α5 H5 e5 R5 => ?_⟩
                cases bb with
                | true =>
                  rw [if_pos rfl]
                  exact yes α5 h4 H5 (e4.trans e5) (R4.step e5 R5) P2
                | false =>
                  rw [if_neg Bool.false_ne_true]
                  have ee := (e3.trans e4).trans e5
                  exact ⟨α5, h4, acc, accv, e2.trans ee, R5, ee.keep _ _ hDv nD, racc.ext ee, by omega, P2⟩
    · rw [if_neg hl] at P2; exact False.elim P2
  · -- the end
    have hin : i = n := by omega
    subst hin
    rw [Nat.sub_self] at P2
    have P2 : PostE g A α H σ W Q (((if src.len h2 = some i then .ok acc h2 else .stuck) : Rs (List D)).bind fun ds h => fin fz (some (.l ds)) h) := P2
    by_cases hl : src.len h2 = some i
    · rw [if_pos hl] at P2
      refine .inl ⟨wk.stop A' α2 h2 H2 qA e2 R2 hl, ?_⟩
      have nAD : ¬ A D₀ := fresh.2
      cases fz with
      | true =>
        exact P2 α2 H2 (.ref D₀) e2 RA2 (.lst nD nAD hDv (racc.less lessA))
      | false =>
        have eD : Ext α H (α2 ++ [D₀]) H2 := by
          obtain ⟨l, hl'⟩ := e2.pre
          refine ⟨⟨l ++ [D₀], by rw [hl']; simp⟩, fun b hb hnb => ?_, e2.keep⟩
          rcases List.mem_append.mp hb with hb | hb
          · exact e2.new b hb hnb
          · rw [List.mem_singleton.mp hb]; exact hD
        have hk : ∀ a u, a ∉ α2 → ¬ A' a → At H2 a u → a ∉ α2 ++ [D₀] ∧ ¬ A a ∧ At H2 a u := fun a u n1 n2 k =>
          ⟨fun m => (List.mem_append.mp m).elim n1 fun z => n2 (.inr (List.mem_singleton.mp z)), fun z => n2 (.inl z), k⟩
        have hr : ∀ (n : Nat) (a : Addr), α2[n]? = some a → (α2 ++ [D₀])[n]? = some a := fun n a g => by
          rw [List.getElem?_append_left (List.getElem?_eq_some_iff.mp g).1]; exact g
        have RR : HRel A (α2 ++ [D₀]) (h2 ++ [.lst acc]) H2 := by
          refine ⟨by simp [R2.len], ?_, fun a m => ⟨fun z => ?_, (RA2.av a m).2⟩, fun j u q => ?_⟩
          · rw [List.nodup_append]
            refine ⟨R2.nd, by simp, fun a ha b hb => ?_⟩
            rw [List.mem_singleton.mp hb]
            rintro rfl
            exact nD ha
          · rcases List.mem_append.mp z with z | z
            · exact (RA2.av a m).1 z
            · rw [List.mem_singleton.mp z] at m; exact nAD m
          · by_cases hj : j < h2.length
            · rw [List.getElem?_append_left hj] at q
              obtain ⟨a, ga, w⟩ := R2.at_ j u q
              exact ⟨a, hr _ _ ga, w.imp (fun u z => z) fun _ _ r => r.imp hr hk⟩
            · have hj' : j = h2.length := by
                have := (List.getElem?_eq_some_iff.mp q).1
                simp at this; omega
              subst hj'
              rw [List.getElem?_append_right (Nat.le_refl _)] at q
              simp at q; subst q
              exact ⟨D₀, by rw [← R2.len, List.getElem?_append_right (Nat.le_refl _)]; simp, accv, hDv, racc.imp hr hk⟩
        exact P2 (α2 ++ [D₀]) H2 (.ref D₀) eD RR (.ref (by rw [← R2.len, List.getElem?_append_right (Nat.le_refl _)]; simp))
    · rw [if_neg hl] at P2; exact False.elim P2
end
end TB

end

section
set_option Elab.async false
set_option linter.all false
set_option maxHeartbeats 1000000
namespace TB
open PySem L2

/-! ### under a lock -/
/-- what a tree's node may be -/
def Node : HO → Prop
  | .lst _ => True
  | .tup _ => True
  | .dK _ => True
  | _ => False
mutual
theorem Rep.imp2 {A A' : Av} {α α' : List Addr} {H H' : Hp} (hr : ∀ (n : Nat) (a : Addr), α[n]? = some a → α'[n]? = some a) (hk : ∀ a u, Node u → a ∉ α → ¬ A a → At H a u → a ∉ α' ∧ ¬ A' a ∧ At H' a u) :
    ∀ {d : D} {x : L2.V}, Rep A α H d x → Rep A' α' H' d x
  | _, _, .non => .non
  | _, _, .bl b => .bl b
  | _, _, .int i => .int i
  | _, _, .str s => .str s
  | _, _, .ref h => .ref (hr _ _ h)
  | _, _, .lst h1 h2 h3 h4 => let ⟨a, b, c⟩ := hk _ (.lst _) trivial h1 h2 h3; .lst a b c (Reps.imp2 hr hk h4)
  | _, _, .tup h1 h2 h3 h4 => let ⟨a, b, c⟩ := hk _ (.tup _) trivial h1 h2 h3; .tup a b c (Reps.imp2 hr hk h4)
  | _, _, .dct h1 h2 h3 h4 h5 => let ⟨a, b, c⟩ := hk _ (.dK _) trivial h1 h2 h3; .dct a b c h4 (Reps.imp2 hr hk h5)
theorem Reps.imp2 {A A' : Av} {α α' : List Addr} {H H' : Hp} (hr : ∀ (n : Nat) (a : Addr), α[n]? = some a → α'[n]? = some a) (hk : ∀ a u, Node u → a ∉ α → ¬ A a → At H a u → a ∉ α' ∧ ¬ A' a ∧ At H' a u) :
    ∀ {ds : List D} {xs : List L2.V}, Reps A α H ds xs → Reps A' α' H' ds xs
  | _, _, .nil => .nil
  | _, _, .cons h t => .cons (Rep.imp2 hr hk h) (Reps.imp2 hr hk t)
end
section
variable {A : Av} {α α' : List Addr} {h : Lh} {H H' : Hp} {q : Addr} {od : Obj} {kvs : List (L2.Key × L2.V)}
theorem At.lock (e : H q = some (.dK kvs)) {a : Addr} {u : HO} (n : Node u) (k : At H a u) : At (upd H q (.frz od (.dK kvs))) a u := by
  by_cases z : a = q
  · subst z
    cases u with
    | dK kvs' =>
      rcases (show Rd H a (.dK kvs') from k) with k | ⟨o, k⟩
      · rw [e] at k; cases k; exact .inr ⟨od, upd_same⟩
      · rw [e] at k; cases k
    | lst xs => rw [show H a = some (.lst xs) from k] at e; cases e
    | tup xs => rw [show H a = some (.tup xs) from k] at e; cases e
    | _ => exact n.elim
  · exact k.updD z
theorem At.unlock (e : H q = some (.frz od (.dK kvs))) {a : Addr} {u : HO} (n : Node u) (k : At H a u) : At (upd H q (.dK kvs)) a u := by
  by_cases z : a = q
  · subst z
    cases u with
    | dK kvs' =>
      rcases (show Rd H a (.dK kvs') from k) with k | ⟨o, k⟩
      · rw [e] at k; cases k
      · rw [e] at k; cases k; exact .inl upd_same
    | lst xs => rw [show H a = some (.lst xs) from k] at e; cases e
    | tup xs => rw [show H a = some (.tup xs) from k] at e; cases e
    | _ => exact n.elim
  · exact k.updD z
theorem HRel.move {H' : Hp} (R : HRel A α h H) (nq : q ∉ α) (hne : ∀ a, a ≠ q → H' a = H a) (hq : ∃ o, H' q = some o) (hk : ∀ a u, Node u → At H a u → At H' a u) : HRel A α h H' where
  len := R.len
  nd := R.nd
  av := fun a m => by
    obtain ⟨m1, u, e⟩ := R.av a m
    refine ⟨m1, ?_⟩
    by_cases z : a = q
    · subst z; exact hq
    · exact ⟨u, by rw [hne a z]; exact e⟩
  at_ := fun i o e => by
    obtain ⟨a, g, w⟩ := R.at_ i o e
    have z : a ≠ q := fun z => nq (z ▸ List.mem_of_getElem? g)
    exact ⟨a, g, w.imp (fun u y => by rw [hne a z]; exact y) fun _ _ r => r.imp2 (fun _ _ g => g) fun a u n m1 m2 k => ⟨m1, m2, hk a u n k⟩⟩
theorem HRel.lock (R : HRel A α h H) (nq : q ∉ α) (e : H q = some (.dK kvs)) : HRel A α h (upd H q (.frz od (.dK kvs))) :=
  R.move nq (fun a z => upd_ne z) ⟨_, upd_same⟩ fun a u n k => At.lock e n k
theorem HRel.unlock (R : HRel A α h H) (nq : q ∉ α) (e : H q = some (.frz od (.dK kvs))) : HRel A α h (upd H q (.dK kvs)) :=
  R.move nq (fun a z => upd_ne z) ⟨_, upd_same⟩ fun a u n k => At.unlock e n k
theorem Ext.unlock (e : Ext α (upd H q (.frz od (.dK kvs))) α' H') (hq : H q = some (.dK kvs)) (nq : q ∉ α) : Ext α H α' (upd H' q (.dK kvs)) := by
  refine ⟨e.pre, fun b hb n => ?_, fun a u k n => ?_⟩
  · have := e.new b hb n
    by_cases z : b = q
    · subst z; rw [upd_same] at this; cases this
    · rw [upd_ne z] at this; exact this
  · by_cases z : a = q
    · subst z; rw [hq] at k; cases k; exact upd_same
    · rw [upd_ne z]
      exact e.keep a u (by rw [upd_ne z]; exact k) n
theorem ERel.lock {g : G} {ξ : Xi} {env : Env} {σ : L2.St} (r : ERel g ξ A α H env σ) (e : H q = some (.dK kvs)) : ERel g ξ A α (upd H q (.frz od (.dK kvs))) env σ :=
  ⟨r.1, fun i d k => by
    obtain ⟨x, k, s⟩ := r.2 i d k
    have rr : ∀ {d : D} {x : L2.V}, Rep A α H d x → Rep A α (upd H q (.frz od (.dK kvs))) d x := fun r => r.imp2 (fun _ _ g => g) fun a u n m1 m2 k => ⟨m1, m2, At.lock e n k⟩
    refine ⟨x, k, ?_⟩
    cases s with
    | rep r => exact .rep (rr r)
    | exc k =>
      refine .exc fun e' h1 h2 => ?_
      obtain ⟨k1, k2, k3, hl, x⟩ := k e' h1 h2
      refine ⟨k1, k2, k3, hl, ?_⟩
      rcases x with x | ⟨dd, ps, h1, h2, h3, h4, h5⟩
      · exact .inl x
      · have z : dd ≠ q := fun z => by rw [z, e] at h4; cases h4
        exact .inr ⟨dd, ps, h1, h2, h3, by rw [upd_ne z]; exact h4, fun j f v a b => let ⟨x, k, r⟩ := h5 j f v a b; ⟨x, k, rr r⟩⟩⟩
theorem PostE.lock {g : G} {W : L2.WX} {σ : L2.St} {Q : L2.VK} {r : Rs D} (e : H q = some (.dK kvs)) (nq : q ∉ α) (nx : ∀ c fs h', r ≠ .exc c fs h') (P : PostE g A α H σ W Q r) :
    PostE g A α (upd H q (.frz od (.dK kvs))) σ W (fun v H' => H' q = some (.frz od (.dK kvs)) ∧ Q v (upd H' q (.dK kvs))) r := by
  cases r with
  | stuck => exact P
  | exc c fs h' => exact absurd rfl (nx c fs h')
  | ok d h' =>
    intro α1 H1 x e1 R1 r1
    have k := e1.keep q _ upd_same nq
    have nq1 : q ∉ α1 := e1.out upd_same nq
    exact ⟨k, P α1 _ x (e1.unlock e nq) (R1.unlock nq1 k) (r1.imp2 (fun _ _ g => g) fun a u n m1 m2 w => ⟨m1, m2, At.unlock k n w⟩)⟩
end
theorem turns_nx {src : Sr} {β : Type} {step : D → β → Lh → Rs β} (hs : ∀ d a h c fs h', step d a h ≠ .exc c fs h') {n : Nat} : ∀ (k : Nat) (a : β) (h : Lh) (c : Nat) (fs : List D) (h' : Lh), turns src step n k a h ≠ .exc c fs h'
  | 0, a, h, c, fs, h', e => by
    unfold turns at e
    split at e <;> cases e
  | k + 1, a, h, c, fs, h', e => by
    unfold turns at e
    split at e
    · split at e
      · rename_i d hd
        cases q : step d a h with
        | stuck => rw [q] at e; cases e
        | exc c2 fs2 h2 => exact hs _ _ _ _ _ _ q
        | ok a2 h2 => rw [q] at e; exact turns_nx hs k a2 h2 c fs h' e
      · cases e
    · cases e
theorem step_nx {cx : Cx} {env : Env} {own : List Nat} {t : Tg} {c : Eo} {e : E} (d : D) (a : List D) (h : Lh) (k : Nat) (fs : List D) (h' : Lh) : compStep cx env own t c e d a h ≠ .exc k fs h' := by
  unfold compStep noexc
  split
  · intro z; cases z
  · rename_i hne
    exact fun z => hne _ _ _ z

section
variable {X : L2.Cx} {g : G} {W : L2.WX} {cx : Cx} {pos : Pos}
theorem comp_read {own : List Nat} {t : Tg} {it : It} {c : Eo} {e : E} {fz : Bool} (hns : ∀ i ∈ t.nms, i ∈ own) (σ : L2.St) (H : Hp) (Q : L2.VK) (w : vE g W cx (.comp fz own t it c e) σ H Q) :
    tLc (vI g W cx it) (vG g cx t) (tCond g cx c) (vE g WF cx e) own σ H Q := by
  obtain ⟨ξ, A, α, h, env, R, P⟩ := w
  have P : PostE g A α H σ W Q ((it.ev cx env h).bind fun src h => match src.len h with
    | some n => if n ≤ lim then (turns src (compStep cx env own t c e) n n [] h).bind fun ds h => fin fz (some (.l ds)) h else .stuck
    | none => .stuck) := P
  show vI g W cx it σ H (tLcB (vG g cx t) (tCond g cx c) (vE g WF cx e) own σ Q)
  refine ⟨ξ, A, α, h, env, R, ?_⟩
  cases q : it.ev cx env h with
  | stuck => rw [q] at P; exact P
  | exc c' fs h1 => rw [q] at P; exact P
  | ok src h1 =>
    rw [q] at P
    have P : PostE g A α H σ W Q (match src.len h1 with
      | some n => if n ≤ lim then (turns src (compStep cx env own t c e) n n [] h1).bind fun ds h => fin fz (some (.l ds)) h else .stuck
      | none => .stuck) := P
    cases q2 : src.len h1 with
    | none => rw [q2] at P; exact False.elim P
    | some n =>
      rw [q2] at P
      dsimp only at P
      by_cases hn : n ≤ lim
      · rw [if_pos hn] at P
        exact ⟨n, q2, fun α1 H1 J e1 R1 wk => comp_core (R.step e1 R1) hn hns wk (PostE.mono P e1)⟩
      · rw [if_neg hn] at P; exact False.elim P
/-- what a comprehension's block asks for -/
structure BlkIn (X : L2.Cx) (g : G) (cx : Cx) (elt tg : Expr) (ifs : List Expr) (scope : Scope) (own : List Nat) (t : Tg) (c : Eo) (e : E) : Prop where
  calm : X.calm = true
  nd : X.N.Nodup
  ok : ∃ ownp : List (Str × Nat), BlkOk X.N X.env.scope scope ownp ∧ ownp.map (·.2) = own
  nms : ∀ i ∈ t.nms, i ∈ own
  tg : ∀ (s : Shared) (H : Hp) (C : Addr) (cl : List (Str × Addr)) (fp : List Addr), PG (X.blk s H scope (compEnvC scope cl C X.env) fp) tg (vG g cx t)
  ts : ∀ (s : Shared) (H : Hp) (C : Addr) (cl : List (Str × Addr)) (fp : List Addr), PTs (X.blk s H scope (compEnvC scope cl C X.env) fp) ifs (tCond g cx c)
  el : ∀ (s : Shared) (H : Hp) (C : Addr) (cl : List (Str × Addr)) (fp : List Addr), PE (X.blk s H scope (compEnvC scope cl C X.env) fp) elt (vE g WF cx e)
/-- no set display is walked -/
def notSet : Expr → Bool
  | .Set _ _ _ => false
  | _ => true
theorem notSet_ok {iter : Expr} {env : PySem.Env} (h : notSet iter = true) (x : Value) : foldedSetIterable iter env x = pure x := by
  cases iter <;> first | rfl | cases h
theorem s_comp {fz : Bool} {elt tg iter : Expr} {ifs : List Expr} {scope : Scope} {own : List Nat} {t : Tg} {it : It} {c : Eo} {e : E} (b : BlkIn X g cx elt tg ifs scope own t c e) (hi : PI X tg iter (vI g W cx it)) (hs : notSet iter = true) :
    PE X (.ListComp elt [⟨tg, iter, ifs, 0⟩] scope pos) (vE g W cx (.comp fz own t it c e)) := by
  obtain ⟨ownp, ok, rfl⟩ := b.ok
  exact weakE (pe_lc b.calm b.nd hi ok b.tg b.ts b.el (notSet_ok hs)) (comp_read b.nms)
/-- the keys of a dict that a name bears -/
theorem s_compK {fz : Bool} {elt tg : Expr} {ifs : List Expr} {scope : Scope} {own : List Nat} {t : Tg} {i : Nat} {c : Eo} {e : E} {x : Str} {p : Pos} (b : BlkIn X g cx elt tg ifs scope own t c e) (hN : X.N[i]? = some x) (hv : Vis X.env.scope x) (hd : (x == ("__debug__" : Str)) = false) (hcd : (x == ("__classdict__" : Str)) = false) :
    PE X (.ListComp elt [⟨tg, .Name x p, ifs, 0⟩] scope pos) (vE g W cx (.comp fz own t (.ks i) c e)) := by
  obtain ⟨ownp, ok, rfl⟩ := b.ok
  have base := pe_lc (pos := pos) b.calm b.nd (pi_keys (tg := tg) (pe_var (pos := p) hN hv hd hcd)) ok b.tg b.ts b.el (notSet_ok rfl)
  refine weakE (orE (pe_lock base) base) fun σ H Q w => ?_
  obtain ⟨ξ, A, α, h, env, R, P⟩ := w
  have P : PostE g A α H σ W Q ((match getV env i with
    | some (.dct ks _) => Rs.ok (Sr.keys ks) h
    | _ => .stuck).bind fun src h => match src.len h with
      | some n => if n ≤ lim then (turns src (compStep cx env (ownp.map fun p : Str × Nat => p.2) t c e) n n [] h).bind fun ds h => fin fz (some (.l ds)) h else .stuck
      | none => .stuck) := P
  cases q : getV env i with
  | none => rw [q] at P; exact False.elim P
  | some d =>
    rw [q] at P
    cases d with
    | dct ks ds =>
      have P : PostE g A α H σ W Q (if ks.length ≤ lim then (turns (.keys ks) (compStep cx env (ownp.map fun p : Str × Nat => p.2) t c e) ks.length ks.length [] h).bind fun ds h => fin fz (some (.l ds)) h else .stuck) := P
      by_cases hn : ks.length ≤ lim
      · rw [if_pos hn] at P
        have qe : env[i]? = some (some (.dct ks ds)) := by
          unfold getV at q
          split at q
          · cases q
          · cases q; assumption
          · cases q
        obtain ⟨xv, hx, sr⟩ := R.e.2 i _ qe
        cases sr with
        | rep r =>
          cases r with
          | @dct _ _ a kvs h1 h2 h3 h4 h5 =>
            have hl : kvs.length = ks.length := by rw [← h4, List.length_map]
            rcases (show Rd H a (.dK kvs) from h3) with hq | ⟨od, hq⟩
            · refine .inl ⟨a, _, hq, trivial, fun od => ?_⟩
              have RL : Rl g ξ A α h env σ (upd H a (.frz od (.dK kvs))) := ⟨R.e.lock hq, R.h.lock h1 hq, R.x⟩
              refine ⟨_, hx, a, od, rfl, .inl ⟨kvs, upd_same, ?_⟩⟩
              subst h4
              refine comp_core RL hn b.nms (wk_keys upd_same h1) (PostE.lock hq h1 (fun c' fs h' z => ?_) P)
              cases q2 : turns (.keys (kvs.map (·.1))) (compStep cx env (ownp.map fun p : Str × Nat => p.2) t c e) (kvs.map (·.1)).length (kvs.map (·.1)).length [] h with
              | stuck => rw [q2] at z; cases z
              | exc c2 fs2 h2 => exact turns_nx step_nx _ _ _ _ _ _ q2
              | ok r2 h2 =>
                rw [q2] at z
                cases z
            · refine .inr ⟨_, hx, a, od, rfl, .inl ⟨kvs, hq, ?_⟩⟩
              subst h4
              exact comp_core R hn b.nms (wk_keys hq h1) P
      · rw [if_neg hn] at P; exact False.elim P
    | _ => exact False.elim P
end
end TB

end

section
set_option Elab.async false
set_option linter.all false
set_option maxHeartbeats 1000000
namespace TB
open PySem L2

/-! ### how many are apart -/
theorem dedI_mem {x : Int} : ∀ {l : List Int}, x ∈ dedI l ↔ x ∈ l
  | [] => by simp [dedI]
  | i :: r => by
    unfold dedI
    by_cases h : i ∈ r
    · rw [if_pos h, dedI_mem]
      constructor
      · exact fun z => List.mem_cons_of_mem _ z
      · intro z
        rcases List.mem_cons.mp z with z | z
        · rw [z]; exact h
        · exact z
    · rw [if_neg h, List.mem_cons, List.mem_cons, dedI_mem]
theorem dedI_nodup : ∀ l : List Int, (dedI l).Nodup
  | [] => .nil
  | i :: r => by
    unfold dedI
    by_cases h : i ∈ r
    · rw [if_pos h]; exact dedI_nodup r
    · rw [if_neg h]; exact List.nodup_cons.mpr ⟨fun z => h (dedI_mem.mp z), dedI_nodup r⟩
theorem dedI_le : ∀ l : List Int, (dedI l).length ≤ l.length
  | [] => Nat.le_refl _
  | i :: r => by
    unfold dedI
    split
    · exact Nat.le_succ_of_le (dedI_le r)
    · exact Nat.succ_le_succ (dedI_le r)
theorem count_of {l ks : List Int} (hn : ks.Nodup) (hm : ∀ x, x ∈ ks ↔ x ∈ l) : ks.length = (dedI l).length :=
  List.Perm.length_eq ((List.perm_ext_iff_of_nodup hn (dedI_nodup l)).mpr fun x => (hm x).trans dedI_mem.symm)
theorem fold_dedup (l : List Int) : ∀ acc : List Int, acc.Nodup → (l.foldl PyProof.Rows.step_dedup acc).Nodup ∧ ∀ x, x ∈ l.foldl PyProof.Rows.step_dedup acc ↔ x ∈ acc ∨ x ∈ l := by
  induction l with
  | nil => intro acc h; exact ⟨h, fun x => by simp⟩
  | cons i r ih =>
    intro acc h
    rw [List.foldl_cons]
    have st : PyProof.Rows.step_dedup acc i = if acc.any (· == i) then acc else acc ++ [i] := rfl
    by_cases hi : i ∈ acc
    · have e : PyProof.Rows.step_dedup acc i = acc := by
        have z : (acc.any fun x => x == i) = true := List.any_eq_true.mpr ⟨i, hi, beq_self_eq_true i⟩
        rw [st, if_pos z]
      rw [e]
      refine ⟨(ih acc h).1, fun x => ?_⟩
      rw [(ih acc h).2 x, List.mem_cons]
      constructor
      · exact fun z => z.elim .inl fun z => .inr (.inr z)
      · rintro (z | z | z)
        · exact .inl z
        · rw [z]; exact .inl hi
        · exact .inr z
    · have e : PyProof.Rows.step_dedup acc i = acc ++ [i] := by
        rw [st, if_neg (fun z => by
          obtain ⟨y, hy, e⟩ := List.any_eq_true.mp z
          rw [eq_of_beq e] at hy
          exact hi hy)]
      rw [e]
      have hn : (acc ++ [i]).Nodup := by
        rw [List.nodup_append]
        refine ⟨h, by simp, fun a ha b hb => ?_⟩
        rw [List.mem_singleton.mp hb]
        rintro rfl
        exact hi ha
      refine ⟨(ih _ hn).1, fun x => ?_⟩
      rw [(ih _ hn).2 x]
      rw [List.mem_append, List.mem_singleton, List.mem_cons, or_assoc]
theorem range_getD (l : List Int) : (List.range l.length).map (fun i => l.getD i 0) = l := by
  apply List.ext_getElem?
  intro i
  rw [List.getElem?_map]
  by_cases h : i < l.length
  · rw [List.getElem?_range h]
    simp [List.getD_eq_getElem?_getD, List.getElem?_eq_getElem h]
  · rw [List.getElem?_eq_none (by simpa using h), List.getElem?_eq_none (by simpa using h)]
    rfl
theorem firstMet_count (l : List Int) : (PyProof.Rows.firstMet (fun i => l.getD i 0) l.length).length = (dedI l).length := by
  unfold PyProof.Rows.firstMet
  rw [range_getD]
  obtain ⟨h1, h2⟩ := fold_dedup l [] .nil
  exact count_of h1 fun x => (h2 x).trans (by simp)

section
variable {X : L2.Cx} {g : G} {W : L2.WX} {cx : Cx} {pos : Pos}
variable {ξ : Xi} {A : Av} {α : List Addr} {h : Lh} {env : Env} {σ : L2.St} {H : Hp}
/-- len(set(x)): whole numbers in a list or a tuple -/
theorem pe_many {e : Expr} {t : L2.TE} {p p2 q : Pos} (hc : X.calm = true) (hg : Gl X "len") (hm : X.mg "len" = none) (hg2 : Gl X "set") (hm2 : X.mg "set" = none) (he : PE X e t) (hs : notStar e = true) :
    PE X (.Call (.Name "len" p) [.Call (.Name "set" p2) [e] [] q] [] pos) fun σ H Q => t σ H fun x H1 => ∃ (l : Addr) (ns : List Int), x = .ref l ∧ (SqL X.K H1 l (ns.map V.int) ∨ SqT X.K H1 l (ns.map V.int)) ∧ ns.length ≤ 4000 ∧ Q (.int ((dedI ns).length : Nat)) H1 := by
  refine ⟨fun pins s σ H Q I w => PyProof.Rows.Call_ (ld_blt I hg hm boot_len (PyProof.Rows.callWith_builtin1 (PyProof.Rows.args_cons ?_ rfl) rfl rfl))⟩
  refine PyProof.Rows.Call_ (ld_blt I hg2 hm2 PyProof.Rows.boot_set (PyProof.Rows.callWith_type1 (PyProof.Rows.args_cons (thn (he.run pins s σ H _ I w) fun v s1 hv => PyProof.Rows.args_nil ?_) (star_ok hs)) (star_ok hs) rfl))
  obtain ⟨x, H1, I1, rv, l, ns, rfl, hq, hl, qq⟩ := hv
  cases rv
  have small : (dedI ns).length ≤ 4000 := by
    have := dedI_le ns
    omega
  rcases hq with hq | hq
  · obtain ⟨its, r, pl, hz⟩ := I1.list hq
    have hlen : its.toArray.size = ns.length := by rw [List.size_toArray, ← r.length, List.length_map]
    refine PySem.call_set_list (I1.ok.hd hc) pl.isList (by simpa using RZ.intsAre_vals r) (by rw [hlen]; unfold scanBound; omega) fun h' tk hS hk => PyProof.Rows.args_nil ?_
    rw [hlen] at hS
    obtain ⟨o, es, ep, tt, ho, hex, hd, _, _, _, hf, hn⟩ := hS
    rw [firstMet_count] at hn
    have I2 : Inv X pins σ H1 { s1 with heap := h', toks := tk } := I1.kept fun b o e => hk b o (Heap.lt_size e) e
    exact PySem.call_len_set ho hex hd hf (by rw [hn]; omega) ⟨.int (dedI ns).length, H1, I2.tok _, ⟨_, by rw [hn]⟩, qq⟩
  · obtain ⟨its, r, pl, hz⟩ := I1.tuple hq
    refine call_set_tupI ns (I1.ok.hd hc) (show s1.heap.IsTuple l its.toArray from pl) (by simpa using RZ.intsAre_vals r) (by unfold scanBound; omega) fun h' tk c hS hc2 hk => PyProof.Rows.args_nil ?_
    obtain ⟨o, es, ep, tt, ho, hex, hd, _, hnd, hmem, _, hf, hn, _⟩ := hS
    have hn2 : es.size = (dedI ns).length := by
      rw [← count_of (l := ns) hnd fun k => by rw [← hmem k]; exact decide_eq_true_iff, List.length_map, Array.length_toList]
    have I2 : Inv X pins σ H1 { s1 with heap := h', toks := tk } := I1.kept hk
    exact PySem.call_len_set ho hex hd hf (by rw [hn2]; omega) ⟨.int (dedI ns).length, H1, I2.tok _, ⟨_, by rw [hn2]⟩, qq⟩
theorem ints_rep : ∀ {ds : List D} {is : List Int} {xs : List L2.V}, intsOf ds = some is → Reps A α H ds xs → xs = is.map V.int
  | [], _, _, e, r => by cases e; cases r; rfl
  | d :: ds, is, xs, e, r => by
    obtain ⟨i, e1, e2⟩ := Option.bind_eq_some_iff.mp (show (asInt d).bind (fun i => (intsOf ds).map (i :: ·)) = some is from e)
    obtain ⟨is', e3, rfl⟩ := Option.map_eq_some_iff.mp e2
    cases r with
    | cons r1 r2 =>
      cases d with
      | int j => cases e1; cases r1; rw [ints_rep e3 r2]; rfl
      | _ => cases e1
theorem s_lenset {fz : Bool} {e : Expr} {m : E} {p p2 q : Pos} (hc : X.calm = true) (hg : Gl X "len") (hm : X.mg "len" = none) (hg2 : Gl X "set") (hm2 : X.mg "set" = none) (he : PE X e (vE g W cx m)) (hs : notStar e = true) :
    PE X (.Call (.Name "len" p) [.Call (.Name "set" p2) [e] [] q] [] pos) (vE g W cx (.bi1 .lenset fz m)) := by
  refine weakE (pe_many hc hg hm hg2 hm2 he hs) fun σ H Q ⟨ξ, A, α, h, env, R, P⟩ => ?_
  have P : PostE g A α H σ W Q ((m.ev cx env h).bind fun x h => fin fz (setF h (fun is => .v (.int (dedI is).length)) x) h) := P
  refine vE_bind R P fun d h1 α1 H1 x e1 R1 r1 P1 => ?_
  have P1 : PostE g A α1 H1 σ W Q (fin fz (match vw h1 d with
    | some (_, ds) => if ds.length ≤ 4000 then match intsOf ds with
        | some is => some (.v (.int (dedI is).length))
        | none => none
      else none
    | none => none) h1) := P1
  cases e2 : vw h1 d with
  | none => rw [e2] at P1; exact False.elim P1
  | some pr =>
    obtain ⟨k, ds⟩ := pr
    rw [e2] at P1
    dsimp only at P1
    by_cases hl : ds.length ≤ 4000
    · rw [if_pos hl] at P1
      cases e3 : intsOf ds with
      | none => rw [e3] at P1; exact False.elim P1
      | some is =>
        rw [e3] at P1
        have fin_ : Q (.int ((dedI is).length : Nat)) H1 := PostE.here (d := .int (dedI is).length) P1 R1.h (.int _)
        cases k with
        | false =>
          obtain ⟨a, xs, rfl, hq, rs⟩ := vw_list R1.h r1 e2
          have ex := ints_rep e3 rs
          subst ex
          exact ⟨a, is, rfl, .inl (.inl hq), by rw [← List.length_map (f := V.int), ← rs.length]; exact hl, fin_⟩
        | true =>
          obtain ⟨a, xs, rfl, hq, rs⟩ := vw_tup R1.h r1 e2
          have ex := ints_rep e3 rs
          subst ex
          exact ⟨a, is, rfl, .inr (.inl (.inl hq)), by rw [← List.length_map (f := V.int), ← rs.length]; exact hl, fin_⟩
    · rw [if_neg hl] at P1; exact False.elim P1

/-! ### displays of dicts -/
def kyV : Ky → L2.V
  | .inl i => .int i
  | .inr s => .str s
def tKy (k : Ky) : L2.TE := fun _ H Q => Q (kyV k) H
def trsOf (g : G) (W : L2.WX) (cx : Cx) : List Ky → Es → List (L2.TE × L2.TE)
  | k :: ks, .cons m ms => (tKy k, vE g W cx m) :: trsOf g W cx ks ms
  | _, _ => []
theorem pk_str {x : Str} {k : Option Nat ⊕ Nat} {n} : PE X (.Constant (.str x) n pos) (tKy (.inr x)) := weakE pe_str fun σ H Q w => w
theorem pk_int {i : Int} {n} : PE X (.Constant (.int i) n pos) (tKy (.inl i)) := weakE pe_int fun σ H Q w => w
theorem pairs_read : ∀ (ks : List Ky) (ms : Es) (σ : L2.St) (H : Hp) (Q : List L2.V → Hp → Prop), ks.length = ms.len → vA g W cx ms σ H Q → tPairs (trsOf g W cx ks ms) σ H fun ps H' => ∃ xs, ps = (ks.map kyV).zip xs ∧ xs.length = ks.length ∧ Q xs H'
  | [], .nil, σ, H, Q, _, w => ⟨[], rfl, rfl, vA_nil w⟩
  | [], .cons _ _, _, _, _, e, _ => by cases e
  | _ :: _, .nil, _, _, _, e, _ => by cases e
  | k :: ks, .cons m ms, σ, H, Q, e, w => by
    have hl : ks.length = ms.len := Nat.succ.inj e
    have w := vA_cons w
    have imp : ∀ {R R' : L2.V → Hp → Prop}, (∀ x H, R x H → R' x H) → vE g W cx m σ H R → vE g W cx m σ H R' := by
      rintro R R' hi ⟨ξ, A, α, h, env, RR, P⟩
      refine ⟨ξ, A, α, h, env, RR, ?_⟩
      cases q : m.ev cx env h with
      | stuck => rw [q] at P; exact P
      | exc c fs h1 => rw [q] at P; exact P
      | ok d h1 => rw [q] at P; exact fun α1 H1 x e1 R1 r1 => hi _ _ (P α1 H1 x e1 R1 r1)
    have mono : ∀ (trs : List (L2.TE × L2.TE)) {σ : L2.St} {H : Hp} {R R' : List (L2.V × L2.V) → Hp → Prop}, True := fun _ _ _ _ _ => trivial
    show vE g W cx m σ H fun y H2 => tPairs (trsOf g W cx ks ms) σ H2 fun ps H3 => ∃ xs, (kyV k, y) :: ps = ((k :: ks).map kyV).zip xs ∧ xs.length = (k :: ks).length ∧ Q xs H3
    refine imp (fun y H2 w2 => ?_) w
    have w3 := pairs_read ks ms σ H2 (fun ys H3 => Q (y :: ys) H3) hl w2
    refine tp_imp ks ms (fun ps H3 h3 => ?_) w3
    obtain ⟨xs, rfl, hx, q⟩ := h3
    exact ⟨y :: xs, rfl, by simp [hx], q⟩
where
  tp_imp : ∀ (ks : List Ky) (ms : Es) {σ : L2.St} {H : Hp} {R R' : List (L2.V × L2.V) → Hp → Prop}, (∀ ps H, R ps H → R' ps H) → tPairs (trsOf g W cx ks ms) σ H R → tPairs (trsOf g W cx ks ms) σ H R'
    | [], .nil, σ, H, R, R', hi, w => hi _ _ w
    | [], .cons _ _, σ, H, R, R', hi, w => hi _ _ w
    | _ :: _, .nil, σ, H, R, R', hi, w => hi _ _ w
    | k :: ks, .cons m ms, σ, H, R, R', hi, w => by
      have w : vE g W cx m σ H fun y H2 => tPairs (trsOf g W cx ks ms) σ H2 fun ps H3 => R ((kyV k, y) :: ps) H3 := w
      obtain ⟨ξ, A, α, h, env, RR, P⟩ := w
      show vE g W cx m σ H fun y H2 => tPairs (trsOf g W cx ks ms) σ H2 fun ps H3 => R' ((kyV k, y) :: ps) H3
      refine ⟨ξ, A, α, h, env, RR, ?_⟩
      cases q : m.ev cx env h with
      | stuck => rw [q] at P; exact P
      | exc c fs h1 => rw [q] at P; exact P
      | ok d h1 => rw [q] at P; exact fun α1 H1 x e1 R1 r1 => tp_imp ks ms (fun ps H3 z => hi _ _ z) (P α1 H1 x e1 R1 r1)
theorem zip_kvs : ∀ (ks : List Ky) (xs : List L2.V), xs.length = ks.length → (ks.map kyV).zip xs = (ks.zip xs).map fun kv : L2.Key × L2.V => (kV kv.1, kv.2)
  | [], [], _ => rfl
  | [], _ :: _, e => by cases e
  | _ :: _, [], e => by cases e
  | k :: ks, x :: xs, e => by
    rw [List.map_cons, List.zip_cons_cons, List.zip_cons_cons, List.map_cons, zip_kvs ks xs (Nat.succ.inj e)]
    cases k <;> rfl
theorem putK_fresh {kvs : List (L2.Key × L2.V)} {k : L2.Key} {v : L2.V} (h : k ∉ kvs.map (·.1)) : putK kvs k v = kvs ++ [(k, v)] := by
  unfold putK
  rw [if_neg]
  intro z
  obtain ⟨p, hp, e⟩ := List.any_eq_true.mp z
  exact h (List.mem_map.mpr ⟨p, hp, of_decide_eq_true e⟩)
theorem merge_fresh : ∀ (more kvs : List (L2.Key × L2.V)), (kvs.map (·.1) ++ more.map (·.1)).Nodup → mergeK kvs more = kvs ++ more
  | [], kvs, _ => (List.append_nil kvs).symm
  | p :: r, kvs, h => by
    show mergeK (putK kvs p.1 p.2) r = _
    have hk : p.1 ∉ kvs.map (·.1) := fun m => by
      rw [List.nodup_append] at h
      exact h.2.2 _ m _ List.mem_cons_self rfl
    rw [putK_fresh hk, merge_fresh r (kvs ++ [p])]
    · simp
    · simpa using h
theorem s_dct0 {fz : Bool} : PE X (.Dict [] [] pos) (vE g W cx (.dct fz [] .nil)) := by
  refine weakE pe_dnewK fun σ H Q ⟨ξ, A, α, h, env, R, P⟩ p hp => ?_
  have P : PostE g A α H σ W Q (fin fz (some (.d [] [])) h) := P
  cases fz with
  | true => exact P α _ _ (Ext.alloc hp) (R.h.alloc hp) (.dct (R.h.fresh hp).1 (R.h.fresh hp).2 (.inl upd_same) rfl .nil)
  | false =>
    refine P (α ++ [p]) _ _ (Ext.push hp) (R.h.push (o' := .dct [] []) hp ⟨[], upd_same, rfl, .nil⟩) (.ref ?_)
    rw [← R.h.len, List.getElem?_append_right (Nat.le_refl _)]; simp
theorem s_dct {fz : Bool} {keys : List (Option Expr)} {values : List Expr} {ks : List Ky} {ms : Es} (hp : PPs X pos keys values (trsOf g W cx ks ms)) (hall : keys.all (·.isSome) = true) (hl : keys.length = values.length) (h0 : keys ≠ []) (h15 : keys.length ≤ 15)
    (hk : ks.length = ms.len) (hkl : ks.length ≤ 15) (hnd : ks.Nodup) : PE X (.Dict keys values pos) (vE g W cx (.dct fz ks ms)) := by
  refine weakE (pe_disp hp hall hl h0 h15) fun σ H Q ⟨ξ, A, α, h, env, R, P⟩ q hq => ?_
  have P : PostE g A α H σ W Q ((ms.ev cx env h).bind fun ys h => if ks.length = ys.length then fin fz (some (.d ks ys)) h else .stuck) := P
  have fresh := R.h.fresh hq
  let A' : Av := fun a => A a ∨ a = q
  have qA : AvX A A' H := fun a m => m.elim .inl fun z => .inr (z ▸ hq)
  have lessA : ∀ a, A a → A' a := fun a m => .inl m
  have hA' : A' q := .inr rfl
  have e0 := Ext.alloc (α := α) (o := .dK []) hq
  have R0 := R.h.alloc (o := .dK []) hq
  have RA : HRel A' α h (upd H q (.dK [])) := ⟨R0.len, R0.nd, fun a m => by
    rcases m with m | m
    · exact R0.av a m
    · subst m; exact ⟨fresh.1, _, upd_same⟩, fun i o e => by
    obtain ⟨a, ga, w⟩ := R.h.at_ i o e
    have hne : a ≠ q := fun z => fresh.1 (z ▸ List.mem_of_getElem? ga)
    exact ⟨a, ga, w.imp (fun u z => by rw [upd_ne hne]; exact z) fun _ _ r => r.extA qA e0⟩⟩
  have w : vA g W cx ms σ (upd H q (.dK [])) fun xs H2 => H2 q = some (.dK []) ∧ (xs.length = ks.length → Q (.ref q) (upd H2 q (.dK (ks.zip xs)))) := by
    refine ⟨ξ, A', α, h, env, ⟨R.e.extA qA e0, RA, R.x⟩, ?_⟩
    cases q2 : ms.ev cx env h with
    | stuck => rw [q2] at P; exact P
    | exc c fs h1 =>
      rw [q2] at P
      intro α1 H1 d e1 R1 x1
      have lessX : XDict g A α1 H1 c fs d := by
        obtain ⟨hl, x1⟩ := x1
        refine ⟨hl, ?_⟩
        rcases x1 with x1 | ⟨dd, ps, h1, h2, h3, h4, h5⟩
        · exact .inl x1
        · exact .inr ⟨dd, ps, h1, h2, fun z => h3 (.inl z), h4, fun j f v a b => let ⟨x, k, r⟩ := h5 j f v a b; ⟨x, k, r.imp (fun _ _ g => g) fun a u n m k => ⟨n, fun z => m (.inl z), k⟩⟩⟩
      exact P α1 H1 d (e0.trans e1) (R1.less lessA) lessX
    | ok ys h1 =>
      rw [q2] at P
      intro α1 H1 xs e1 R1 r1
      have nq : q ∉ α1 := (R1.av q hA').1
      refine ⟨e1.keep q _ upd_same fresh.1, fun hx => ?_⟩
      have P : PostE g A α H σ W Q (if ks.length = ys.length then fin fz (some (.d ks ys)) h1 else .stuck) := P
      rw [if_pos (by rw [r1.length, hx])] at P
      have e2 : Ext α H α1 (upd H1 q (.dK (ks.zip xs))) := (e0.trans e1).updD hq
      have R2 : HRel A' α1 h1 (upd H1 q (.dK (ks.zip xs))) := R1.updD hA'
      have r2 : Reps A' α1 (upd H1 q (.dK (ks.zip xs))) ys xs := r1.updD hA'
      have m1 : (ks.zip xs).map (·.1) = ks := by
        rw [List.map_fst_zip]; omega
      have m2 : (ks.zip xs).map (·.2) = xs := by
        rw [List.map_snd_zip]; omega
      have nAq : ¬ A q := fresh.2
      cases fz with
      | true => exact P α1 _ (.ref q) e2 (R2.less lessA) (.dct nq nAq (.inl upd_same) m1 (by rw [m2]; exact r2.less lessA))
      | false =>
        have hk : ∀ a u, a ∉ α1 → ¬ A' a → At (upd H1 q (.dK (ks.zip xs))) a u → a ∉ α1 ++ [q] ∧ ¬ A a ∧ At (upd H1 q (.dK (ks.zip xs))) a u := fun a u n1 n2 k =>
          ⟨fun m => (List.mem_append.mp m).elim n1 fun z => n2 (.inr (List.mem_singleton.mp z)), fun z => n2 (.inl z), k⟩
        have hr : ∀ (n : Nat) (a : Addr), α1[n]? = some a → (α1 ++ [q])[n]? = some a := fun n a g => by
          rw [List.getElem?_append_left (List.getElem?_eq_some_iff.mp g).1]; exact g
        have RR : HRel A (α1 ++ [q]) (h1 ++ [.dct ks ys]) (upd H1 q (.dK (ks.zip xs))) := by
          refine ⟨by simp [R2.len], ?_, fun a m => ⟨fun z => ?_, (R2.av a (.inl m)).2⟩, fun j u qj => ?_⟩
          · rw [List.nodup_append]
            refine ⟨R2.nd, by simp, fun a ha b hb => ?_⟩
            rw [List.mem_singleton.mp hb]
            rintro rfl
            exact nq ha
          · rcases List.mem_append.mp z with z | z
            · exact (R2.av a (.inl m)).1 z
            · rw [List.mem_singleton.mp z] at m; exact nAq m
          · by_cases hj : j < h1.length
            · rw [List.getElem?_append_left hj] at qj
              obtain ⟨a, ga, w⟩ := R2.at_ j u qj
              exact ⟨a, hr _ _ ga, w.imp (fun u z => z) fun _ _ r => r.imp hr hk⟩
            · have hj' : j = h1.length := by
                have := (List.getElem?_eq_some_iff.mp qj).1
                simp at this; omega
              subst hj'
              rw [List.getElem?_append_right (Nat.le_refl _)] at qj
              simp at qj; subst qj
              exact ⟨q, by rw [← R2.len, List.getElem?_append_right (Nat.le_refl _)]; simp, _, upd_same, m1, by rw [m2]; exact r2.imp hr hk⟩
        have eD : Ext α H (α1 ++ [q]) (upd H1 q (.dK (ks.zip xs))) := by
          obtain ⟨l, hl'⟩ := e2.pre
          refine ⟨⟨l ++ [q], by rw [hl']; simp⟩, fun b hb hnb => ?_, e2.keep⟩
          rcases List.mem_append.mp hb with hb | hb
          · exact e2.new b hb hnb
          · rw [List.mem_singleton.mp hb]; exact hq
        exact P (α1 ++ [q]) _ (.ref q) eD RR (.ref (by rw [← R2.len, List.getElem?_append_right (Nat.le_refl _)]; simp))
  refine pairs_read.tp_imp ks ms (fun ps H3 h3 => ?_) (pairs_read ks ms σ _ _ hk w)
  obtain ⟨xs, rfl, hx, k1, k2⟩ := h3
  refine ⟨k1, ks.zip xs, zip_kvs ks xs hx, ?_, ?_⟩
  · rw [List.length_zip]; omega
  · have m1 : (ks.zip xs).map (·.1) = ks := by rw [List.map_fst_zip]; omega
    rw [merge_fresh (ks.zip xs) [] (by rw [List.map_nil, List.nil_append, m1]; exact hnd), List.nil_append]
    exact k2 hx
end
end TB

end

section
set_option Elab.async false
set_option linter.all false
set_option maxRecDepth 100000
set_option maxHeartbeats 4000000

/-! ### own exception classes over Exception, with an __init__ that stores fields -/
namespace TB
open PySem PySem.W PySem.Calls PyProof.Rows PySem.HandSPX
abbrev exT : List Value := [.type "Exception", .type "BaseException", .type "object"]
/-- own classes, then Exception's row -/
def refsEx : List Value → Bool
  | .ref _ :: r => refsEx r
  | l => l == exT
theorem refsEx_of {l : List Value} (h : refsEx l = true) : (∃ c r, l = .ref c :: r ∧ refsEx r = true) ∨ l = exT := by
  unfold refsEx at h
  split at h
  · exact .inl ⟨_, _, rfl, h⟩
  · exact .inr (beq_iff_eq.mp h)
theorem refsEx_has (Y : String) : ∀ l : List Value, refsEx l = true → l.contains (.type Y) = exT.contains (.type Y)
  | [], h => by cases h
  | v :: r, h => by
    rcases refsEx_of h with ⟨c, r', e, h'⟩ | e
    · cases e
      rw [List.contains_cons, refsEx_has Y r h']
      rfl
    · rw [e]
theorem refsEx_go (self : Value) : ∀ l : List Value, refsEx l = true → PySem.refuseLoop self "__setattr__" l = pure ()
  | [], h => by cases h
  | v :: r, h => by
    rcases refsEx_of h with ⟨c, r', e, h'⟩ | e
    · cases e
      rw [PySem.refuseLoop_ref]
      exact refsEx_go self r h'
    · rw [e]; exact F.store_Exception.passes self
section
open Builtin Builtin.ObjectAttr
variable {prog : Program} {w : World} {A : Around} {E : Value → Shared → Prop} {R : Result → Shared → Prop} {hp : Heap} {g : Array GenState} {d : Drawn} {t : Nat} {os : OsState}
/-- object.__setattr__ on such an instance: what is left is the store into its own dict -/
theorem set_ex {K : PySem.W.Frag} {name : Str} {tk : Tok} {v : Value} {x C : Addr} {ox : Obj} {od : Option Obj} {cd : ClassData} (X : K.In hp) (I : PySem.W.InstAt hp x ox C od) (hcd : PySem.W.clsIn K C = some cd) (hm : refsEx cd.mro = true) (ha : PySem.W.findIn K (.ref C) name = some none)
    (hq : wpAny (model prog w) A.in1 (storeInOwnDict (.ref x) (.ref C) (.str name tk) name v false)
      (fun fin s' => match fin with | .done f => R (.ok f) s' | .again c' => c'.quiet = true ∧ codeAny (model prog w) A c' R s') (fun e s' => R (.error e) s') ⟨hp, g, d, t, os⟩) :
    codeAny (model prog w) A (.call (.builtin "object.__setattr__") ⟨[.ref x, .str name tk, v], []⟩) R ⟨hp, g, d, t, os⟩ := by
  have S := F.store_object
  have hob : cd.mro.contains (.type "object") = true := (refsEx_has "object" _ hm).trans (by decide +kernel)
  have hne : ¬ cd.mro.isEmpty = true := by
    cases q : cd.mro with
    | nil => rw [q] at hm; cases hm
    | cons _ _ => exact Bool.false_ne_true
  have isO : PySem.W.Looks (model prog w) hp (isInstance (.ref x) (.type "object")) true := I.type.andThen (PySem.W.looks_mroIn X (by unfold PySem.W.mroIn; rw [hcd, Option.bind_some, if_neg hne, hob]))
  have row : PySem.W.Looks (model prog w) hp (mroOf (.ref C)) cd.mro := (PySem.W.looks_clsIn X hcd).andThen .now
  have none_ : PySem.W.Looks (model prog w) hp (storeTaker? none) none := .now
  refine codeAny_call_builtin S.slot.plain S.entry (@PySem.W.check_slot (model prog w) _ _ ⟨hp, g, d, t, os⟩ "object.__setattr__" "object" "__setattr__" (.ref x) [.str name tk, v] [] _ S.kind S.split isO (S.args (.ref x) (.str name tk) v) ?_)
  rw [PySem.W.osa_eq, PySem.refuse_eq]
  refine wpAny_bind (wpAny_bind (I.type.at (wpAny_bind (row.at ?_))))
  rw [refsEx_go _ _ hm]
  exact wpAny_pure (wpAny_bind (I.type.at (wpAny_bind ((PySem.W.looks_findIn X ha).at (wpAny_bind (none_.at hq))))))
theorem set_ex_new {K : PySem.W.Frag} {name : Str} {tk : Tok} {v : Value} {x C : Addr} {fv : Array Value} {cd : ClassData} (X : K.In hp) (hx : hp.get? x = some { cls := .ref C, data := .fields fv }) (hcd : PySem.W.clsIn K C = some cd) (hm : refsEx cd.mro = true) (hh : cd.hasDict = true) (ha : PySem.W.findIn K (.ref C) name = some none)
    (hq : ∀ h' tk' dx, (∀ b o, b ≠ x → hp.get? b = some o → h'.get? b = some o) → hp.objs.size ≤ dx → dx ≠ x → h'.get? x = some { cls := .ref C, dict := some dx, data := .fields fv } → h'.Ns1 dx (fun y => if y = name then some v else none) →
      R (.ok (.ret .none)) ⟨h', g, d, tk', os⟩) : codeAny (model prog w) A (.call (.builtin "object.__setattr__") ⟨[.ref x, .str name tk, v], []⟩) R ⟨hp, g, d, t, os⟩ := by
  have nx : x ≠ hp.objs.size := Nat.ne_of_lt (Heap.lt_size hx)
  have cl : PySem.W.Looks (model prog w) hp (classData C) cd := PySem.W.looks_clsIn X hcd
  refine set_ex X (ox := { cls := .ref C, data := .fields fv }) (od := none) ⟨hx, rfl, rfl, trivial⟩ hcd hm ha ?_
  obtain ⟨c1, c2, c3, c4, c5, c6, c7, c8, c9, c10, c11⟩ := cd
  dsimp only at hh
  subst hh
  unfold storeInOwnDict ownDictForStores
  repeat (first | with_reducible refine PySem.HandSPX.store_in_new ?_ ?_ | with_reducible refine wpAny_loadPart_at hx ?_ | with_reducible refine cl.at ?_ | wp_step)
  · exact ⟨_, #[], _, (Heap.get?_update_ne _ _ _ _ nx.symm).trans (Heap.get?_push_at rfl rfl), rfl, fun e he => absurd he (by simp), fun _ => rfl⟩
  · intro h' tk' hn' hs
    have hx1 : (hp.push { cls := .type "dict", data := .dict #[] }).get? x = some { cls := .ref C, data := .fields fv } := Heap.get?_push_of_some _ hx
    refine hq h' tk' hp.objs.size (fun b o hb ho => ?_) (Nat.le_refl _) nx.symm ((hs.2 x nx).trans (Heap.get?_update_self _ hx1 rfl)) hn'
    exact (hs.2 b (Nat.ne_of_lt (Heap.lt_size ho))).trans ((Heap.get?_update_ne _ _ _ _ hb).trans (Heap.get?_push_of_some _ ho))
theorem set_ex_old {K : PySem.W.Frag} {name : Str} {tk : Tok} {v : Value} {x C dx : Addr} {fv : Array Value} {cd : ClassData} {m0 : Str → Option Value} {nl : List Str} (X : K.In hp) (hx : hp.get? x = some { cls := .ref C, dict := some dx, data := .fields fv }) (hns : hp.Ns1 dx m0) (hw : Within m0 nl) (hz : nl.length ≤ 1000)
    (hcd : PySem.W.clsIn K C = some cd) (hm : refsEx cd.mro = true) (hh : cd.hasDict = true) (ha : PySem.W.findIn K (.ref C) name = some none)
    (hq : ∀ h' tk', (∀ b o, b ≠ dx → hp.get? b = some o → h'.get? b = some o) → h'.Ns1 dx (fun y => if y = name then some v else m0 y) → R (.ok (.ret .none)) ⟨h', g, d, tk', os⟩) :
    codeAny (model prog w) A (.call (.builtin "object.__setattr__") ⟨[.ref x, .str name tk, v], []⟩) R ⟨hp, g, d, t, os⟩ := by
  obtain ⟨oD, _, _, hoD, _, _⟩ := hns.count hw
  have cl : PySem.W.Looks (model prog w) hp (classData C) cd := PySem.W.looks_clsIn X hcd
  refine set_ex X (ox := { cls := .ref C, dict := some dx, data := .fields fv }) (od := some oD) ⟨hx, rfl, rfl, hoD⟩ hcd hm ha ?_
  obtain ⟨c1, c2, c3, c4, c5, c6, c7, c8, c9, c10, c11⟩ := cd
  dsimp only at hh
  subst hh
  unfold storeInOwnDict ownDictForStores
  repeat (first | with_reducible refine PySem.OEX.store_in_old hns hw hz ?_ | with_reducible refine wpAny_loadPart_at hx ?_ | with_reducible refine cl.at ?_ | wp_step)
  exact fun h' tk' hn' hs => hq h' tk' (fun b o hb ho => (hs.2 b hb).trans ho) hn'
end
end TB

namespace TB
open PySem L2
/-- what the written part says of such a class -/
structure ExcK (K : Frag) (C : Addr) : Prop where
  cls : ∃ nm q N bs bm sn sub ab col dd k0 k1 k2 k3 k5, K.lookup C = some (excClassObj nm q C N bs bm true sn sub ab col dd k0 k1 k2 k3 k5 "Exception.__new__") ∧ refsEx bm = true
  sa : PySem.W.findIn K (.ref C) "__setattr__" = some (some (.builtin "object.__setattr__"))
  ex : PySem.W.subIn K (.ref C) (.type "BaseException") = some true
  ty : PySem.W.typeIn K (.ref C) = some (.type "type")
  kp : PySem.W.keepIn K (.ref C) = true
section
variable {X : L2.Cx} {pins : List (Addr × Obj)} {σ : L2.St} {H : Hp} {s : Shared} {a C dx : Addr} {f : Str} {y : L2.V} {u : Value} {fs : List (Str × L2.V)} {Q : Unit → Shared → Prop} {E : Value → Shared → Prop} {A : Around}
theorem put_new (T : ExcK X.K C) (I : Inv X pins σ H s) (e : H a = some (exo a C none)) (hno : PySem.W.findIn X.K (.ref C) f = some none) (ry : RelV y u)
    (h : ∀ dx s', H dx = none → dx ≠ a → Inv X pins σ (upd (upd H dx (exd dx [(f, y)])) a (exo a C (some dx))) s' → Q () s') : wpAny (model X.prog X.w) A (setAttr (.ref a) f u) Q E s := by
  obtain ⟨nm, q, N, bs, bm, sn, sub, ab, col, dd, k0, k1, k2, k3, k5, hC, hbm⟩ := T.cls
  have hcl : PySem.W.clsIn X.K C = some { name := nm, bases := bs, mro := .ref C :: bm, ns := N, qualname := q, hasDict := true, slotNames := sn, subclasses := sub, abstract := ab, collection := col, hasDel := false } := by unfold PySem.W.clsIn; rw [hC]
  obtain ⟨t1, ho⟩ := exo_at I.hok e
  obtain ⟨hp, g, d, t, os⟩ := s
  refine PySem.W.set_plain I.kIn (ox := { cls := .ref C, dict := none, data := .fields #[.ref t1, .none, .none, .none, .bool false, .none] }) (od := none) ⟨ho, rfl, rfl, trivial⟩ T.sa ?_
  refine set_ex_new I.kIn ho hcl (show refsEx (.ref C :: bm) = true from hbm) rfl hno fun h' tk' dx k dn dne hx hn => ?_
  have fr : H dx = none := I.hok.fresh dn
  have ndx : ∀ {b : Addr} {o : Obj}, hp.get? b = some o → b ≠ dx := fun {b o} z => Nat.ne_of_lt (Nat.lt_of_lt_of_le (Heap.lt_size z) dn)
  have nda : ∀ {b : Addr}, H b = none → b ≠ a := fun {b} n z => by rw [z, e] at n; cases n
  have U : Un X.fs [] H (upd (upd H dx (exd dx [(f, y)])) a (exo a C (some dx))) hp h' := by
    refine ⟨fun b o z n _ _ => k b o (nda n) z, fun b o z n _ _ => ⟨o.slots, k b o (nda n) z⟩, fun b o z n _ => ?_, fun b o z _ => ?_, fun b xs z => ?_, fun b o v z => ?_, fun b ps z => ⟨#[], ?_⟩⟩
    · rw [upd_ne (nda n), upd_ne (ndx z)]; exact n
    · by_cases hb : b = a
      · rw [hb]; exact ⟨_, hx⟩
      · exact ⟨o, k b o hb z⟩
    · rw [upd_ne (at_ne e z exo_tup), upd_ne (ne_of_none z fr)]; exact z
    · rw [upd_ne (at_ne e z exo_frz), upd_ne (ne_of_none z fr)]; exact z
    · rw [upd_ne (at_ne e z exo_tbl), upd_ne (ne_of_none z fr), z]; simp
  refine h dx _ fr dne (I.un (t' := tk') U fun b o z => ?_)
  by_cases hb : b = a
  · subst hb
    rw [upd_same] at z; cases z
    exact exo_ok hx
  by_cases hd : b = dx
  · subst hd
    rw [upd_ne hb, upd_same] at z; cases z
    exact exd_ok hn (relO_put (fs := []) ry fun g => True.intro)
  rw [upd_ne hb, upd_ne hd] at z
  refine (I.hok b o z).stay (fun c v hc zz => k c v ?_ zz) (fun c hc => ?_) fun c xs hc => ?_
  · rcases hc with hc | hc
    · rw [hc]; exact hb
    · exact at_ne e hc exo_own
  · rw [upd_ne (at_ne e hc exo_own), upd_ne (ne_of_none hc fr)]; exact hc
  · rw [upd_ne (at_ne e hc exo_tup), upd_ne (ne_of_none hc fr)]; exact hc
theorem put_old (T : ExcK X.K C) (I : Inv X pins σ H s) (e : H a = some (exo a C (some dx))) (ed : H dx = some (exd dx fs)) (hl : fs.length ≤ 900) (hno : PySem.W.findIn X.K (.ref C) f = some none) (ry : RelV y u)
    (h : ∀ s', Inv X pins σ (upd H dx (exd dx ((f, y) :: fs))) s' → Q () s') : wpAny (model X.prog X.w) A (setAttr (.ref a) f u) Q E s := by
  obtain ⟨nm, q, N, bs, bm, sn, sub, ab, col, dd, k0, k1, k2, k3, k5, hC, hbm⟩ := T.cls
  have hcl : PySem.W.clsIn X.K C = some { name := nm, bases := bs, mro := .ref C :: bm, ns := N, qualname := q, hasDict := true, slotNames := sn, subclasses := sub, abstract := ab, collection := col, hasDel := false } := by unfold PySem.W.clsIn; rw [hC]
  obtain ⟨t1, ho⟩ := exo_at I.hok e
  obtain ⟨mA, hns, rel⟩ := exd_at I.hok ed
  have hw := within_of rel
  obtain ⟨hp, g, d, t, os⟩ := s
  obtain ⟨oD, _, _, hoD, _, _⟩ := hns.count hw
  refine PySem.W.set_plain I.kIn (ox := { cls := .ref C, dict := some dx, data := .fields #[.ref t1, .none, .none, .none, .bool false, .none] }) (od := some oD) ⟨ho, rfl, rfl, hoD⟩ T.sa ?_
  refine set_ex_old I.kIn ho hns hw (by rw [List.length_map]; omega) hcl (show refsEx (.ref C :: bm) = true from hbm) rfl hno fun h' tk' k hn => ?_
  have hd : ∃ o, h'.get? dx = some o := let ⟨o, _, _, e', _⟩ := hn; ⟨o, e'⟩
  exact h _ (I.write (t' := tk') (x := dx) (e := dx) (o := exd dx ((f, y) :: fs)) (by rw [ed]; exact True.intro) (.inl rfl) k hd (exd_ok hn (relO_put ry rel)))
end

/-- self.f = e -/
def tPut (K : Frag) (f : Str) (to te : L2.TE) : L2.TS := fun D σ H => te σ H fun y H1 => to σ H1 fun x H2 => ∃ a C : Addr, x = .ref a ∧ ExcK K C ∧ PySem.W.findIn K (.ref C) f = some none ∧
  ((H2 a = some (exo a C none) ∧ ∀ dx, H2 dx = none → dx ≠ a → D.nx σ (upd (upd H2 dx (exd dx [(f, y)])) a (exo a C (some dx)))) ∨
    ∃ (dx : Addr) (fs : List (Str × L2.V)), H2 a = some (exo a C (some dx)) ∧ H2 dx = some (exd dx fs) ∧ fs.length ≤ 900 ∧ D.nx σ (upd H2 dx (exd dx ((f, y) :: fs))))
section
variable {X : L2.Cx} {o e : Expr} {es : List Expr} {to te : L2.TE} {ta : L2.TA} {f : Str} {p p' p1 p2 pos : Pos}
theorem ps_put (ho : PE X o to) (he : PE X e te) (hs : swapsWith e (some (.Attribute o f p')) pos.line X.env = pure false) : PS X (.Assign [.Attribute o f p'] e pos) (tPut X.K f to te) := by
  refine ⟨fun pins s σ H D I w => plainObj_wpAny_Assign_Attribute (thn (he.run pins s σ H _ I w) fun v s1 hv => ?_) hs⟩
  obtain ⟨y, H1, I1, r1, q1⟩ := hv
  refine thn (ho.run pins s1 σ H1 _ I1 q1) fun u s2 hu => ?_
  obtain ⟨x, H2, I2, r2, a, C, rfl, T, hno, q⟩ := hu
  cases r2
  rcases q with ⟨ea, q⟩ | ⟨dx, fs, ea, ed, hl, q⟩
  · exact put_new T I2 ea hno r1 fun dx s' n ne J => ⟨σ, _, J, q dx n ne⟩
  · exact put_old T I2 ea ed hl hno r1 fun s' J => ⟨σ, _, J, q⟩
/-- C(e, ..), C's own __init__ keeping sp -/
def tMkX (C : Addr) (sp : Sp) (ta : L2.TA) : L2.St → Hp → XK → Prop := fun σ H Q => ta σ H fun vs H1 => vs.length ≤ 1000 ∧ ∀ a, H1 a = none → sp (.ref a :: vs) (upd H1 a (exo a C none))
  (fun v H2 => v = .non ∧ ∃ (d : Addr) (fs : List (Str × L2.V)), H2 a = some (exo a C (some d)) ∧ H2 d = some (exd d fs) ∧ H1 d = none ∧ Q (.ref C) (some d) (upd (del H2 a) d (.xd fs))) (fun _ _ _ => False)
theorem pmk_x {CX : CXT} {x : Str} {C fI : Addr} {k : Nat} {fd : FuncData} {ps : List Str} {sp : Sp} (T : ExcK X.K C) (iC : PySem.W.findIn X.K (.ref C) "__init__" = some (some (.ref fI))) (tI : PySem.W.typeIn X.K (.ref fI) = some (.type "function"))
    (F1 : FnOk X.prog X.w X.K X.mg X.base CX k fI fd ps sp) (hr : Room (k + 1) X.A) (hb : Binds X.K fd ps []) (hx : Passes CX X (fun _ _ _ => False)) (hg : Gl X x) (hm : X.mg x = some (.ref C)) (ha : PA X (e :: es) ta)
    (hdb : (x == ("__debug__" : Str)) = false) (he : (e :: es).all notStar = true) : PMk X (.Call (.Name x p) (e :: es) [] pos) (tMkX C sp ta) := by
  intro pins s σ H Q I w
  rw [List.all_cons, Bool.and_eq_true] at he
  obtain ⟨nm, q, N, bs, bm, sn, sub, ab, col, dd, k0, k1, k2, k3, k5, hC, hbm⟩ := T.cls
  refine wpAny_Call_Name_kw (ld_glob I hg hm ?_ hdb)
  refine PySem.W.callWith_K (h₀ := X.base) I.ok.mod.kin T.kp (thn (ha.run pos pins s σ H _ I w) fun us s1 hv => ?_) (star_ok he.1) (noStars he.2)
  obtain ⟨vs, H1, I1, r1, hz, q1⟩ := hv
  refine ⟨I1.kIn, ?_⟩
  show wpAny _ _ (call (.ref C) us) _ _ _
  obtain ⟨hp, g, dr, tk, os⟩ := s1
  have hsz : hp.objs.size ≤ hp.objs.size + 1 := Nat.le_succ _
  have hq := q1 (hp.objs.size + 1) (I1.hok.fresh hsz)
  have grow : ∀ b o, hp.get? b = some o → ((hp.push (PySem.W.kdv_tup us)).push (PySem.HandSPX.excO C hp.objs.size)).get? b = some o := fun b o z => Heap.get?_push_of_some _ (Heap.get?_push_of_some _ z)
  have made : ((hp.push (PySem.W.kdv_tup us)).push (PySem.HandSPX.excO C hp.objs.size)).get? (hp.objs.size + 1) = some (PySem.HandSPX.excO C hp.objs.size) := by heap_get
  have I2 : Inv X pins σ (upd H1 (hp.objs.size + 1) (exo (hp.objs.size + 1) C none)) ⟨(hp.push (PySem.W.kdv_tup us)).push (PySem.HandSPX.excO C hp.objs.size), g, dr, tk, os⟩ := I1.laid (t' := tk) (a := hp.objs.size + 1) grow hsz (exo_ok made)
  have r2 : Vals (V.ref (hp.objs.size + 1) :: vs) (Value.ref (hp.objs.size + 1) :: us) := .cons rfl r1
  have hl : (Value.ref (hp.objs.size + 1) :: us ++ []).length = ps.length := by
    have z := r2.length
    rw [F1.len _ _ _ _ hq] at z
    rw [List.append_nil]; exact z.symm
  have hus : us.length ≤ sizeLine := by rw [← Paired.length r1, sizeLine_eq]; omega
  have hbt := hb _ (Value.ref (hp.objs.size + 1) :: us) I2.kIn hl
  rw [List.append_nil] at hbt
  refine wpAny_call (PySem.HandSPX.call_own F.excBase_Exception (fun Y => refsEx_has Y bm hbm) (I1.kIn _ _ hC) (PySem.W.looks_findIn I1.kIn iC) (fun self => PySem.W.bind_fn I1.kIn self tI) hus
    (codeAny_mono (F1.run _ X.stack _ _ ⟨Value.ref (hp.objs.size + 1) :: us, []⟩ _ _ _ (fun _ _ _ => False) (hr.make C us []) (I2.env0.make C us []) hbt r2 hq) fun r s' hq' => ?_))
  cases r with
  | error er => exact hx pins σ _ _ er s' I2 hq'
  | ok fl =>
    cases fl with
    | ret u =>
      obtain ⟨v, H2, os2, bare2, un2, hok2, rv, rfl, d, fs, ea, ed, hd1, q2⟩ := hq'
      obtain ⟨h2, g2, d2, t2, os'⟩ := s'
      exact ⟨rv, mk_end (raises_own T.ex T.ty) I1 hsz grow un2 hok2 os2 bare2 ea ed hd1 q2⟩
    | _ => exact False.elim hq'
end
end TB

end

section
set_option Elab.async false
set_option linter.all false
set_option maxRecDepth 100000
set_option maxHeartbeats 4000000
namespace TB
section
open PySem PySem.Spec PySem.Calls PyProof.Rows PySem.W
variable {prog : Program} {w : World} {A : Around} {E : Value → Shared → Prop} {s : Shared} {K : PySem.W.Frag} {x D : Addr} {ox : Obj} {od : Option Obj}
theorem find_desc {C : Addr} {name : Str} {a g : Value} {od : Option Obj} (hc : (clsIn K C).isSome = true) (ha : findIn K (.ref C) name = some (some a)) (hg : specialIn K a "__get__" = some (some g)) (ht : takesIn K a = some true) : findObj K C od name = some (.bind g a) := by
  obtain ⟨cd, hcd⟩ := Option.isSome_iff_exists.mp hc
  unfold findObj
  simp [hcd, ha, hg, ht]
/-- e.__class__, e an exception of an own class, with a dict or without -/
theorem class_of_exc {Q : Option Value → Shared → Prop} (C : L2.ExcC K D) (X : K.In s.heap) (I : InstAt s.heap x ox D od) (h : Q (some (.ref D)) { s with toks := s.toks + 1 }) : wpAny (model prog w) A (getAttr? (.ref x) "__class__") Q E s := by
  have hsome : (clsIn K D).isSome = true := by obtain ⟨cd, hc, _⟩ := any_some C.hd; rw [hc]; rfl
  have hf : findObj K D od "__class__" = some (.bind (.builtin "getset_descriptor.__get__") (.builtin "object.__class__")) := find_desc hsome C.ha C.hn C.ht
  obtain ⟨hp, g, d, t, os⟩ := s
  have T0 := I.type (M := model prog w)
  have T1 := looks_findIn (M := model prog w) X C.hg
  have T2 := looks_findIn (M := model prog w) X C.hk
  have T3 := looks_find (M := model prog w) X I hf
  have isB : Looks (model prog w) hp (isInstance (.ref x) (.type "BaseException")) true := T0.andThen (looks_subIn X C.hs)
  have ne : (Value.builtin "BaseException.__getattribute__" == Value.builtin "object.__getattribute__") = false := by decide +kernel
  have ne1 : (onTheHeap (Value.ref D) && Value.builtin "BaseException.__getattribute__" == Value.builtin "object.__getattribute__") = false := by rw [ne]; rfl
  have ne0 : (false && onTheHeap (Value.builtin "BaseException.__getattribute__")) = false := rfl
  unfold getAttr? getAttrBy? getAttrBy
  refine wpAny_bind (wpAny_mkText (wpAny_bind (wpAny_attempt (wpAny_holding (wpAny_bind (T0.at (wpAny_bind (T1.at ?_))))))))
  show wpAny _ _ (if (onTheHeap (Value.ref D) && Value.builtin "BaseException.__getattribute__" == Value.builtin "object.__getattribute__") = true then _ else _) _ _ _
  rw [ne1, if_neg Bool.false_ne_true]
  unfold getAttrByItsOwn hookBefore
  refine wpAny_bind ?_
  rw [if_pos (show onTheHeap (Value.ref D) = true from rfl)]
  refine T2.at (wpAny_bind (wpAny_attempt (wpAny_holding ?_)))
  unfold callGetattribute
  rw [ne0, if_neg Bool.false_ne_true]
  unfold boundAndCalled
  rw [PySem.F.excAttr_ValueError.ga.bind (.ref x)]
  refine wpAny_bind (wpAny_pure ?_)
  show wpAny _ _ (call (.builtin "BaseException.__getattribute__") [.ref x, .str "__class__" t]) _ _ _
  refine wpAny_call (codeAny_call_builtin PySem.F.excAttr_ValueError.ga.plain PySem.F.entry_bexc_ga (@check_slot (model prog w) _ _ ⟨hp, g, d, t + 1, os⟩ "BaseException.__getattribute__" "BaseException" "__getattribute__" (.ref x) [.str "__class__" t] [] _ (by decide +kernel) (by decide +kernel) isB (PySem.F.args_bexc_ga (.ref x) (.str "__class__" t)) ?_))
  unfold Builtin.«object.__getattribute__»
  refine wpAny_bind (wpAny_of_eq (a := ((Value.ref x : Value), [Value.str "__class__" t])) (by first | rfl | (simp only [slotArgs]; rfl)) ?_)
  refine wpAny_bind (wpAny_pure (wpAny_bind (T0.at (wpAny_bind (T3.at ?_)))))
  show wpAny _ _ (holding [Value.builtin "object.__class__"] (call (.builtin "getset_descriptor.__get__") [.builtin "object.__class__", .ref x, .ref D]) >>= ret) _ _ _
  refine wpAny_bind (wpAny_holding (wpAny_call (class_get (s := ⟨hp, g, d, t + 1, os⟩) (ox := ox) (od := od) X I C.hm (wpAny_pure ?_))))
  show wpAny _ _ (handedOut (.ref D)) _ _ _
  rw [handedOut_of (v := .ref D) rfl]
  first
    | exact wpAny_pure (wpAny_pure h)
    | exact wpAny_pure h
    | exact wpAny_pure (wpAny_bind (wpAny_pure (wpAny_pure h)))
theorem kitx_x (C : L2.ExcC K D) : KitX K (.ref x) (.ref D) (fun h => InstAt h x ox D od) where
  ty := fun _ _ _ I => I.type
  it := fun M h X _ => by
    obtain ⟨cd, hc, _⟩ := any_some C.hd
    unfold clsIn at hc
    split at hc
    · rename_i ho
      exact fun A Q E s k q => wpAny_bind (wpAny_loadPart (k _ _ (X _ _ ho)) (wpAny_pure q))
    · cases hc
  ne := (handS_kitx_exc (x := x) (ox := ox) C.hg C.hk C.hs C.hd C.ha C.hn C.ht C.hm).ne
  ca := fun X I k => class_of_exc C X I k
end
end TB
namespace TB
open PySem L2
section
variable {X : L2.Cx} {g : G} {W : L2.WX} {cx : Cx} {pos : Pos}
/-- isinstance(e, C), e the exception that the suite holds -/
theorem call_isx {a D : Addr} {d : Option Addr} {oe : Obj} {pn : List (Addr × Obj)} (C : L2.ExcC X.K D) (hz : Zc (.ref D) d oe) (hf : ∃ vs, oe.data = .fields vs) :
    CallR (X.suite a ((a, oe) :: pn)) (.builtin "isinstance") fun xs H Q => ∃ (c : L2.V) (cv : Value) (b : Bool), xs = [.ref a, c] ∧ (∀ u, RelV c u → u = cv) ∧ PySem.W.kitOne X.K (.ref D) cv = some b ∧ (∀ dd, d = some dd → ∃ ps, H dd = some (.xd ps)) ∧ Q (.bl b) H := by
  intro pins s σ H xs us Q I r h
  obtain ⟨c, cv, b, rfl, hcv, e, hdd, q⟩ := h
  cases r with
  | cons rx rr =>
    cases rr with
    | cons rt rr =>
      cases rr
      cases rx
      have ec := hcv _ rt
      subst ec
      obtain ⟨hget, _⟩ := I.pin (a, oe) (List.mem_append.mpr (.inl List.mem_cons_self))
      obtain ⟨vs, hv⟩ := hf
      obtain ⟨od, J⟩ : ∃ od, PySem.W.InstAt s.heap a oe D od := by
        obtain ⟨oc, odd, oda, osl⟩ := oe
        obtain ⟨h1, h2⟩ := hz
        dsimp only at h1 h2 hv
        subst h1 h2 hv
        cases odd with
        | none => exact ⟨none, hget, rfl, rfl, trivial⟩
        | some dd =>
          obtain ⟨ps, hps⟩ := hdd dd rfl
          have ok : ObjOk X.prog X.w H s.heap dd (.xd ps) := I.hok dd _ hps
          obtain ⟨mA, hns, _⟩ := ok
          obtain ⟨od, ho, _⟩ := lookIn_ns hns
          exact ⟨some od, hget, rfl, rfl, ho⟩
      exact PySem.W.kia_one (kitx_x C) I.kIn J e (fun z => nomatch z) fun tk => ⟨.bl b, H, I.kept (t' := tk) fun _ _ z => z, rfl, q⟩
theorem kyE {e : Expr} : PE X e (fun _ _ _ => False) := ⟨fun _ _ _ _ _ _ w => w.elim⟩
/-- the classes' facts -/
structure Classes (K : Frag) (g : G) (n : Nat) : Prop where
  cnt : g.n = n
  ex : ∀ c, c < n → ExcK K (g.cls c)
  xf : ∀ c, c < n → XfC K (g.cls c)
  is : ∀ c, c < n → L2.ExcC K (g.cls c)
  nof : ∀ c, c < n → ∀ f ∈ g.flds c, PySem.W.findIn K (.ref (g.cls c)) f = some none
  kit : ∀ c d, c < n → d < n → PySem.W.kitOne K (.ref (g.cls c)) (.ref (g.cls d)) = some (g.sub c d)
  exm : ∀ c d, c < n → d < n → PySem.W.exmOne K (.ref (g.cls c)) (.ref (g.cls d)) = some (g.sub c d)
  lt : ∀ c d, g.sub c d = true → c < n
theorem exc_at {ξ : Xi} {A : Av} {α : List Addr} {h : Lh} {env : Env} {σ : L2.St} {H : Hp} {xh : Xh} (R : Rl g ξ A α h env σ H) (gx : g.xi = some xh) {c : Nat} {fs : List D} (q : env[xh.i]? = some (some (.exc c fs))) :
    σ[xh.i]? = some (some (.ref xh.a)) ∧ xh.c = .ref (g.cls c) ∧ g.sub c xh.k = true ∧ XDict g A α H c fs xh.d := by
  obtain ⟨x, hx, sr⟩ := R.e.2 _ _ q
  cases sr with
  | rep r => cases r
  | exc k =>
    obtain ⟨rfl, k2, k3, k4⟩ := k xh (R.x.trans gx) rfl
    exact ⟨hx, k2, k3, k4⟩
theorem s_fld {xh : Xh} {n : Nat} {oe : Obj} {pn : List (Addr × Obj)} {j : Nat} {f x : Str} {p : Pos} (K : Classes X.K g n) (gx : g.xi = some xh) (hz : Zc xh.c xh.d oe) (hf : ∃ vs, oe.data = .fields vs) (hN : X.N[xh.i]? = some x) (hv : Vis X.env.scope x)
    (hd : (x == ("__debug__" : Str)) = false) (hcd : (x == ("__classdict__" : Str)) = false) (hj : ∀ c, g.sub c xh.k = true → (g.flds c)[j]? = none ∨ (g.flds c)[j]? = some f) :
    PE (X.suite xh.a ((xh.a, oe) :: pn)) (.Attribute (.Name x p) f pos) (vE g W cx (.fld xh.i j)) := by
  by_cases hc : ∃ c, xh.c = .ref (g.cls c) ∧ g.sub c xh.k = true ∧ (g.flds c)[j]? = some f
  · obtain ⟨c, hc, hs, hfj⟩ := hc
    have hb : attributeBase (.Name x p) f X.env (eval (.Name x p) X.env) = eval (.Name x p) X.env := rfl
    refine weakE (pe_xf (X := X) (cls := xh.c) (d := xh.d) (K.xf c (K.lt _ _ hs)) (K.nof c (K.lt _ _ hs) f (List.mem_of_getElem? hfj)) hz hf (pe_var (X := X.suite xh.a ((xh.a, oe) :: pn)) hN hv hd hcd) hb) fun σ H Q ⟨ξ, A, α, h, env, R, P⟩ => ?_
    have P : PostE g A α H σ W Q (match env[xh.i]? with
      | some (some (.exc _ fs)) => rsO (fs[j]?) h
      | _ => .stuck) := P
    split at P
    · rename_i c2 fs q
      obtain ⟨e1, e2, e3, hl, e4⟩ := exc_at R gx q
      refine ⟨_, e1, rfl, hc, ?_⟩
      cases q2 : fs[j]? with
      | none => rw [q2] at P; exact False.elim P
      | some v =>
        rw [q2] at P
        rcases e4 with e4 | ⟨dd, ps, h1, h2, h3, h4, h5⟩
        · rw [e4.1] at q2; simp at q2
        · have hf2 : (g.flds c2)[j]? = some f := by
            rcases hj c2 e3 with z | z
            · have : j < (g.flds c2).length := by rw [← hl.2]; exact (List.getElem?_eq_some_iff.mp q2).1
              rw [List.getElem?_eq_getElem this] at z; cases z
            · exact z
          obtain ⟨y, k1, k2⟩ := h5 j f v hf2 q2
          exact ⟨dd, ps, y, h1, h4, k1, PostE.here P R.h k2⟩
    · exact False.elim P
  · refine weakE kyE fun σ H Q ⟨ξ, A, α, h, env, R, P⟩ => ?_
    have P : PostE g A α H σ W Q (match env[xh.i]? with
      | some (some (.exc _ fs)) => rsO (fs[j]?) h
      | _ => .stuck) := P
    split at P
    · rename_i c2 fs q
      obtain ⟨e1, e2, e3, hl, e4⟩ := exc_at R gx q
      cases q2 : fs[j]? with
      | none => rw [q2] at P; exact P
      | some v =>
        refine hc ⟨c2, e2, e3, ?_⟩
        rcases hj c2 e3 with z | z
        · have : j < (g.flds c2).length := by rw [← hl.2]; exact (List.getElem?_eq_some_iff.mp q2).1
          rw [List.getElem?_eq_getElem this] at z; cases z
        · exact z
    · exact P
theorem s_isx {xh : Xh} {n k : Nat} {oe : Obj} {pn : List (Addr × Obj)} {x y : Str} {p p1 p2 : Pos} (K : Classes X.K g n) (hsub : cx.sub = g.sub) (gx : g.xi = some xh) (hz : Zc xh.c xh.d oe) (hf : ∃ vs, oe.data = .fields vs) (hN : X.N[xh.i]? = some x) (hv : Vis X.env.scope x)
    (hd : (x == ("__debug__" : Str)) = false) (hcd : (x == ("__classdict__" : Str)) = false) (hg : Gl X "isinstance") (hm : X.mg "isinstance" = none) (hgy : Gl X y) (hmy : X.mg y = some (.ref (g.cls k))) (hdy : (y == ("__debug__" : Str)) = false) (hk : k < n) :
    PE (X.suite xh.a ((xh.a, oe) :: pn)) (.Call (.Name "isinstance" p) [.Name x p1, .Name y p2] [] pos) (vE g W cx (.isx xh.i k)) := by
  by_cases hc : ∃ c, xh.c = .ref (g.cls c) ∧ g.sub c xh.k = true
  · obtain ⟨c, hc, hs⟩ := hc
    have hcn := K.lt _ _ hs
    have pv : PE (X.suite xh.a ((xh.a, oe) :: pn)) (.Name x p1) (tVar xh.i) := pe_var (X := X.suite xh.a ((xh.a, oe) :: pn)) hN hv hd hcd
    have pc : PE (X.suite xh.a ((xh.a, oe) :: pn)) (.Name y p2) (tC (.ref (g.cls k))) := pe_glob (X := X.suite xh.a ((xh.a, oe) :: pn)) hgy hmy rfl hdy
    refine weakE (pe_callB (X := X.suite xh.a ((xh.a, oe) :: pn)) (call_isx (K.is c hcn) (hc ▸ hz) hf) hg hm (by decide +kernel) (pa_cons pv (pa_cons pc pa_nil rfl) rfl) (by decide) (by decide) rfl rfl) fun σ H Q ⟨ξ, A, α, h, env, R, P⟩ => ?_
    have P : PostE g A α H σ W Q (match env[xh.i]? with
      | some (some (.exc c _)) => .ok (.bl (cx.sub c k)) h
      | _ => .stuck) := P
    split at P
    · rename_i c2 fs q
      obtain ⟨e1, e2, e3, hl, e4⟩ := exc_at R gx q
      have c2n := K.lt _ _ e3
      have ec : (Value.ref (g.cls c)) = .ref (g.cls c2) := hc.symm.trans e2
      refine ⟨_, e1, V.ref (g.cls k), .ref (g.cls k), cx.sub c2 k, rfl, fun u r => r, ?_, fun dd e => ?_, PostE.here (d := .bl (cx.sub c2 k)) P R.h (.bl _)⟩
      · rw [ec, hsub]; exact K.kit c2 k c2n hk
      · rcases e4 with e4 | ⟨dd', ps, h1, h2, h3, h4, h5⟩
        · rw [e4.2] at e; cases e
        · rw [e] at h1; cases h1; exact ⟨ps, h4⟩
    · exact False.elim P
  · refine weakE kyE fun σ H Q ⟨ξ, A, α, h, env, R, P⟩ => ?_
    have P : PostE g A α H σ W Q (match env[xh.i]? with
      | some (some (.exc c _)) => .ok (.bl (cx.sub c k)) h
      | _ => .stuck) := P
    split at P
    · rename_i c2 fs q
      obtain ⟨e1, e2, e3, _⟩ := exc_at R gx q
      exact hc ⟨c2, e2, e3⟩
    · exact P
end
end TB

end

section
set_option Elab.async false
set_option linter.all false
set_option maxHeartbeats 1000000
namespace TB
open PySem L2

section
variable {X : L2.Cx} {g : G} {W : L2.WX} {cx : Cx} {pos : Pos}
variable {ξ : Xi} {A : Av} {α α' : List Addr} {h : Lh} {env : Env} {σ : L2.St} {H H' : Hp}
/-- what is wanted behind a statement -/
def PostS (g : G) (A : Av) (α : List Addr) (H : Hp) (W : L2.WX) (B : L2.Ends) : Rf → Prop
  | .ok (.nx env') h' => ∀ α' H' σ', Ext α H α' H' → Rl g g.xi A α' h' env' σ' H' → B.nx σ' H'
  | .ok (.rt d) h' => ∀ α' H' x, Ext α H α' H' → HRel A α' h' H' → Rep A α' H' d x → B.rt x H'
  | .ok (.bk env') h' => ∀ α' H' σ', Ext α H α' H' → Rl g g.xi A α' h' env' σ' H' → B.bk σ' H'
  | .ok (.ct env') h' => ∀ α' H' σ', Ext α H α' H' → Rl g g.xi A α' h' env' σ' H' → B.ct σ' H'
  | .exc c fs env' h' => ∀ α' H' σ' d, Ext α H α' H' → Rl g g.xi A α' h' env' σ' H' → XDict g A α' H' c fs d → W (.ref (g.cls c)) d σ' H'
  | .stuck => False
theorem PostS.mono {B : L2.Ends} {r : Rf} (P : PostS g A α H W B r) (e : Ext α H α' H') : PostS g A α' H' W B r := by
  cases r with
  | stuck => exact P
  | exc c fs env' h' => exact fun α2 H2 σ2 d e2 => P α2 H2 σ2 d (e.trans e2)
  | ok f h' =>
    cases f with
    | nx env' => exact fun α2 H2 σ2 e2 => P α2 H2 σ2 (e.trans e2)
    | bk env' => exact fun α2 H2 σ2 e2 => P α2 H2 σ2 (e.trans e2)
    | ct env' => exact fun α2 H2 σ2 e2 => P α2 H2 σ2 (e.trans e2)
    | rt d => exact fun α2 H2 x e2 => P α2 H2 x (e.trans e2)
def vS (g : G) (W : L2.WX) (cx : Cx) (s : S) : L2.TS := fun D σ H => ∃ ξ A α h env, Rl g ξ A α h env σ H ∧ PostS g A α H W D (s.ev cx env h)
def vSs (g : G) (W : L2.WX) (cx : Cx) (s : Ss) : L2.TS := fun D σ H => ∃ ξ A α h env, Rl g ξ A α h env σ H ∧ PostS g A α H W D (s.ev cx env h)
theorem Rl.x' (R : Rl g ξ A α h env σ H) : Rl g g.xi A α h env σ H := R.x ▸ R
/-- an expression first -/
theorem vE_at {m : E} {k : TB.D → Lh → Rf} {R' : L2.V → Hp → Prop} (R : Rl g ξ A α h env σ H) {D : L2.Ends} (P : PostS g A α H W D ((m.ev cx env h).at env k))
    (f : ∀ d h1 α1 H1 x, Ext α H α1 H1 → Rl g ξ A α1 h1 env σ H1 → Rep A α1 H1 d x → PostS g A α1 H1 W D (k d h1) → R' x H1) : vE g W cx m σ H R' := by
  refine ⟨ξ, A, α, h, env, R, ?_⟩
  cases q : m.ev cx env h with
  | stuck => rw [q] at P; exact P
  | exc c fs h1 =>
    rw [q] at P
    exact fun α1 H1 d e1 R1 x1 => P α1 H1 σ d e1 (R.step e1 R1).x' x1
  | ok d h1 =>
    rw [q] at P
    exact fun α1 H1 x e1 R1 r1 => f d h1 α1 H1 x e1 (R.step e1 R1) r1 (P.mono e1)
theorem vA_at {m : Es} {k : List TB.D → Lh → Rf} {R' : List L2.V → Hp → Prop} (R : Rl g ξ A α h env σ H) {D : L2.Ends} (P : PostS g A α H W D ((m.ev cx env h).at env k))
    (f : ∀ d h1 α1 H1 x, m.ev cx env h = .ok d h1 → Ext α H α1 H1 → Rl g ξ A α1 h1 env σ H1 → Reps A α1 H1 d x → PostS g A α1 H1 W D (k d h1) → R' x H1) : vA g W cx m σ H R' := by
  refine ⟨ξ, A, α, h, env, R, ?_⟩
  cases q : m.ev cx env h with
  | stuck => rw [q] at P; exact P
  | exc c fs h1 =>
    rw [q] at P
    exact fun α1 H1 d e1 R1 x1 => P α1 H1 σ d e1 (R.step e1 R1).x' x1
  | ok d h1 =>
    rw [q] at P
    exact fun α1 H1 x e1 R1 r1 => f d h1 α1 H1 x q e1 (R.step e1 R1) r1 (P.mono e1)
/-- no comprehension stands alone here -/
def noSw : Expr → Bool
  | .ListComp _ _ _ _ => false
  | .SetComp _ _ _ _ => false
  | .DictComp _ _ _ _ _ => false
  | _ => true
theorem noSw_ok {e : Expr} {t : Option Expr} {l : Nat} {env : PySem.Env} (h : noSw e = true) : swapsWith e t l env = pure false := by
  cases e <;> first | rfl | cases h
theorem r_ex {e : Expr} {m : E} (he : PE X e (vE g W cx m)) (hs : noSw e = true) : PS X (.Expr e pos) (vS g W cx (.ex m)) := by
  refine weakS (ps_expr he (noSw_ok hs)) fun D σ H ⟨ξ, A, α, h, env, R, P⟩ => ?_
  refine vE_at R (show PostS g A α H W D ((m.ev cx env h).at env fun _ h => .ok (.nx env) h) from P) fun d h1 α1 H1 x e1 R1 r1 P1 => ?_
  exact P1 α1 H1 σ .refl R1.x'
theorem r_ret {e : Expr} {m : E} (he : PE X e (vE g W cx m)) : PS X (.Return (some e) pos) (vS g W cx (.ret m)) := by
  refine weakS (ps_ret he) fun D σ H ⟨ξ, A, α, h, env, R, P⟩ => ?_
  refine vE_at R (show PostS g A α H W D ((m.ev cx env h).at env fun d h => .ok (.rt d) h) from P) fun d h1 α1 H1 x e1 R1 r1 P1 => ?_
  exact P1 α1 H1 x .refl R1.h r1
theorem r_ret0 : PS X (.Return none pos) (vS g W cx .ret0) := by
  refine weakS ps_retN fun D σ H ⟨ξ, A, α, h, env, R, P⟩ => ?_
  have P : PostS g A α H W D (.ok (.rt .non) h) := P
  exact P α H .non .refl R.h .non
theorem r_pas : PS X (.Pass pos) (vS g W cx .pas) := by
  refine weakS ps_pass fun D σ H ⟨ξ, A, α, h, env, R, P⟩ => ?_
  have P : PostS g A α H W D (.ok (.nx env) h) := P
  exact P α H σ .refl R.x'
theorem r_brk : PS X (.Break pos) (vS g W cx .brk) := by
  refine weakS ps_break fun D σ H ⟨ξ, A, α, h, env, R, P⟩ => ?_
  have P : PostS g A α H W D (.ok (.bk env) h) := P
  exact P α H σ .refl R.x'
theorem r_cnt : PS X (.Continue pos) (vS g W cx .cnt) := by
  refine weakS ps_continue fun D σ H ⟨ξ, A, α, h, env, R, P⟩ => ?_
  have P : PostS g A α H W D (.ok (.ct env) h) := P
  exact P α H σ .refl R.x'
/-! ### assignments -/
theorem vG_at {t : Tg} {d : TB.D} {v : L2.V} (R : Rl g ξ A α h env σ H) (r : Rep A α H d v) {D : L2.Ends} (P : PostS g A α H W D ((noexc (t.as cx env d h)).at env fun σ' h => .ok (.nx σ') h)) : vG g cx t v σ H D.nx := by
  refine ⟨ξ, A, α, h, env, d, R, r, ?_⟩
  cases q : t.as cx env d h with
  | stuck => rw [q] at P; exact P
  | exc c fs h1 => rw [q] at P; exact P
  | ok env1 h1 =>
    rw [q] at P
    exact fun α1 H1 σ1 e1 R1 _ => P α1 H1 σ1 e1 R1
theorem asg_read {e : E} {t : Tg} (D : L2.Ends) (σ : L2.St) (H : Hp) (w : vS g W cx (.asg t e) D σ H) : tAsg (vE g W cx e) (vG g cx t) D σ H := by
  obtain ⟨ξ, A, α, h, env, R, P⟩ := w
  exact vE_at R (show PostS g A α H W D ((e.ev cx env h).at env fun d h => (noexc (t.as cx env d h)).at env fun σ' h => .ok (.nx σ') h) from P) fun d h1 α1 H1 x e1 R1 r1 P1 => vG_at R1 r1 P1
theorem r_asg {e tg : Expr} {m : E} {t : Tg} (he : PE X e (vE g W cx m)) (hg : PG X tg (vG g cx t)) (hs : noSw e = true) (hw : swappedStores [tg] e X.env = pure none) (hn : notStar tg = true) : PS X (.Assign [tg] e pos) (vS g W cx (.asg t m)) :=
  weakS (ps_asg he hg (noSw_ok hs) hw (by cases tg <;> first | rfl | cases hn)) asg_read
/-- name = [..] -/
theorem r_lc {i : Nat} {y : Str} {py spos : Pos} {fz : Bool} {elt tg iter : Expr} {ifs : List Expr} {scope : Scope} {own : List Nat} {t : Tg} {it : It} {c : Eo} {e : E} (b : BlkIn X g cx elt tg ifs scope own t c e) (hi : PI X tg iter (vI g W cx it)) (hs : notSet iter = true)
    (hy : X.N[i]? = some y) (hyl : X.env.scope.names.lookup y = some .local) (hk : X.env.scope.kind = .function) (hl : (py.line == pos.line) = true) (ha : (scope.names.any fun (n, k) => n == y && (k == .local || k == .cell)) = false) :
    PS X (.Assign [.Name y py] (.ListComp elt [⟨tg, iter, ifs, 0⟩] scope pos) spos) (vS g W cx (.asg (.nm i) (.comp fz own t it c e))) := by
  obtain ⟨ownp, ok, rfl⟩ := b.ok
  have base := ps_setLc (spos := spos) b.calm b.nd hy hyl (sw_true hk hyl hl ha) hi ok b.tg b.ts b.el (notSet_ok hs)
  refine weakS base fun D σ H w => ?_
  have w := asg_read D σ H w
  have w : vE g W cx (.comp fz (ownp.map (·.2)) t it c e) σ H fun x H1 => vG g cx (.nm i) x σ H1 D.nx := w
  have imp : ∀ {R R' : L2.V → Hp → Prop}, (∀ x H, R x H → R' x H) → vE g W cx (.comp fz (ownp.map (·.2)) t it c e) σ H R → vE g W cx (.comp fz (ownp.map (·.2)) t it c e) σ H R' := by
    rintro R R' hi ⟨ξ, A, α, h, env, RR, P⟩
    refine ⟨ξ, A, α, h, env, RR, ?_⟩
    cases q : E.ev cx env (.comp fz (ownp.map (·.2)) t it c e) h with
    | stuck => rw [q] at P; exact P
    | exc c fs h1 => rw [q] at P; exact P
    | ok d h1 => rw [q] at P; exact fun α1 H1 x e1 R1 r1 => hi _ _ (P α1 H1 x e1 R1 r1)
  refine comp_read b.nms σ H _ (imp (fun x H1 q => ?_) w)
  obtain ⟨ξ, A, α, h, env, d, R, r, P⟩ := q
  exact P α H1 (σ.set i (some x)) .refl ⟨R.x ▸ R.e.set (.rep r), R.h, rfl⟩ fun vs hv => wipe_set (hv i (by simp [Tg.nms]))
/-- stores that Python swaps -/
def swP (kd : Str → Option NameKind) (ts vs : List Expr) : Option (Option (List Str)) :=
  if !(ts.length == 2 || ts.length == 3) || vs.length != ts.length then some none
  else if vs.any (fun | .Starred .. => true | _ => false) then some none
  else
    let line := (ts.head?.map (·.pos.line)).getD 0
    let names := ts.filterMap fun
      | .Name id pos => if kd id == some .local && pos.line == line then some id else none
      | _ => none
    if names.length != ts.length || names.eraseDups.length != names.length then some none
    else if vs.all (foldedForSure 8) then some none
    else if vs.all (constantsAlone 8) then none
    else some (some names)
theorem swP_ok {env : PySem.Env} {ts vs : List Expr} {k k2 : Nat} {p p2 : Pos} {r : Option (List Str)} (hk : env.scope.kind = .function) (h : swP env.kindOf ts vs = some r) : swappedStores [.Tuple ts k p] (.Tuple vs k2 p2) env = pure r := by
  have hb : (env.blockKind != .function) = false := by unfold PySem.Env.blockKind; rw [hk]; rfl
  unfold swP at h
  unfold swappedStores
  dsimp only
  simp only [hb, Bool.or_false]
  split at h
  · rename_i c; cases h; exact if_pos c
  rename_i c0
  refine (if_neg c0).trans ?_
  split at h
  · rename_i c; cases h; exact if_pos c
  rename_i c1
  refine (if_neg c1).trans ?_
  dsimp only at h
  split at h
  · rename_i c; cases h; exact if_pos c
  rename_i c2
  refine (if_neg c2).trans ?_
  split at h
  · rename_i c; cases h; exact if_pos c
  rename_i c3
  refine (if_neg c3).trans ?_
  split at h
  · cases h
  rename_i c4
  cases h
  exact if_neg c4
theorem r_par2 {i j : Nat} {x y : Str} {a b : Expr} {ma mb : E} {px py pt pt2 : Pos} {kt k2 : Nat} (hc : X.calm = true) (hN : X.N.Nodup) (hk : X.env.scope.kind = .function) (hi : X.N[i]? = some x) (hj : X.N[j]? = some y) (hij : i ≠ j)
    (hx : X.env.scope.names.lookup x = some .local) (hy : X.env.scope.names.lookup y = some .local) (ha : PA X [a, b] (vA g W cx (.cons ma (.cons mb .nil)))) (hw : swP X.env.kindOf [.Name x px, .Name y py] [a, b] = some (some [x, y])) :
    PS X (.Assign [.Tuple [.Name x px, .Name y py] kt pt] (.Tuple [a, b] k2 pt2) pos) (vS g W cx (.par [i, j] (.cons ma (.cons mb .nil)))) := by
  refine weakS (ps_par hc hN hi hj hij hx hy ha (swP_ok hk hw) rfl) fun D σ H ⟨ξ, A, α, h, env, R, P⟩ => ?_
  have P : PostS g A α H W D (((Es.cons ma (.cons mb .nil)).ev cx env h).at env fun ds h => match setAll env [i, j] ds with
    | some σ' => .ok (.nx σ') h
    | none => .stuck) := P
  refine vA_at R P fun ds h1 α1 H1 xs _ e1 R1 r1 P1 => ?_
  cases r1 with
  | nil => exact False.elim P1
  | cons r1 rr =>
    cases rr with
    | nil => exact False.elim P1
    | cons r2 rr =>
      cases rr with
      | cons _ _ => exact False.elim P1
      | nil => exact ⟨_, _, rfl, P1 α1 H1 _ .refl ⟨R1.x ▸ (R1.e.set (.rep r1)).set (.rep r2), R1.h, rfl⟩⟩
theorem r_par3 {i j l : Nat} {x y z : Str} {a b c : Expr} {ma mb mc : E} {px py pz pt pt2 : Pos} {kt k2 : Nat} (hc : X.calm = true) (hN : X.N.Nodup) (hk : X.env.scope.kind = .function) (hi : X.N[i]? = some x) (hj : X.N[j]? = some y) (hl : X.N[l]? = some z) (hij : i ≠ j) (hil : i ≠ l) (hjl : j ≠ l)
    (hx : X.env.scope.names.lookup x = some .local) (hy : X.env.scope.names.lookup y = some .local) (hz : X.env.scope.names.lookup z = some .local) (ha : PA X [a, b, c] (vA g W cx (.cons ma (.cons mb (.cons mc .nil))))) (hw : swP X.env.kindOf [.Name x px, .Name y py, .Name z pz] [a, b, c] = some (some [x, y, z])) :
    PS X (.Assign [.Tuple [.Name x px, .Name y py, .Name z pz] kt pt] (.Tuple [a, b, c] k2 pt2) pos) (vS g W cx (.par [i, j, l] (.cons ma (.cons mb (.cons mc .nil))))) := by
  refine weakS (ps_par3 hc hN hi hj hl hij hil hjl hx hy hz ha (swP_ok hk hw) rfl) fun D σ H ⟨ξ, A, α, h, env, R, P⟩ => ?_
  have P : PostS g A α H W D (((Es.cons ma (.cons mb (.cons mc .nil))).ev cx env h).at env fun ds h => match setAll env [i, j, l] ds with
    | some σ' => .ok (.nx σ') h
    | none => .stuck) := P
  refine vA_at R P fun ds h1 α1 H1 xs _ e1 R1 r1 P1 => ?_
  cases r1 with
  | nil => exact False.elim P1
  | cons r1 rr =>
    cases rr with
    | nil => exact False.elim P1
    | cons r2 rr =>
      cases rr with
      | nil => exact False.elim P1
      | cons r3 rr =>
        cases rr with
        | cons _ _ => exact False.elim P1
        | nil => exact ⟨_, _, _, rfl, P1 α1 H1 _ .refl ⟨R1.x ▸ ((R1.e.set (.rep r1)).set (.rep r2)).set (.rep r3), R1.h, rfl⟩⟩
/-! ### if, blocks -/
theorem vT_at {m : E} {k : Bool → Lh → Rf} {R' : Bool → Hp → Prop} (R : Rl g ξ A α h env σ H) {D : L2.Ends} (P : PostS g A α H W D ((m.ev cx env h).at env fun x h => match truth h x with
      | some b => k b h
      | none => .stuck)) (f : ∀ b h1 α1 H1, Ext α H α1 H1 → Rl g ξ A α1 h1 env σ H1 → PostS g A α1 H1 W D (k b h1) → R' b H1) : vT g W cx m σ H R' := by
  refine ⟨ξ, A, α, h, env, R, ?_⟩
  cases q : m.ev cx env h with
  | stuck => rw [q] at P; exact P
  | exc c fs h1 =>
    rw [q] at P
    exact fun α1 H1 d e1 R1 x1 => P α1 H1 σ d e1 (R.step e1 R1).x' x1
  | ok d h1 =>
    rw [q] at P
    have P : PostS g A α H W D (match truth h1 d with
      | some b => k b h1
      | none => .stuck) := P
    cases q2 : truth h1 d with
    | none => rw [q2] at P; exact False.elim P
    | some b =>
      rw [q2] at P
      exact ⟨b, q2, fun α1 H1 e1 R1 => f b h1 α1 H1 e1 (R.step e1 R1) (PostS.mono P e1)⟩
theorem ite_eq {h : Lh} {x : TB.D} {β : Type} {a b n : β} : (match truth h x with
    | some true => a
    | some false => b
    | none => n) = match truth h x with
    | some c => (if c = true then a else b)
    | none => n := by
  cases truth h x with
  | none => rfl
  | some c => cases c <;> rfl
theorem r_ite {c : Expr} {a b : List Stmt} {mc : E} {ma mb : Ss} (hc : PT X c (vT g W cx mc)) (ha : PSs X a (vSs g W cx ma)) (hb : PSs X b (vSs g W cx mb)) : PS X (.If c a b pos) (vS g W cx (.ite mc ma mb)) := by
  refine weakS (ps_if hc ha hb) fun D σ H ⟨ξ, A, α, h, env, R, P⟩ => ?_
  have P : PostS g A α H W D ((mc.ev cx env h).at env fun x h => match truth h x with
    | some true => ma.ev cx env h
    | some false => mb.ev cx env h
    | none => .stuck) := P
  simp only [ite_eq] at P
  refine vT_at (k := fun c h => if c = true then ma.ev cx env h else mb.ev cx env h) R P fun b h1 α1 H1 e1 R1 P1 => ?_
  cases b with
  | true =>
    rw [if_pos rfl] at P1 ⊢
    exact ⟨ξ, A, α1, h1, env, R1, P1⟩
  | false =>
    rw [if_neg Bool.false_ne_true] at P1 ⊢
    exact ⟨ξ, A, α1, h1, env, R1, P1⟩
theorem rs_nil : PSs X [] (vSs g W cx .nil) := by
  refine weakSs pss_nil fun D σ H ⟨ξ, A, α, h, env, R, P⟩ => ?_
  have P : PostS g A α H W D (.ok (.nx env) h) := P
  exact P α H σ .refl R.x'
theorem post_then {D : L2.Ends} {r : Rf} {k : Env → Lh → Rf} {t : L2.TS} (P : PostS g A α H W D (r.then k))
    (f : ∀ env1 h1 α1 H1 σ1, Ext α H α1 H1 → Rl g g.xi A α1 h1 env1 σ1 H1 → PostS g A α1 H1 W D (k env1 h1) → t D σ1 H1) : PostS g A α H W { D with nx := t D } r := by
  cases r with
  | stuck => exact P
  | exc c fs env' h' => exact P
  | ok fl h' =>
    cases fl with
    | nx env' => exact fun α1 H1 σ1 e1 R1 => f env' h' α1 H1 σ1 e1 R1 (PostS.mono P e1)
    | rt d => exact P
    | bk env' => exact P
    | ct env' => exact P
theorem rs_cons {s : Stmt} {ss : List Stmt} {m : S} {ms : Ss} (h1 : PS X s (vS g W cx m)) (h2 : PSs X ss (vSs g W cx ms)) : PSs X (s :: ss) (vSs g W cx (.cons m ms)) := by
  refine weakSs (pss_cons h1 h2) fun D σ H ⟨ξ, A, α, h, env, R, P⟩ => ⟨ξ, A, α, h, env, R, ?_⟩
  exact post_then (t := vSs g W cx ms) (show PostS g A α H W D ((m.ev cx env h).then fun σ h => ms.ev cx σ h) from P) fun env1 h1 α1 H1 σ1 e1 R1 P1 => ⟨_, A, α1, h1, env1, R1, P1⟩
/-! ### loops -/
/-- what a turn is to reach -/
theorem post_turn {D : L2.Ends} {r : Rf} {k : Env → Lh → Rf} {N : L2.St → Hp → Prop} {α₀ : List Addr} {H₀ : Hp} (e0 : Ext α₀ H₀ α H) (P : PostS g A α₀ H₀ W D (r.turn k))
    (f : ∀ env1 h1 α1 H1 σ1, Ext α H α1 H1 → Rl g g.xi A α1 h1 env1 σ1 H1 → PostS g A α₀ H₀ W D (k env1 h1) → N σ1 H1) : PostS g A α H W { D with nx := N, ct := N, bk := D.nx } r := by
  cases r with
  | stuck => exact P
  | exc c fs env' h' => exact fun α1 H1 σ1 d e1 => P α1 H1 σ1 d (e0.trans e1)
  | ok fl h' =>
    cases fl with
    | nx env' => exact fun α1 H1 σ1 e1 R1 => f env' h' α1 H1 σ1 e1 R1 P
    | rt d => exact fun α1 H1 x e1 => P α1 H1 x (e0.trans e1)
    | bk env' => exact fun α1 H1 σ1 e1 R1 => P α1 H1 σ1 (e0.trans e1) R1
    | ct env' => exact fun α1 H1 σ1 e1 R1 => f env' h' α1 H1 σ1 e1 R1 P
theorem r_whl {c : Expr} {b : List Stmt} {mc : E} {mb : Ss} (hp : PassesOwn (model X.prog X.w) X.A X.env X.xe) (hc : PT X c (vT g W cx mc)) (hb : PSs X b (vSs g W cx mb)) : PS X (.While c b [] pos) (vS g W cx (.whl mc mb)) := by
  refine weakS (ps_while hp hc hb) fun D σ H ⟨ξ, A, α, h, env, R, P⟩ => ?_
  have P : PostS g A α H W D (TB.whl (fun σ h => (mc.ev cx σ h).bind fun x h => rsO (truth h x) h) (fun σ h => mb.ev cx σ h) cx.loop env h) := P
  refine ⟨fun n σ2 H2 => ∃ α2 h2 env2, Ext α H α2 H2 ∧ Rl g g.xi A α2 h2 env2 σ2 H2 ∧ PostS g A α H W D (TB.whl (fun σ h => (mc.ev cx σ h).bind fun x h => rsO (truth h x) h) (fun σ h => mb.ev cx σ h) n env2 h2), ⟨cx.loop, α, h, env, .refl, R.x', P⟩, ?_⟩
  rintro n σ2 H2 ⟨α2, h2, env2, e2, R2, P2⟩
  cases n with
  | zero => exact False.elim P2
  | succ n =>
    have P2 : PostS g A α H W D (((mc.ev cx env2 h2).bind fun x h => rsO (truth h x) h).at env2 fun b h => match b with
      | true => (mb.ev cx env2 h).turn fun σ h => TB.whl (fun σ h => (mc.ev cx σ h).bind fun x h => rsO (truth h x) h) (fun σ h => mb.ev cx σ h) n σ h
      | false => .ok (.nx env2) h) := P2
    refine ⟨_, A, α2, h2, env2, R2, ?_⟩
    cases q : mc.ev cx env2 h2 with
    | stuck => rw [q] at P2; exact P2
    | exc c' fs h3 =>
      rw [q] at P2
      exact fun α3 H3 d e3 R3 x3 => P2 α3 H3 σ2 d (e2.trans e3) (R2.step e3 R3) x3
    | ok x h3 =>
      rw [q] at P2
      have P2 : PostS g A α H W D ((rsO (truth h3 x) h3).at env2 fun b h => match b with
        | true => (mb.ev cx env2 h).turn fun σ h => TB.whl (fun σ h => (mc.ev cx σ h).bind fun x h => rsO (truth h x) h) (fun σ h => mb.ev cx σ h) n σ h
        | false => .ok (.nx env2) h) := P2
      cases q2 : truth h3 x with
      | none => rw [q2] at P2; exact False.elim P2
      | some bb =>
        rw [q2] at P2
        refine ⟨bb, q2, fun α3 H3 e3 R3 => ?_⟩
        cases bb with
        | false =>
          rw [if_neg Bool.false_ne_true]
          exact P2 α3 H3 σ2 (e2.trans e3) (R2.step e3 R3)
        | true =>
          rw [if_pos rfl]
          refine ⟨fun σ4 H4 => ∃ α4 h4 env4, Ext α H α4 H4 ∧ Rl g g.xi A α4 h4 env4 σ4 H4 ∧ PostS g A α H W D (TB.whl (fun σ h => (mc.ev cx σ h).bind fun x h => rsO (truth h x) h) (fun σ h => mb.ev cx σ h) n env4 h4), fun σ4 H4 w => ⟨n, Nat.lt_succ_self n, w⟩, ?_⟩
          refine ⟨_, A, α3, h3, env2, R2.step e3 R3, ?_⟩
          exact post_turn (e2.trans e3) P2 fun env4 h4 α4 H4 σ4 e4 R4 P4 => ⟨α4, h4, env4, (e2.trans e3).trans e4, R4, P4⟩
theorem r_fr {tg iter : Expr} {b : List Stmt} {t : Tg} {it : It} {mb : Ss} (hp : PassesOwn (model X.prog X.w) X.A X.env X.xe) (hc : X.calm = true) (hi : PI X tg iter (vI g W cx it)) (hg : PG X tg (vG g cx t)) (hb : PSs X b (vSs g W cx mb)) (hs : notSet iter = true) :
    PS X (.For tg iter b [] pos) (vS g W cx (.fr t it mb)) := by
  refine weakS (ps_for hp hc hi hg hb (notSet_ok hs)) fun D σ H ⟨ξ, A, α, h, env, R, P⟩ => ?_
  let step : TB.D → Env → Lh → Rf := fun d σ h => (noexc (t.as cx σ d h)).at σ fun σ h => mb.ev cx σ h
  have P : PostS g A α H W D ((it.ev cx env h).at env fun src h => match src.len h with
    | some n => fors src step n n env h
    | none => .stuck) := P
  refine ⟨ξ, A, α, h, env, R, ?_⟩
  cases q : it.ev cx env h with
  | stuck => rw [q] at P; exact P
  | exc c fs h1 =>
    rw [q] at P
    exact fun α1 H1 d e1 R1 x1 => P α1 H1 σ d e1 (R.step e1 R1).x' x1
  | ok src h1 =>
    rw [q] at P
    have P : PostS g A α H W D (match src.len h1 with
      | some n => fors src step n n env h1
      | none => .stuck) := P
    cases q2 : src.len h1 with
    | none => rw [q2] at P; exact False.elim P
    | some n =>
      rw [q2] at P
      have P : PostS g A α H W D (fors src step n n env h1) := P
      refine ⟨n, q2, fun α1 H1 J e1 R1 wk => ?_⟩
      have P := PostS.mono P e1
      have R1' := R.step e1 R1
      refine ⟨fun i m σ2 H2 => ∃ α2 h2 env2, i ≤ n ∧ m = n - i ∧ Ext α1 H1 α2 H2 ∧ Rl g g.xi A α2 h2 env2 σ2 H2 ∧ PostS g A α1 H1 W D (fors src step n (n - i) env2 h2), ⟨n, α1, h1, env, Nat.zero_le _, rfl, .refl, R1'.x', P⟩, ?_⟩
      rintro i m σ2 H2 ⟨α2, h2, env2, hi, rfl, e2, R2, P2⟩
      by_cases hlt : i < n
      · obtain ⟨k, hk⟩ : ∃ k, n - i = k + 1 := ⟨n - i - 1, by omega⟩
        rw [hk] at P2
        have P2 : PostS g A α1 H1 W D (if src.len h2 = some n then match src.at h2 (n - (k + 1)) with
            | some d => (step d env2 h2).turn fun σ h => fors src step n k σ h
            | none => .stuck
          else .stuck) := P2
        by_cases hl : src.len h2 = some n
        · rw [if_pos hl, show n - (k + 1) = i by omega] at P2
          refine .inr ⟨wk.go A α2 h2 H2 i .refl e2 R2.h hl hlt, fun σ4 H4 => ∃ α4 h4 env4, Ext α1 H1 α4 H4 ∧ Rl g g.xi A α4 h4 env4 σ4 H4 ∧ PostS g A α1 H1 W D (fors src step n k env4 h4), ?_, ?_⟩
          · rintro σ4 H4 ⟨α4, h4, env4, w1, w2, w3⟩
            exact ⟨k, by omega, α4, h4, env4, by omega, by omega, w1, w2, by rw [show n - (i + 1) = k by omega]; exact w3⟩
          · intro x H3 hy
            obtain ⟨d, hat, rd, R3, e3⟩ := wk.yld A α2 h2 H2 i x H3 .refl e2 R2.h hl hlt hy
            rw [hat] at P2
            have P2 : PostS g A α1 H1 W D ((step d env2 h2).turn fun σ h => fors src step n k σ h) := P2
            refine ⟨_, A, α2, h2, env2, d, R2.step e3 R3, rd, ?_⟩
            cases q3 : t.as cx env2 d h2 with
            | stuck =>
              have : step d env2 h2 = .stuck := by show (noexc (t.as cx env2 d h2)).at env2 _ = _; rw [q3]; rfl
              rw [this] at P2; exact P2
            | exc c fs h4 =>
              have : step d env2 h2 = .stuck := by show (noexc (t.as cx env2 d h2)).at env2 _ = _; rw [q3]; rfl
              rw [this] at P2; exact P2
            | ok env4 h4 =>
              have : step d env2 h2 = mb.ev cx env4 h4 := by show (noexc (t.as cx env2 d h2)).at env2 _ = _; rw [q3]; rfl
              rw [this] at P2
              intro α4 H4 σ4 e4 R4 _
              refine ⟨_, A, α4, h4, env4, R4, ?_⟩
              have ee := (e2.trans e3).trans e4
              exact post_turn ee P2 fun env5 h5 α5 H5 σ5 e5 R5 P5 => ⟨α5, h5, env5, ee.trans e5, R5, P5⟩
        · rw [if_neg hl] at P2; exact False.elim P2
      · have hin : i = n := by omega
        subst hin
        rw [Nat.sub_self] at P2
        have P2 : PostS g A α1 H1 W D (if src.len h2 = some i then .ok (.nx env2) h2 else .stuck) := P2
        by_cases hl : src.len h2 = some i
        · rw [if_pos hl] at P2
          exact .inl ⟨wk.stop A α2 h2 H2 .refl e2 R2.h hl, P2 α2 H2 σ2 e2 R2⟩
        · rw [if_neg hl] at P2; exact False.elim P2
end
end TB

end

section
set_option Elab.async false
set_option linter.all false
set_option maxHeartbeats 1000000
namespace TB
open PySem L2

/-! ### __init__ that stores its parameters -/
def spInit (K : Frag) (flds : List Str) : Sp := fun vs H Q _ => ∃ (a C : Addr) (ws : List L2.V), vs = .ref a :: ws ∧ ws.length = flds.length ∧ ExcK K C ∧ (∀ f ∈ flds, PySem.W.findIn K (.ref C) f = some none) ∧ H a = some (exo a C none) ∧
  ∀ dx H2, H dx = none → dx ≠ a → H2 a = some (exo a C (some dx)) → H2 dx = some (exd dx (flds.zip ws).reverse) → (∀ b, b ≠ a → b ≠ dx → H2 b = H b) → Q .non H2
def tInit (K : Frag) : List Str → Nat → L2.TS
  | [], _ => tNext
  | f :: fs, j => tSeq (tPut K f (tVar 0) (tVar (j + 1))) (tInit K fs (j + 1))
theorem init_rest {K : Frag} {D : L2.Ends} {σ : L2.St} {a C dx : Addr} (T : ExcK K C) (h0 : σ[0]? = some (some (.ref a))) (hne : dx ≠ a) : ∀ (fs : List Str) (ws : List L2.V) (j : Nat) (H : Hp) (acc : List (Str × L2.V)), fs.length = ws.length → (∀ k y, ws[k]? = some y → σ[j + 1 + k]? = some (some y)) →
    (∀ f ∈ fs, PySem.W.findIn K (.ref C) f = some none) → H a = some (exo a C (some dx)) → H dx = some (exd dx acc) → acc.length + fs.length ≤ 900 →
    (∀ H2, H2 a = some (exo a C (some dx)) → H2 dx = some (exd dx ((fs.zip ws).reverse ++ acc)) → (∀ b, b ≠ a → b ≠ dx → H2 b = H b) → D.nx σ H2) → tInit K fs j D σ H
  | [], [], j, H, acc, _, _, _, ha, hd, _, q => q H ha hd fun _ _ _ => rfl
  | [], _ :: _, _, _, _, e, _, _, _, _, _, _ => by cases e
  | _ :: _, [], _, _, _, e, _, _, _, _, _, _ => by cases e
  | f :: fs, y :: ws, j, H, acc, e, hs, hno, ha, hd, hl, q => by
    have hl : acc.length + (fs.length + 1) ≤ 900 := hl
    refine ⟨y, hs 0 y rfl, _, h0, a, C, rfl, T, hno f List.mem_cons_self, .inr ⟨dx, acc, ha, hd, by omega, ?_⟩⟩
    refine init_rest T h0 hne fs ws (j + 1) _ ((f, y) :: acc) (Nat.succ.inj e) (fun k z hk => ?_) (fun f hf => hno f (List.mem_cons_of_mem _ hf)) ((upd_ne hne.symm).trans ha) upd_same (by simp only [List.length_cons]; omega) fun H2 w1 w2 w3 => q H2 w1 ?_ fun b n1 n2 => (w3 b n1 n2).trans (upd_ne n2)
    · rw [show j + 1 + 1 + k = j + 1 + (k + 1) by omega]; exact hs (k + 1) z hk
    · rw [w2]; simp
theorem init_all {K : Frag} {D : L2.Ends} {σ : L2.St} {a C : Addr} (T : ExcK K C) (h0 : σ[0]? = some (some (.ref a))) (fs : List Str) (ws : List L2.V) (H : Hp) (hne : fs ≠ []) (e : fs.length = ws.length) (hs : ∀ k y, ws[k]? = some y → σ[1 + k]? = some (some y))
    (hno : ∀ f ∈ fs, PySem.W.findIn K (.ref C) f = some none) (ha : H a = some (exo a C none)) (hl : fs.length ≤ 900)
    (q : ∀ dx H2, H dx = none → dx ≠ a → H2 a = some (exo a C (some dx)) → H2 dx = some (exd dx (fs.zip ws).reverse) → (∀ b, b ≠ a → b ≠ dx → H2 b = H b) → D.nx σ H2) : tInit K fs 0 D σ H := by
  cases fs with
  | nil => exact absurd rfl hne
  | cons f fs =>
    cases ws with
    | nil => cases e
    | cons y ws =>
      refine ⟨y, hs 0 y rfl, _, h0, a, C, rfl, T, hno f List.mem_cons_self, .inl ⟨ha, fun dx hn hd => ?_⟩⟩
      have hdx : (upd (upd H dx (exd dx [(f, y)])) a (exo a C (some dx))) dx = some (exd dx [(f, y)]) := by rw [upd_ne hd, upd_same]
      refine init_rest T h0 hd fs ws 1 _ [(f, y)] (Nat.succ.inj e) (fun k z hk => ?_) (fun f hf => hno f (List.mem_cons_of_mem _ hf)) upd_same hdx (by simp only [List.length_cons, List.length_nil] at hl ⊢; omega) fun H2 w1 w2 w3 => q dx H2 hn hd w1 ?_ fun b n1 n2 => ?_
      · rw [show 1 + 1 + k = 1 + (k + 1) by omega]; exact hs (k + 1) z hk
      · rw [w2]; simp
      · rw [w3 b n1 n2, upd_ne n1, upd_ne n2]
/-- the body as it must stand -/
def initBody (self : Str) : List Stmt → List Str → List Str → Bool
  | [], [], [] => true
  | .Assign [.Attribute (.Name s _) f _] (.Name p _) _ :: r, g :: fs, q :: ps => decide (s = self) && (decide (f = g) && (decide (p = q) && initBody self r fs ps))
  | _, _, _ => false
theorem init_pss {X : L2.Cx} {self : Str} (h0 : X.N[0]? = some self) (hv0 : Vis X.env.scope self) (hd0 : (self == ("__debug__" : Str)) = false) (hc0 : (self == ("__classdict__" : Str)) = false) : ∀ (body : List Stmt) (fs ps : List Str) (j : Nat), initBody self body fs ps = true → (∀ k p, ps[k]? = some p → X.N[j + 1 + k]? = some p ∧ Vis X.env.scope p ∧ (p == ("__debug__" : Str)) = false ∧ (p == ("__classdict__" : Str)) = false) → PSs X body (tInit X.K fs j)
  | [], [], [], _, _, _ => pss_nil
  | [], _ :: _, _, _, h, _ => by cases h
  | [], [], _ :: _, _, h, _ => by cases h
  | st :: r, fs, ps, j, h, hp => by
    unfold initBody at h
    split at h
    · exact (List.cons_ne_nil _ _ ‹_ :: _ = []›).elim
    · rename_i s p1 f p2 p p3 p4 r' g fs' q ps' e1
      cases e1
      obtain ⟨k1, hh1⟩ := Bool.and_eq_true_iff.mp h
      obtain ⟨k2, hh2⟩ := Bool.and_eq_true_iff.mp hh1
      obtain ⟨k3, hh⟩ := Bool.and_eq_true_iff.mp hh2
      have k1 := of_decide_eq_true k1
      have k2 := of_decide_eq_true k2
      have k3 := of_decide_eq_true k3
      subst k1 k2 k3
      obtain ⟨n1, n2, n3, n4⟩ := hp 0 _ rfl
      refine pss_cons (ps_put (pe_var h0 hv0 hd0 hc0) (pe_var n1 n2 n3 n4) rfl) (init_pss h0 hv0 hd0 hc0 _ _ _ (j + 1) hh fun k p hk => ?_)
      rw [show j + 1 + 1 + k = j + 1 + (k + 1) by omega]
      exact hp (k + 1) p hk
    · cases h
theorem start_get {N : List Str} {vs : List L2.V} {k : Nat} {y : L2.V} (h : vs[k]? = some y) : (L2.start N vs)[k]? = some (some y) := by
  unfold L2.start
  rw [List.getElem?_append_left (by simpa using (List.getElem?_eq_some_iff.mp h).1), List.getElem?_map, h]
  rfl
theorem init_ok {P : Program} {w : World} {K : Frag} {mg : Str → Option Value} {base : Heap} {x qual : Str} {st : Stmt} {fI : Addr} {fd : FuncData} {self : Str} {ps flds : List Str} (F : Fun K x qual st fI fd) (S : FnScope (self :: ps) (self :: ps) (defScope st)) (hb : initBody self (defBody st) flds ps = true) (hl : ps.length = flds.length) (hne : flds ≠ []) (h9 : flds.length ≤ 900)
    (hd : ∀ p ∈ self :: ps, (p == ("__debug__" : Str)) = false ∧ (p == ("__classdict__" : Str)) = false) : FnOk P w K mg base (L2.CX P w) 1 fI fd (self :: ps) (spInit K flds) := by
  refine F.okX S (fun vs H Q E h => ?_) fun cdv A outer s H vs Q E hr h => ?_
  · obtain ⟨a, C, ws, rfl, e, _⟩ := h
    simp [e, hl]
  · have vis : ∀ p ∈ self :: ps, Vis (defScope st) p := fun p hp => (S.par p hp).elim .inl fun z => .inr (.inl z)
    refine ⟨tInit K flds 0, init_pss (X := cxOf (L2.CX P w) P w K mg base (self :: ps) qual (defScope st) fI cdv A outer s H E) rfl (vis _ List.mem_cons_self) (hd _ List.mem_cons_self).1 (hd _ List.mem_cons_self).2 _ _ _ 0 hb fun k p hk => ?_, ?_⟩
    · have hm : p ∈ self :: ps := List.mem_cons_of_mem _ (List.mem_of_getElem? hk)
      refine ⟨?_, vis p hm, (hd p hm).1, (hd p hm).2⟩
      rw [show 0 + 1 + k = k + 1 by omega]; exact hk
    · obtain ⟨a, C, ws, rfl, e, T, hno, ha, q⟩ := h
      exact init_all T (start_get rfl) flds ws H hne e.symm (fun k y hk => start_get (by rw [show 1 + k = k + 1 by omega]; exact hk)) hno ha h9 fun dx H2 n1 n2 n3 n4 n5 => q dx H2 n1 n2 n3 n4 n5

/-! ### raise C(e, ..) -/
theorem zip_sub : ∀ (fs : List Str) (ws : List L2.V), ((fs.zip ws).map (fun p : Str × L2.V => p.1)).Sublist fs
  | [], _ => by simp
  | _ :: _, [] => by simp
  | f :: fs, w :: ws => (zip_sub fs ws).cons₂ f
theorem look_rev : ∀ {fs : List Str} {ws : List L2.V} {j : Nat} {f : Str} {y : L2.V}, fs.Nodup → fs[j]? = some f → ws[j]? = some y → ((fs.zip ws).reverse).lookup f = some y := by
  intro fs ws j f y hn hf hy
  have key : ∀ {l : List (Str × L2.V)}, (l.map (·.1)).Nodup → (f, y) ∈ l → l.lookup f = some y := by
    intro l
    induction l with
    | nil => intro _ m; cases m
    | cons p l ih =>
      intro hn m
      obtain ⟨k, v⟩ := p
      rw [List.map_cons, List.nodup_cons] at hn
      rw [lookup_put]
      rcases List.mem_cons.mp m with m | m
      · cases m; rw [if_pos rfl]
      · have : f ≠ k := fun e => hn.1 (e ▸ List.mem_map.mpr ⟨(f, y), m, rfl⟩)
        rw [if_neg this]; exact ih hn.2 m
  refine key ?_ (List.mem_reverse.mpr ?_)
  · rw [List.map_reverse]
    unfold List.Nodup
    rw [List.pairwise_reverse]
    exact (List.Pairwise.sublist (zip_sub fs ws) hn).imp Ne.symm
  · have : (fs.zip ws)[j]? = some (f, y) := by rw [List.getElem?_zip_eq_some]; exact ⟨hf, hy⟩
    exact List.mem_of_getElem? this
/-- a class that is raised -/
structure ClsIn (X : L2.Cx) (g : G) (c : Nat) (x : Str) : Prop where
  lt : c < g.n
  gl : Gl X x
  db : (x == ("__debug__" : Str)) = false
  mg : X.mg x = some (.ref (g.cls c))
  k : ExcK X.K (g.cls c)
  nof : ∀ f ∈ g.flds c, PySem.W.findIn X.K (.ref (g.cls c)) f = some none
  nd : (g.flds c).Nodup
  init : ∃ (fI : Addr) (fd : FuncData) (k : Nat) (ps : List Str), PySem.W.findIn X.K (.ref (g.cls c)) "__init__" = some (some (.ref fI)) ∧ PySem.W.typeIn X.K (.ref fI) = some (.type "function") ∧ FnOk X.prog X.w X.K X.mg X.base (L2.CX X.prog X.w) k fI fd ps (spInit X.K (g.flds c)) ∧ Room (k + 1) X.A ∧ Binds X.K fd ps []
section
variable {X : L2.Cx} {g : G} {W : L2.WX} {cx : Cx} {pos : Pos}
theorem r_rse {c : Nat} {x : Str} {p p2 : Pos} {e : Expr} {es : List Expr} {ms : Es} (hc : X.calm = true) (tk : Takes X W) (C : ClsIn X g c x) (ha : PA X (e :: es) (vA g W cx ms)) (hs : (e :: es).all notStar = true) (hl : ms.len = (g.flds c).length) (h9 : ms.len ≤ 900) :
    PS X (.Raise (some (.Call (.Name x p) (e :: es) [] p2)) none pos) (vS g W cx (.rse c ms)) := by
  obtain ⟨fI, fd, k, ps, iC, tI, F, hr, hb⟩ := C.init
  refine weakS (ps_raise hc tk (pmk_x C.k iC tI F hr hb passL C.gl C.mg ha C.db hs)) fun D σ H ⟨ξ, A, α, h, env, R, P⟩ => ?_
  have P : PostS g A α H W D ((ms.ev cx env h).at env fun ds h => .exc c ds env h) := P
  have w : vA g W cx ms σ H fun vs H1 => ∀ a, H1 a = none → spInit X.K (g.flds c) (.ref a :: vs) (upd H1 a (exo a (g.cls c) none))
      (fun v H2 => v = .non ∧ ∃ (d : Addr) (fs : List (Str × L2.V)), H2 a = some (exo a (g.cls c) (some d)) ∧ H2 d = some (exd d fs) ∧ H1 d = none ∧ W (.ref (g.cls c)) (some d) σ (upd (del H2 a) d (.xd fs))) (fun _ _ _ => False) := by
    refine vA_at R P fun ds h1 α1 H1 vs hq e1 R1 r1 P1 a ha => ?_
    have hdl : ds.length = (g.flds c).length := (ev_len ms h ds h1 hq).trans hl
    refine ⟨a, g.cls c, vs, rfl, by rw [← r1.length, hdl], C.k, C.nof, upd_same, fun dx H2 n1 n2 n3 n4 n5 => ⟨rfl, dx, _, n3, n4, ?_, ?_⟩⟩
    · rw [upd_ne n2] at n1; exact n1
    · have n1 : H1 dx = none := by rw [upd_ne n2] at n1; exact n1
      have eH : upd (del H2 a) dx (.xd ((g.flds c).zip vs).reverse) = upd H1 dx (.xd ((g.flds c).zip vs).reverse) := by
        funext b
        by_cases hbd : b = dx
        · subst hbd; rw [upd_same, upd_same]
        · rw [upd_ne hbd, upd_ne hbd]
          by_cases hba : b = a
          · subst hba; rw [del_same, ha]
          · rw [del_ne hba, n5 b hba hbd, upd_ne hba]
      rw [eH]
      have e2 := Ext.alloc (α := α1) (o := .xd ((g.flds c).zip vs).reverse) n1
      have R2 := R1.h.alloc (o := .xd ((g.flds c).zip vs).reverse) n1
      refine P1 α1 _ σ (some dx) e2 (R1.step e2 R2).x' ⟨⟨C.lt, hdl⟩, .inr ⟨dx, _, rfl, (R1.h.fresh n1).1, (R1.h.fresh n1).2, upd_same, fun j f v hf hv => ?_⟩⟩
      obtain ⟨y, hy, ry⟩ := r1.get hv
      exact ⟨y, look_rev C.nd hf hy, ry.ext e2⟩
  obtain ⟨ξ, A, α, h, env, R, P⟩ := vA_len (hl := rfl) σ H _ w
  refine ⟨ξ, A, α, h, env, R, ?_⟩
  cases q : ms.ev cx env h with
  | stuck => rw [q] at P; exact P
  | exc c' fs h1 => rw [q] at P; exact P
  | ok ds h1 =>
    rw [q] at P
    exact fun α1 H1 xs e1 R1 r1 => ⟨by rw [(P α1 H1 xs e1 R1 r1).1]; omega, (P α1 H1 xs e1 R1 r1).2⟩
end
end TB

end

section
set_option Elab.async false
set_option linter.all false
set_option maxRecDepth 100000
set_option maxHeartbeats 2000000

/-! ### try with several clauses, with names or without -/
namespace TB
open PySem PySem.Spec PyProof.Rows L2
abbrev Cl := Value × Option Nat × (Addr → Value → Option Addr → L2.TS)
/-- behind a suite whose name stands in slot i -/
def off (D : L2.Ends) : Option Nat → L2.Ends
  | none => D
  | some i => { nx := fun σ H => D.nx (σ.set i none) H, rt := D.rt, bk := fun σ H => D.bk (σ.set i none) H, ct := fun σ H => D.ct (σ.set i none) H }
def onto (σ : L2.St) (a : Addr) : Option Nat → L2.St
  | none => σ
  | some i => σ.set i (some (.ref a))
/-- what the clauses wish of an exception -/
def wCl (K : Frag) (Wout : L2.WX) (D : L2.Ends) : List Cl → L2.WX
  | [] => Wout
  | (c, i, ts) :: r => fun cls d σ H => ∃ b, PySem.W.exmOne K cls c = some b ∧ (b = true → ∀ a, H a = none → ts a cls d (off D i) (onto σ a i) H) ∧ (b = false → wCl K Wout D r cls d σ H)
inductive ClOk (X : L2.Cx) : List ExceptHandler → List Cl → Prop
  | nil : ClOk X [] []
  | cons {x : Str} {c : Value} {i : Option Nat} {n : Option Str} {ts : Addr → Value → Option Addr → L2.TS} {b₀ : Stmt} {suite : List Stmt} {np pos' : Pos} {hds : List ExceptHandler} {l : List Cl} (hc : Names X x c)
      (hn : (n = none ∧ i = none) ∨ ∃ m j, n = some m ∧ i = some j ∧ X.N[j]? = some m ∧ X.env.kindOf m = some .local)
      (hs : ∀ (a : Addr) (oe : Obj) (cls : Value) (d : Option Addr) (pn : List (Addr × Obj)), Zc cls d oe → (∃ vs, oe.data = .fields vs) → PSs (X.suite a ((a, oe) :: pn)) (b₀ :: suite) (ts a cls d)) (r : ClOk X hds l) :
      ClOk X (.ExceptHandler (some (.Name x np)) n (b₀ :: suite) pos' :: hds) ((c, i, ts) :: l)
section
variable {X : L2.Cx} {body : List Stmt} {h₀ : ExceptHandler} {hds : List ExceptHandler} {l : List Cl} {pos : Pos} {tb : L2.WX → L2.TS} {Wout : L2.WX}
/-- the clauses' walk: the exception at a has landed -/
theorem cl_walk (hN : X.N.Nodup) (hf : X.env.frame = some X.env.locals) (tk : Takes X Wout) {pins : List (Addr × Obj)} {D : L2.Ends} {B : Heap} {s' sI : Shared} {σ : L2.St} {H : Hp} {a : Addr} {cls : Value} {d : Option Addr} {h3 : Heap}
    (hs : X.stack = X.env :: X.outer) (J : Inv X pins σ H sI) (up : s'.heap.UpToSlots h3) (fl : HandSPX.FlyingZ B (X.env :: X.outer) a (Zc cls d) h3) (na : H a = none) (os : s'.os = sI.os) (ag : AllBare s'.gens)
    (nL : a ≠ X.env.locals) (nF : a ∉ X.fs) (J3 : Inv X pins σ H { s' with heap := h3 }) (landed : ∀ h4, HandSPX.FlyingZ B (X.env :: X.outer) a (Zc cls d) h4 → h3.UpToSlots h4 → Inv X pins σ H { s' with heap := h4 })
    (out : ∀ h4, HandSPX.HeldZ B (X.env :: X.outer) a (Zc cls d) X.env.locals h4 → h3.UpToSlots h4 → Wout cls d σ H → X.xe (.ref a) { s' with heap := h4 }) :
    ∀ {hds : List ExceptHandler} {l : List Cl}, ClOk X hds l → wCl X.K Wout D l cls d σ H → wpAny (model X.prog X.w) X.A (handleBy (.ref a) X.env hds) (SP X pins D) X.xe { s' with heap := h3 } := by
  have ok := J.ok
  obtain ⟨oe3, vs3, he3, hz3, hd3⟩ := fl.there
  have S3 := J3.suite he3 hd3 na nL nF
  intro hds l hk
  induction hk with
  | nil =>
    intro w
    refine wpAny_handleBy_nil ?_
    obtain ⟨k1, k2, k3, oe, vs, T, oT, ts', he, hz, hd, h1, hr⟩ := id fl
    unfold PySem.passOn
    refine wpAny_bind (wpAny_field he hd h1 ?_)
    rw [if_neg (by simp : ¬ ((Value.ref T == Value.none) = true))]
    have go : wpAny (model X.prog X.w) X.A (setFlight (.ref a) X.env.frame) (fun _ s4 => wpAny (model X.prog X.w) X.A (throw (.ref a) : Sem Flow) (SP X pins D) X.xe s4) X.xe { s' with heap := h3 } := by
      rw [hf]
      exact HandSPX.setFlight_upZ fl fun h4 hh4 up4 => wpAny_throw (out h4 hh4 up4 w)
    first
      | exact wpAny_bind (wpAny_pure (wpAny_bind go))
      | exact wpAny_bind go
  | @cons x c i n ts b₀ suite np pos' hds2 l2 hc hn hsu r ih =>
    intro w
    obtain ⟨b, hb1, hyes, hno⟩ := w
    refine wpAny_handleBy_cons (codeAny_handlers_test ?_) (by intro q; cases q)
    have T0 : PySem.W.Looks (model X.prog X.w) h3 (typeOf (.ref a)) cls := fun A Q E s k q => wpAny_typeOf_ref (k _ _ he3) (by rw [hz3.1]; exact q)
    have T1 := PySem.W.exm_one (M := model X.prog X.w) (J3.kIn) T0 hb1
    have test : ∀ {Q : Value → Shared → Prop} {E : Value → Shared → Prop}, Q c { s' with heap := h3 } → wpAny (model X.prog X.w) (X.A.mark (some (.ref a))) (eval (.Name x np) X.env) Q E { s' with heap := h3 } := fun {Q E} q => by
      obtain ⟨hg, hdbg, hm⟩ := hc
      rcases hm with hm | ⟨hm, hv, hnn⟩
      · exact ld_glob (X := X.suite a ((a, oe3) :: (X.pn ++ pins))) S3 hg hm q hdbg
      · exact ld_blt (X := X.suite a ((a, oe3) :: (X.pn ++ pins))) S3 hg hm hv q hnn hdbg
    refine test (T1.here ?_)
    cases b with
    | false => exact ih (hno rfl)
    | true =>
      have hyes := hyes rfl a na
      rcases hn with ⟨rfl, rfl⟩ | ⟨m, j, rfl, rfl, hj, hml⟩
      · refine codeAny_handlers_suite (HandSPX.lands_againZ fl fun h4 fl4 up4 => ?_)
        obtain ⟨oe4, vs4, he4, hz4, hd4⟩ := fl4.there
        have S4 := (landed h4 fl4 up4).suite he4 hd4 na nL nF
        refine wpAny_mono ((hsu a oe4 cls d (X.pn ++ pins) hz4 ⟨_, hd4⟩).run [] _ _ H D S4 hyes) (fun f s6 q => ?_) (fun _ _ z => z.elim)
        cases f with
        | ret u => obtain ⟨v6, σ6, H6, S6, r6, q6⟩ := q; exact ⟨_, _, _, S6.unsuite ok, r6, q6⟩
        | next => obtain ⟨σ6, H6, S6, q6⟩ := q; exact ⟨_, _, S6.unsuite ok, q6⟩
        | brk => obtain ⟨σ6, H6, S6, q6⟩ := q; exact ⟨_, _, S6.unsuite ok, q6⟩
        | cont => obtain ⟨σ6, H6, S6, q6⟩ := q; exact ⟨_, _, S6.unsuite ok, q6⟩
      · refine codeAny_handlers_suite_as (HandSPX.lands_againZ fl fun h4 fl4 up4 => ?_)
        obtain ⟨oe4, vs4, he4, hz4, hd4⟩ := fl4.there
        have S4 := (landed h4 fl4 up4).suite he4 hd4 na nL nF
        refine store_ok (X := X.suite a ((a, oe4) :: (X.pn ++ pins))) (v := .ref a) S4 hN hj (.inl hml) rfl (fun s5 S5 => ?_) (.inr hml)
        refine wpAny_mono ((hsu a oe4 cls d (X.pn ++ pins) hz4 ⟨_, hd4⟩).run [] s5 _ H _ S5 hyes) (fun f s6 q => ?_) (fun _ _ z => z.elim)
        have away : ∀ {σ6 : L2.St} {H6 : Hp} {Q : Shared → Prop}, Inv (X.suite a ((a, oe4) :: (X.pn ++ pins))) [] σ6 H6 s6 → (∀ s7, Inv X pins (σ6.set j none) H6 s7 → Q s7) →
            wpAny (model X.prog X.w) X.A (do bindName X.env m .none; unbindBehindTheSuite X.env m pos') (fun _ s7 => Q s7) X.xe s6 := fun S6 q => gone_ok (S6.unsuite ok) hN hj hml q
        cases f with
        | ret u => obtain ⟨v6, σ6, H6, S6, r6, q6⟩ := q; exact away S6 fun s7 J7 => ⟨_, _, _, J7, r6, q6⟩
        | next => obtain ⟨σ6, H6, S6, q6⟩ := q; exact away S6 fun s7 J7 => ⟨_, _, J7, q6⟩
        | brk => obtain ⟨σ6, H6, S6, q6⟩ := q; exact away S6 fun s7 J7 => ⟨_, _, J7, q6⟩
        | cont => obtain ⟨σ6, H6, S6, q6⟩ := q; exact away S6 fun s7 J7 => ⟨_, _, J7, q6⟩
theorem ps_tr (hN : X.N.Nodup) (hs : X.stack = X.env :: X.outer) (hf : X.env.frame = some X.env.locals) (tk : Takes X Wout)
    (hb : ∀ (W : L2.WX) (pn : List (Addr × Obj)) (xe : Value → Shared → Prop), Takes (X.tr pn xe) W → PassesOwn (model X.prog X.w) X.A X.env xe → PSs (X.tr pn xe) body (tb W))
    (hh : ClOk X (h₀ :: hds) l) : PS X (.Try body (h₀ :: hds) [] [] pos) (fun D σ H => tb (wCl X.K Wout D l) D σ H) := by
  refine ⟨fun pins s σ H D I w => ?_⟩
  have ok := I.ok
  have hfr : X.A.frames = some (X.env :: X.outer) := by rw [ok.frames, hs]
  refine wpAny_Try_except ?_
  let catch_ : Value → Shared → Prop := fun e s₁ => wpAny (model X.prog X.w) X.A (noteFrame e X.env) (fun _ s₂ => wpAny (model X.prog X.w) X.A (setFlight e none) (fun _ s₃ => wpAny (model X.prog X.w) X.A (handleBy e X.env (h₀ :: hds)) (SP X pins D) X.xe s₃) X.xe s₂) X.xe s₁
  have tkc : Takes (X.tr (X.pn ++ pins) catch_) (wCl X.K Wout D l) := by
    intro u s' xx
    obtain ⟨a, B, sI, pins', σ', H', cls, d, rfl, J', nb, up, sky, na, os, ag, w⟩ := xx
    have J : Inv X pins σ' H' sI := J'.ofTry ok
    have sky' : Sky B (X.env :: X.outer) a (Zc cls d) X.env.locals s'.heap := hs ▸ sky
    show wpAny (model X.prog X.w) X.A (noteFrame (.ref a) X.env) _ _ _
    refine Sky.land Zc.steady hfr hf sky' fun h3 fl3 up3 => ?_
    have J3 : Inv X pins σ' H' { s' with heap := h3 } := J.landed nb fl3.1 (up.trans up3) os ag
    obtain ⟨oe3, vs3, he3, hz3, hd3⟩ := fl3.there
    have apart : a ∉ frs (X.env :: X.outer) := fun hm => by
      obtain ⟨_, o', e', hnf⟩ := fl3.2.2.1.mem hm
      rw [he3] at e'; cases e'
      exact hnf _ hd3
    have nL : a ≠ X.env.locals := fun z => apart (List.mem_filterMap.mpr ⟨X.env, List.mem_cons_self, by rw [hf, z]⟩)
    have nF : a ∉ X.fs := fun hm => by
      obtain ⟨e, he, q⟩ := List.mem_filterMap.mp hm
      exact apart (List.mem_filterMap.mpr ⟨e, List.mem_cons_of_mem _ he, q⟩)
    exact cl_walk hN hf tk hs J up3 fl3 na os ag nL nF J3 (fun h4 fl4 up4 => J.landed nb fl4.1 ((up.trans up3).trans up4) os ag)
      (fun h4 hh4 up4 w => tk _ _ ⟨a, B, sI, pins, σ', H', cls, d, rfl, J, nb, (up.trans up3).trans up4, .inr (.inr (by rw [hs]; exact hh4)), na, os, ag, w⟩) hh w
  refine wpAny_mono ((hb _ (X.pn ++ pins) catch_ tkc PassesOwn.looking).run [] s σ H D (I.toTry _) w) (fun f s1 q => ?_) (fun e s1 he => he)
  cases f with
  | ret u => obtain ⟨v, σ', H', J', r, q⟩ := q; exact ⟨v, σ', H', J'.ofTry ok, r, q⟩
  | next => obtain ⟨σ', H', J', q⟩ := q; exact wpAny_execs_nil ⟨σ', H', J'.ofTry ok, q⟩
  | brk => obtain ⟨σ', H', J', q⟩ := q; exact ⟨σ', H', J'.ofTry ok, q⟩
  | cont => obtain ⟨σ', H', J', q⟩ := q; exact ⟨σ', H', J'.ofTry ok, q⟩
end
end TB

end

section
set_option Elab.async false
set_option linter.all false
set_option maxHeartbeats 1000000
namespace TB
open PySem L2

/-- the suite's g -/
def G.on (g : G) (i k : Nat) (a : Addr) (d : Option Addr) (c : Value) : G := { g with xi := some ⟨i, a, d, c, k⟩ }
section
variable {X : L2.Cx} {g : G} {W : L2.WX} {cx : Cx} {pos : Pos}
variable {ξ : Xi} {A : Av} {α α' : List Addr} {h : Lh} {env : Env} {σ : L2.St} {H H' : Hp}
theorem ERel.enter (hx : g.xi = none) (r : ERel g g.xi A α H env σ) {j k c : Nat} {fs : List D} {a : Addr} {d : Option Addr} (hs : g.sub c k = true) (x : XDict g A α H c fs d) :
    ERel (g.on j k a d (.ref (g.cls c))) (g.on j k a d (.ref (g.cls c))).xi A α H (env.set j (some (.exc c fs))) (σ.set j (some (.ref a))) := by
  refine ⟨by simp [r.1], fun i v q => ?_⟩
  by_cases hj : j = i
  · subst hj
    have hi : j < env.length := by
      have := (List.getElem?_eq_some_iff.mp q).1
      simpa using this
    rw [List.getElem?_set_self hi] at q
    cases q
    refine ⟨.ref a, by rw [List.getElem?_set_self (by rw [← r.1]; exact hi)], .exc fun e he _ => ?_⟩
    cases he
    exact ⟨rfl, rfl, hs, x⟩
  · rw [List.getElem?_set_ne hj] at q
    obtain ⟨x, hx, s⟩ := r.2 i v q
    refine ⟨x, by rw [List.getElem?_set_ne hj]; exact hx, ?_⟩
    cases s with
    | rep r => exact .rep r
    | exc k => exact .exc fun e he hi => by cases he; exact absurd hi hj
theorem ERel.leave {g' : G} {ξ : Xi} (r : ERel g' ξ A α H env σ) : ERel g none A α H env σ :=
  ⟨r.1, fun i v q => by
    obtain ⟨x, hx, s⟩ := r.2 i v q
    refine ⟨x, hx, ?_⟩
    cases s with
    | rep r => exact .rep r
    | exc k => exact .exc fun e he _ => by cases he⟩
/-- a suite's reading -/
def tSu (g : G) (cx : Cx) (k : Nat) (i : Option Nat) (b : Ss) : Addr → Value → Option Addr → L2.TS := fun a c d => match i with
  | some i => vSs (g.on i k a d c) WF cx b
  | none => vSs g WF cx b
def lCl (g : G) (cx : Cx) : Hs → List Cl
  | .nil => []
  | .cons k i b hs => (.ref (g.cls k), i, tSu g cx k i b) :: lCl g cx hs
def hsLt (n : Nat) : Hs → Bool
  | .nil => true
  | .cons k _ _ hs => decide (k < n) && hsLt n hs
theorem cl_read {n : Nat} (K : Classes X.K g n) (hsub : cx.sub = g.sub) (hx : g.xi = none) {D : L2.Ends} {c : Nat} {fs : List TB.D} {d : Option Addr} (x : XDict g A α H c fs d) (R : Rl g g.xi A α h env σ H) : ∀ (hs : Hs), hsLt n hs = true → PostS g A α H W D (hs.ev cx c fs env h) →
    wCl X.K W D (lCl g cx hs) (.ref (g.cls c)) d σ H
  | .nil, _, P => by
    have P : PostS g A α H W D (.exc c fs env h) := P
    exact P α H σ d .refl R x
  | .cons k i b hs, hl, P => by
    obtain ⟨hk, hl⟩ := Bool.and_eq_true_iff.mp (show (decide (k < n) && hsLt n hs) = true from hl)
    have hk := of_decide_eq_true hk
    have hcn : c < n := K.cnt ▸ x.1.1
    have P : PostS g A α H W D (if cx.sub c k then (match (generalizing := false) i with
      | some i => (match b.ev cx (env.set i (some (.exc c fs))) h with
        | .ok (.nx σ) h => .ok (.nx (σ.set i none)) h
        | .ok (.bk σ) h => .ok (.bk (σ.set i none)) h
        | .ok (.ct σ) h => .ok (.ct (σ.set i none)) h
        | .ok (.rt d) h => .ok (.rt d) h
        | _ => .stuck)
      | none => (match b.ev cx env h with
        | .ok f h => .ok f h
        | _ => .stuck)) else hs.ev cx c fs env h) := P
    refine ⟨g.sub c k, K.exm c k hcn hk, fun ht a ha => ?_, fun hf => ?_⟩
    · rw [if_pos (by rw [hsub]; exact ht)] at P
      cases i with
      | none =>
        refine ⟨_, A, α, h, env, R, ?_⟩
        dsimp only at P
        cases q : b.ev cx env h with
        | stuck => rw [q] at P; exact P
        | exc c' fs' e' h' => rw [q] at P; exact False.elim P
        | ok f h' => rw [q] at P; cases f <;> exact P
      | some j =>
        refine ⟨_, A, α, h, _, ⟨ERel.enter hx R.e ht x, R.h, rfl⟩, ?_⟩
        dsimp only at P
        cases q : b.ev cx (env.set j (some (.exc c fs))) h with
        | stuck => rw [q] at P; exact P
        | exc c' fs' e' h' => rw [q] at P; exact False.elim P
        | ok f h' =>
          rw [q] at P
          cases f with
          | rt v => exact P
          | nx e' => exact fun α1 H1 σ1 e1 R1 => P α1 H1 (σ1.set j none) e1 ⟨hx ▸ R1.e.leave.clear, R1.h, rfl⟩
          | bk e' => exact fun α1 H1 σ1 e1 R1 => P α1 H1 (σ1.set j none) e1 ⟨hx ▸ R1.e.leave.clear, R1.h, rfl⟩
          | ct e' => exact fun α1 H1 σ1 e1 R1 => P α1 H1 (σ1.set j none) e1 ⟨hx ▸ R1.e.leave.clear, R1.h, rfl⟩
    · rw [if_neg (by rw [hsub, hf]; exact Bool.false_ne_true)] at P
      exact cl_read K hsub hx x R hs hl P
theorem r_tr {n : Nat} {body : List Stmt} {h₀ : ExceptHandler} {hds : List ExceptHandler} {mb : Ss} {hs : Hs} (K : Classes X.K g n) (hsub : cx.sub = g.sub) (hx : g.xi = none) (hN : X.N.Nodup) (hst : X.stack = X.env :: X.outer) (hf : X.env.frame = some X.env.locals) (tk : Takes X W)
    (hb : ∀ (W : L2.WX) (pn : List (Addr × Obj)) (xe : Value → Shared → Prop), Takes (X.tr pn xe) W → PassesOwn (model X.prog X.w) X.A X.env xe → PSs (X.tr pn xe) body (vSs g W cx mb))
    (hh : ClOk X (h₀ :: hds) (lCl g cx hs)) (hl : hsLt n hs = true) : PS X (.Try body (h₀ :: hds) [] [] pos) (vS g W cx (.tr mb hs)) := by
  refine weakS (ps_tr (tb := fun W => vSs g W cx mb) hN hst hf tk hb hh) fun D σ H ⟨ξ, A, α, h, env, R, P⟩ => ?_
  have P : PostS g A α H W D (match mb.ev cx env h with
    | .exc c fs σ h => hs.ev cx c fs σ h
    | r => r) := P
  refine ⟨ξ, A, α, h, env, R, ?_⟩
  cases q : mb.ev cx env h with
  | stuck => rw [q] at P; exact P
  | ok f h1 => rw [q] at P; cases f <;> exact P
  | exc c fs env1 h1 =>
    rw [q] at P
    exact fun α1 H1 σ1 d e1 R1 x1 => cl_read K hsub hx x1 R1 hs hl (PostS.mono P e1)
end
end TB

end

section
set_option Elab.async false
set_option linter.all false
set_option maxHeartbeats 1000000
namespace TB
open PySem L2

/-! ### what is seen of a text -/
structure FnT where
  x : Str
  qual : Str
  st : Stmt
  ps : List Str
  N : List Str
structure ClT where
  x : Str
  flds : List Str
structure Tab where
  fns : List FnT
  cls : List ClT
  cInt : List (Str × Int)
  cStr : List (Str × Str)
  free : List Str
  bfs : List (Str × String)
  kbs : List (Nat × Nat × List Str × List Nat)
  sub : Nat → Nat → Bool
structure Stc where
  N : List Str
  sc : Scope
  calm : Bool
  fnc : Option Scope
  h : Option (Nat × Nat)
  top : Bool
abbrev Stc.vis (S : Stc) (x : Str) : Prop := S.sc.names.lookup x = some .local ∨ S.sc.names.lookup x = some .cell ∨ S.sc.names.lookup x = some .free
abbrev Stc.loc (S : Stc) (x : Str) : Prop := S.sc.names.lookup x = some .local ∨ S.sc.names.lookup x = some .cell
abbrev Stc.glo (S : Stc) (x : Str) : Prop := S.sc.names.lookup x = some .globalImplicit
def Stc.fnB (S : Stc) (x : Str) : Bool := match S.fnc with
  | none => true
  | some sc => sc.names.lookup x == some .cell
def nodb (x : Str) : Bool := !(x == ("__debug__" : Str))
def nocd (x : Str) : Bool := !(x == ("__classdict__" : Str))
theorem nodb_ok {x : Str} (h : nodb x = true) : (x == ("__debug__" : Str)) = false := by
  unfold nodb at h
  cases q : (x == ("__debug__" : Str)) with
  | false => rfl
  | true => rw [q] at h; cases h
theorem nocd_ok {x : Str} (h : nocd x = true) : (x == ("__classdict__" : Str)) = false := by
  unfold nocd at h
  cases q : (x == ("__classdict__" : Str)) with
  | false => rfl
  | true => rw [q] at h; cases h
/-- a block of S -/
def Stc.blk (S : Stc) (scope : Scope) : Stc := ⟨S.N, relS scope S.sc, S.calm, some scope, none, false⟩
def btail (op : BoolOp) (y : Expr) (r : List Expr) (pos : Pos) : Expr := match r with
  | [] => y
  | _ => .BoolOp op (y :: r) pos
/-- what may be asked as a test -/
def testable : Expr → Bool
  | .IfExp _ _ _ _ => false
  | _ => true
inductive Bk | fn | ty
def biName : Bi → Option (Str × Bk × String × Bool)
  | .len => some ("len", .fn, "len", false)
  | .abs => some ("abs", .fn, "abs", false)
  | .max => some ("max", .fn, "max", true)
  | .min => some ("min", .fn, "min", true)
  | .max2 => some ("max", .fn, "max", true)
  | .min2 => some ("min", .fn, "min", true)
  | .sum => some ("sum", .fn, "sum", true)
  | .sorted => some ("sorted", .fn, "sorted", false)
  | .list => some ("list", .ty, "list", false)
  | .tuple => some ("tuple", .ty, "tuple", false)
  | .int => some ("int", .ty, "int", false)
  | .str => some ("str", .ty, "str", false)
  | .all => some ("all", .fn, "all", true)
  | .any => some ("any", .fn, "any", true)
  | _ => none
def tyS : Ty → Str
  | .int => "int" | .bool => "bool" | .str => "str" | .list => "list" | .tuple => "tuple" | .dict => "dict"
def keysOk : List (Option Expr) → List Ky → Bool
  | [], [] => true
  | some (.Constant (.str x) _ _) :: r, .inr y :: ks => decide (x = y) && keysOk r ks
  | some (.Constant (.int x) _ _) :: r, .inl y :: ks => decide (x = y) && keysOk r ks
  | _, _ => false
def isN (x : Str) : Expr → Bool
  | .Name y _ => decide (y = x)
  | _ => false
/-- the free name x, called with args -/
def callOf : Expr → Option (Str × Pos × List Expr × List Keyword × Pos)
  | .Call (.Name x p) as ks q => some (x, p, as, ks, q)
  | _ => none
theorem callOf_ok {e : Expr} {x : Str} {p q : Pos} {as : List Expr} {ks : List Keyword} (h : callOf e = some (x, p, as, ks, q)) : e = .Call (.Name x p) as ks q := by
  unfold callOf at h
  split at h
  · cases h; rfl
  · cases h
abbrev Tab.isFree (T : Tab) (S : Stc) (x : Str) : Prop := S.glo x ∧ x ∈ T.free
def tyOk (T : Tab) (S : Stc) : Ty → Expr → Bool
  | t, .Name x _ => decide (x = tyS t ∧ T.isFree S x)
  | _, _ => false
def tysOk (T : Tab) (S : Stc) : List Ty → List Expr → Bool
  | [], [] => true
  | t :: ts, e :: es => tyOk T S t e && tysOk T S ts es
  | _, _ => false
def fldOk (T : Tab) (k j : Nat) (f : Str) : Bool := (List.range T.cls.length).all fun c => !T.sub c k || (match T.cls[c]? with
  | some cl => (match cl.flds[j]? with
    | none => true
    | some f' => decide (f' = f))
  | none => true)
def meName : Me → Option (Str × Bool)
  | .append => some ("append", true)
  | .extend => some ("extend", true)
  | .popAt => some ("pop", true)
  | .pop => some ("pop", false)
  | _ => none
mutual
def E.ck (T : Tab) : E → Stc → Expr → Bool
  | .var i, S, e => match e with
    | .Name x _ => decide (S.N[i]? = some x ∧ S.vis x) && (nodb x && nocd x)
    | _ => false
  | .cst d, S, e => match e with
    | .Constant c _ _ => (match c, d with
      | .int i, .int j => decide (i = j)
      | .bool a, .bl b => decide (a = b)
      | .none, .non => true
      | .str a, .str b => decide (a = b)
      | _, _ => false)
    | .Name x _ => (match d with
      | .int i => decide (S.glo x ∧ (x, i) ∈ T.cInt) && nodb x
      | .str i => decide (S.glo x ∧ (x, i) ∈ T.cStr) && nodb x
      | _ => false)
    | _ => false
  | .bin o _ a b, S, e => match e with
    | .BinOp x op y _ => decide (op = opOf o) && (a.ck T S x && b.ck T S y)
    | _ => false
  | .neg a, S, e => match e with
    | .UnaryOp .USub x _ => a.ck T S x
    | _ => false
  | .cmp o a b, S, e => match e with
    | .Compare x [op] [y] _ => decide (op = copOf o) && (!behindInMarks (copOf o) y && (a.ck T S x && b.ck T S y))
    | _ => false
  | .chn o p a b c, S, e => match e with
    | .Compare x [op, op2] [y, z] _ => decide (op = copOf o ∧ op2 = copOf p) && (!lastMarks [copOf o, copOf p] [y, z] && (a.ck T S x && (b.ck T S y && c.ck T S z)))
    | _ => false
  | .and a b, S, e => match e with
    | .BoolOp .And (x :: y :: r) pos => (testable x && testable (btail .And y r pos)) && (a.ck T S x && b.ck T S (btail .And y r pos))
    | _ => false
  | .or a b, S, e => match e with
    | .BoolOp .Or (x :: y :: r) pos => (testable x && testable (btail .Or y r pos)) && (a.ck T S x && b.ck T S (btail .Or y r pos))
    | _ => false
  | .not a, S, e => match e with
    | .UnaryOp .Not x _ => testable x && a.ck T S x
    | _ => false
  | .ite c a b, S, e => match e with
    | .IfExp t x y _ => testable t && (c.ck T S t && (a.ck T S x && b.ck T S y))
    | _ => false
  | .lst _ es, S, e => match e with
    | .List xs _ => es.ck T S xs
    | _ => false
  | .tup es, S, e => match e with
    | .Tuple xs _ _ => es.ck T S xs
    | _ => false
  | .dct _ ks vs, S, e => match e with
    | .Dict keys values _ => decide (keys.length = values.length ∧ keys.length ≤ 15 ∧ ks.Nodup ∧ ks.length = keys.length) && (keysOk keys ks && vs.ck T S values)
    | _ => false
  | .ix a i, S, e => match e with
    | .Subscript x y _ => plainIx y && (a.ck T S x && i.ck T S y)
    | _ => false
  | .slc _ a lo hi, S, e => match e with
    | .Subscript x (.Slice l h none _) _ => a.ck T S x && (lo.ck T S l && hi.ck T S h)
    | _ => false
  | .call _ f es pm, S, e => match callOf e with
    | some (x, _, as, kws, _) => (match kwNames kws with
      | some ks => S.calm && (decide (S.glo x ∧ (T.fns[f]?.map (·.x)) = some x ∧ (f, as.length, ks, pm) ∈ T.kbs) && (nodb x && (as.all notStar && es.ckA T S as kws)))
      | none => false)
    | none => false
  | .bi b _ es, S, e => match callOf e with
    | some (x, _, as, [], _) => (match b with
      | .gcd => decide (S.glo x ∧ (x, "math.gcd") ∈ T.bfs ∧ as.isEmpty = false) && (nodb x && es.ck T S as)
      | b => (match biName b with
        | some (y, _, _, c) => decide (x = y ∧ T.isFree S x ∧ as.isEmpty = false ∧ (c = true → S.calm = true)) && es.ck T S as
        | none => false))
    | _ => false
  | .bi1 b _ a, S, e => match callOf e with
    | some (x, _, [e1], [], _) => (match callOf e1 with
      | some (y, _, [e2], [], _) => S.calm && (decide (T.isFree S x ∧ T.isFree S y) && ((match b with
        | .rlist => decide (x = "list" ∧ y = "range")
        | .lenset => decide (x = "len" ∧ y = "set")
        | _ => false) && (notStar e2 && a.ck T S e2)))
      | _ => false)
    | _ => false
  | .me m o es, S, e => match e with
    | .Call (.Attribute ob at_ ap) as [] pos => (match meName m with
      | some (n, one) => decide (at_ = n ∧ as.length = (if one then 1 else 0)) && ((plainBase ob && ap.endLine == pos.line) && (o.ck T S ob && es.ck T S as))
      | none => false)
    | _ => false
  | .isi ts a, S, e => match callOf e with
    | some (x, _, [y, c], [], _) => decide (x = "isinstance" ∧ T.isFree S x ∧ ts.isEmpty = false ∧ ts.length ≤ 100) && ((match c with
      | .Tuple cs _ _ => tysOk T S ts cs
      | c => tysOk T S ts [c]) && (notStar y && a.ck T S y))
    | _ => false
  | .isx i k, S, e => match callOf e with
    | some (x, _, [.Name y _, .Name z _], [], _) => decide (x = "isinstance" ∧ T.isFree S x ∧ (S.h.map (·.1)) = some i ∧ S.N[i]? = some y ∧ S.vis y ∧ S.glo z ∧ (T.cls[k]?.map (·.x)) = some z) && (nodb y && (nocd y && nodb z))
    | _ => false
  | .fld i j, S, e => match e with
    | .Attribute (.Name y _) f _ => (match S.h with
      | some (i', k) => decide (i' = i ∧ S.N[i]? = some y ∧ S.vis y) && (nodb y && (nocd y && fldOk T k j f))
      | none => false)
    | _ => false
  | .comp _ own t it c el, S, e => match e with
    | .ListComp elt [gn] scope _ => S.calm && (decide (gn.is_async = 0 ∧ (∀ i ∈ t.nms, i ∈ own)) && (blkC S.N S.sc scope (own.map fun i => (S.N.getD i Str.empty, i)) &&
        ((notSet gn.iter && it.ck T S gn.target gn.iter) && (t.ck T (S.blk scope) gn.target && (c.ckC T (S.blk scope) gn.ifs && el.ck T (S.blk scope) elt)))))
    | _ => false
def Es.ck (T : Tab) : Es → Stc → List Expr → Bool
  | .nil, _, es => es.isEmpty
  | .cons m ms, S, es => match es with
    | e :: es => notStar e && (m.ck T S e && ms.ck T S es)
    | [] => false
def Es.ckA (T : Tab) : Es → Stc → List Expr → List Keyword → Bool
  | .nil, _, es, ks => es.isEmpty && ks.isEmpty
  | .cons m ms, S, es, ks => match es, ks with
    | e :: es, ks => notStar e && (m.ck T S e && ms.ckA T S es ks)
    | [], k :: ks => m.ck T S k.value && ms.ckA T S [] ks
    | [], [] => false
def Eo.ck (T : Tab) : Eo → Stc → Option Expr → Bool
  | .no, _, e => e.isNone
  | .so m, S, e => match e with
    | some e => m.ck T S e
    | none => false
def Eo.ckC (T : Tab) : Eo → Stc → List Expr → Bool
  | .no, _, es => es.isEmpty
  | .so m, S, es => match es with
    | [e] => testable e && m.ck T S e
    | _ => false
def It.ck (T : Tab) : It → Stc → Expr → Expr → Bool
  | .ex m, S, _, e => m.ck T S e
  | .r1 a, S, _, e => match callOf e with
    | some (x, _, [y], [], _) => decide (x = "range" ∧ T.isFree S "range") && (notStar y && a.ck T S y)
    | _ => false
  | .r2 a b, S, _, e => match callOf e with
    | some (x, _, [y, z], [], _) => decide (x = "range" ∧ T.isFree S "range") && ((notStar y && notStar z) && (a.ck T S y && b.ck T S z))
    | _ => false
  | .r3 a b c, S, _, e => match callOf e with
    | some (x, _, [y, z, u], [], _) => decide (x = "range" ∧ T.isFree S "range") && ((notStar y && (notStar z && notStar u)) && (a.ck T S y && (b.ck T S z && c.ck T S u)))
    | _ => false
  | .zip a b, S, tg, e => match callOf e with
    | some (x, _, [y, z], [], _) => zipT tg && (decide (x = "zip" ∧ T.isFree S "zip") && ((notStar y && notStar z) && (a.ck T S y && b.ck T S z)))
    | _ => false
  | .enu a, S, tg, e => match tg, callOf e with
    | .Tuple _ _ _, some (x, _, [y], [], _) => decide (x = "enumerate" ∧ T.isFree S "enumerate") && (notStar y && a.ck T S y)
    | _, _ => false
  | .rev a, S, _, e => match callOf e with
    | some (x, _, [y], [], _) => decide (x = "reversed" ∧ T.isFree S "reversed") && (notStar y && a.ck T S y)
    | _ => false
  | .ks i, S, _, e => match e with
    | .Name x _ => decide (S.N[i]? = some x ∧ S.vis x) && (nodb x && nocd x)
    | _ => false
def Tg.ck (T : Tab) : Tg → Stc → Expr → Bool
  | .nm i, S, e => match e with
    | .Name x _ => decide (S.N[i]? = some x ∧ S.loc x) && (S.fnB x || decide (S.sc.names.lookup x = some .local))
    | _ => false
  | .tp ts, S, e => match e with
    | .Tuple es _ _ => S.calm && ts.ck T S es
    | _ => false
  | .sub a i, S, e => match e with
    | .Subscript x y _ => plainIx y && (a.ck T S x && i.ck T S y)
    | _ => false
def Tgs.ck (T : Tab) : Tgs → Stc → List Expr → Bool
  | .nil, _, es => es.isEmpty
  | .cons t ts, S, es => match es with
    | e :: es => notStar e && (t.ck T S e && ts.ck T S es)
    | [] => false
end
end TB

end

section
set_option Elab.async false
set_option linter.all false
set_option maxHeartbeats 1000000
namespace TB
open PySem L2

/-- a function, by what calls it -/
structure FnUp (X : L2.Cx) (g : G) (c : Nat → List D → Lh → Rs D) (i : Nat) (np n : Nat) (ks : List Str) (pm : List Nat) (x : Str) : Prop where
  ex : ∃ (k : Nat) (f : Addr) (fd : FuncData) (qual : Str) (st : Stmt) (ps : List Str), FnOk X.prog X.w X.K X.mg X.base (L2.CX X.prog X.w) k f fd ps (spC g c i np) ∧ Room k X.A ∧ X.mg x = some (.ref f) ∧ Fun X.K x qual st f fd ∧ KB x qual st ps n ks pm ∧ ps.length = np
/-- the context is as the static words tell -/
structure Good (T : Tab) (S : Stc) (X : L2.Cx) (g : G) (cx : Cx) (W : L2.WX) : Prop where
  N : X.N = S.N
  sc : X.env.scope = S.sc
  kind : S.sc.kind = .function
  nd : X.N.Nodup
  calm : S.calm = true → X.calm = true
  hu : X.A.units + 64 < cLine
  tk : Takes X W
  own : PassesOwn (model X.prog X.w) X.A X.env X.xe
  fn : ∀ x, S.fnB x = true → X.fn x = true
  free : ∀ x ∈ T.free, X.mg x = none
  cInt : ∀ p ∈ T.cInt, ∃ t, X.mg p.1 = some (.int p.2 t)
  cStr : ∀ p ∈ T.cStr, ∃ t, X.mg p.1 = some (.str p.2 t)
  bfs : ∀ p ∈ T.bfs, X.mg p.1 = some (.builtin p.2)
  call : S.calm = true → ∀ f fn n ks pm, T.fns[f]? = some fn → (f, n, ks, pm) ∈ T.kbs → FnUp X g cx.call f fn.ps.length n ks pm fn.x
  cls : ∀ c cl, T.cls[c]? = some cl → X.mg cl.x = some (.ref (g.cls c))
  K : Classes X.K g T.cls.length
  sub : cx.sub = g.sub
  fld : ∀ i k, S.h = some (i, k) → ∀ j f x p q, X.N[i]? = some x → Vis X.env.scope x → (x == ("__debug__" : Str)) = false → (x == ("__classdict__" : Str)) = false → fldOk T k j f = true → PE X (.Attribute (.Name x p) f q) (vE g W cx (.fld i j))
  isx : ∀ i k, S.h = some (i, k) → ∀ c cl x p p1 p2 q, X.N[i]? = some x → Vis X.env.scope x → (x == ("__debug__" : Str)) = false → (x == ("__classdict__" : Str)) = false → Gl X "isinstance" → X.mg "isinstance" = none →
    T.cls[c]? = some cl → Gl X cl.x → (cl.x == ("__debug__" : Str)) = false → PE X (.Call (.Name "isinstance" p) [.Name x p1, .Name cl.x p2] [] q) (vE g W cx (.isx i c))
section
variable {T : Tab} {S : Stc} {X : L2.Cx} {g : G} {cx : Cx} {W : L2.WX}
theorem Good.gl (G : Good T S X g cx W) {x : Str} (h : S.glo x) : Gl X x := by
  show X.env.scope.names.lookup x = some .globalImplicit
  rw [G.sc]; exact h
theorem Good.vs (G : Good T S X g cx W) {x : Str} (h : S.vis x) : Vis X.env.scope x := by
  rw [G.sc]; exact h
theorem Good.blk (G : Good T S X g cx W) (hc : S.calm = true) {scope : Scope} (hk : scope.kind = .function) (s : Shared) (H : Hp) (C : Addr) (cl : List (Str × Addr)) (fp : List Addr) :
    Good T (S.blk scope) (X.blk s H scope (compEnvC scope cl C X.env) fp) g cx WF where
  N := G.N
  sc := by
    show relabel scope X.env = relS scope S.sc
    rw [← G.sc]; rfl
  kind := hk
  nd := G.nd
  calm := G.calm
  hu := G.hu
  tk := takes0
  own := PassesOwn.never
  fn := fun x h => h
  free := G.free
  cInt := G.cInt
  cStr := G.cStr
  bfs := G.bfs
  call := fun h f fn n ks pm h1 h2 => by
    obtain ⟨k, fa, fd, qual, st, ps, F, r⟩ := (G.call h f fn n ks pm h1 h2).ex
    exact ⟨k, fa, fd, qual, st, ps, F, r⟩
  cls := G.cls
  K := G.K
  sub := G.sub
  fld := fun i k h => by cases h
  isx := fun i k h => by cases h
theorem sp2 {a b : Bool} (h : (a && b) = true) : a = true ∧ b = true := Bool.and_eq_true_iff.mp h
/-- what is proved of an expression -/
structure Ok1 (X : L2.Cx) (g : G) (W : L2.WX) (cx : Cx) (m : E) (e : Expr) : Prop where
  pe : PE X e (vE g W cx m)
  t : testable e = true → PT X e (vT g W cx m)
  w : ∀ op es p, e = .BoolOp op es p → PW X e (vT g W cx m)
theorem ok_plain {e : Expr} {m : E} (he : PE X e (vE g W cx m)) (h : ∀ whole, isTrue e X.env whole = (do let v ← whole; standAt e.pos; holding [v] (truthy v))) (hn : ∀ op es p, e ≠ .BoolOp op es p) : Ok1 X g W cx m e :=
  ⟨he, fun _ => t_val he h, fun op es p z => absurd z (hn op es p)⟩
/-- the rest of a row of and, or -/
theorem tail_ok {op : BoolOp} {y : Expr} {r : List Expr} {pos : Pos} {m : E} (ho : op = .And ∨ op = .Or) (k : Ok1 X g W cx m (btail op y r pos)) (ht : testable (btail op y r pos) = true) : PE X (.BoolOp op (y :: r) pos) (vE g W cx m) ∧ PW X (.BoolOp op (y :: r) pos) (vT g W cx m) := by
  cases r with
  | nil =>
    have ht : testable y = true := ht
    refine ⟨s_one (show PE X y _ from k.pe), ?_⟩
    rcases ho with rfl | rfl
    · exact w_and1 (show PT X y _ from k.t ht)
    · exact w_or1 (show PT X y _ from k.t ht)
  | cons z r => exact ⟨k.pe, k.w _ _ _ rfl⟩
theorem tyS_ok (t : Ty) : bootBuiltins (tyS t) = some (.type (tyN t)) ∧ tyS t ≠ "__name__" ∧ (tyS t == ("__debug__" : Str)) = false := by
  cases t <;> exact ⟨by decide +kernel, by decide +kernel, by decide +kernel⟩
theorem Good.ty (G : Good T S X g cx W) {t : Ty} {e : Expr} (h : tyOk T S t e = true) : TyNm X t e := by
  unfold tyOk at h
  split at h
  · obtain ⟨rfl, hg, hf⟩ := of_decide_eq_true h
    obtain ⟨h1, h2, h3⟩ := tyS_ok t
    exact ⟨_, _, rfl, G.gl hg, G.free _ hf, h1, h2, h3⟩
  · cases h
theorem Good.tys (G : Good T S X g cx W) : ∀ {ts : List Ty} {es : List Expr}, tysOk T S ts es = true → TyNms X ts es
  | [], [], _ => .nil
  | [], _ :: _, h => by cases h
  | _ :: _, [], h => by cases h
  | t :: ts, e :: es, h => by
    obtain ⟨h1, h2⟩ := sp2 (show (tyOk T S t e && tysOk T S ts es) = true from h)
    exact .cons (G.ty h1) (G.tys h2)
theorem fldOk_at {KK : Frag} (C : Classes KK g T.cls.length) {k j : Nat} {f : Str} (hT : ∀ c cl, T.cls[c]? = some cl → g.flds c = cl.flds) (hs : T.sub = g.sub) (h : fldOk T k j f = true) (c : Nat) (hc : g.sub c k = true) : (g.flds c)[j]? = none ∨ (g.flds c)[j]? = some f := by
  have hcn := C.lt _ _ hc
  have h := List.all_eq_true.mp h c (List.mem_range.mpr hcn)
  rw [hs, hc] at h
  obtain ⟨cl, hcl⟩ : ∃ cl, T.cls[c]? = some cl := ⟨_, List.getElem?_eq_getElem hcn⟩
  rw [hcl] at h
  rw [hT c cl hcl]
  dsimp only [Bool.not_true, Bool.false_or] at h
  cases q : cl.flds[j]? with
  | none => exact .inl rfl
  | some f' =>
    rw [q] at h
    have h : decide (f' = f) = true := by simpa using h
    rw [of_decide_eq_true h]
    exact .inr rfl
theorem bi_name {b : Bi} {y : Str} {k : Bk} {id : String} {c : Bool} (h : biName b = some (y, k, id, c)) (hc : c = true → X.calm = true) : y ≠ "__name__" ∧ (y == ("__debug__" : Str)) = false ∧ match k with
    | .fn => bootBuiltins y = some (.builtin id) ∧ BiOk X g b (.builtin id)
    | .ty => bootBuiltins y = some (.type id) ∧ BiOk X g b (.type id) := by
  cases b <;> cases h
  · exact ⟨by decide +kernel, by decide +kernel, by decide +kernel, bi_len⟩
  · exact ⟨by decide +kernel, by decide +kernel, by decide +kernel, bi_abs⟩
  · exact ⟨by decide +kernel, by decide +kernel, by decide +kernel, bi_max (hc rfl)⟩
  · exact ⟨by decide +kernel, by decide +kernel, by decide +kernel, bi_min (hc rfl)⟩
  · exact ⟨by decide +kernel, by decide +kernel, by decide +kernel, bi_max2 (hc rfl)⟩
  · exact ⟨by decide +kernel, by decide +kernel, by decide +kernel, bi_min2 (hc rfl)⟩
  · exact ⟨by decide +kernel, by decide +kernel, by decide +kernel, bi_sum (hc rfl)⟩
  · exact ⟨by decide +kernel, by decide +kernel, by decide +kernel, bi_sorted⟩
  · exact ⟨by decide +kernel, by decide +kernel, by decide +kernel, bi_list⟩
  · exact ⟨by decide +kernel, by decide +kernel, by decide +kernel, bi_tuple⟩
  · exact ⟨by decide +kernel, by decide +kernel, by decide +kernel, bi_int⟩
  · exact ⟨by decide +kernel, by decide +kernel, by decide +kernel, bi_str⟩
  · exact ⟨by decide +kernel, by decide +kernel, by decide +kernel, bi_all (hc rfl)⟩
  · exact ⟨by decide +kernel, by decide +kernel, by decide +kernel, bi_any (hc rfl)⟩
end
/-- a row of arguments, then keywords -/
structure OkA (X : L2.Cx) (g : G) (W : L2.WX) (cx : Cx) (m : Es) (es : List Expr) (kws : List Keyword) : Prop where
  ex : ∃ ms ns, m = Es.app ms ns ∧ PA X es (vA g W cx ms) ∧ PK X kws (vA g W cx ns) ∧ ms.len = es.length ∧ ns.len = kws.length ∧ (es = [] → ms = .nil) ∧ (kws = [] → ns = .nil)
/-- a row of expressions -/
structure OkE (X : L2.Cx) (g : G) (W : L2.WX) (cx : Cx) (m : Es) (es : List Expr) : Prop where
  a : PA X es (vA g W cx m)
  s : es.all notStar = true
  l : m.len = es.length
  p : ∀ (pos : Pos) (keys : List (Option Expr)) (ks : List Ky), keysOk keys ks = true → keys.length = es.length → PPs X pos keys es (trsOf g W cx ks m)
end TB

end

section
set_option Elab.async false
set_option linter.all false
set_option maxHeartbeats 4000000
namespace TB
open PySem L2

theorem emp {β : Type} {l : List β} (h : l.isEmpty = true) : l = [] := List.isEmpty_iff.mp h
theorem tyOk1 {T : Tab} {S : Stc} {ts : List Ty} {c : Expr} (h : tysOk T S ts [c] = true) : ∃ t, ts = [t] ∧ tyOk T S t c = true := by
  cases ts with
  | nil => cases h
  | cons t ts =>
    obtain ⟨h1, h2⟩ := sp2 (show (tyOk T S t c && tysOk T S ts []) = true from h)
    cases ts with
    | nil => exact ⟨t, rfl, h1⟩
    | cons _ _ => cases h2
theorem keys_inv {o : Option Expr} {r : List (Option Expr)} {ks : List Ky} (h : keysOk (o :: r) ks = true) : (∃ x n q kr, o = some (.Constant (.str x) n q) ∧ ks = .inr x :: kr ∧ keysOk r kr = true) ∨ (∃ i n q kr, o = some (.Constant (.int i) n q) ∧ ks = .inl i :: kr ∧ keysOk r kr = true) := by
  unfold keysOk at h
  split at h
  · exact (List.cons_ne_nil _ _ ‹_ :: _ = []›).elim
  · rename_i e1
    cases e1
    obtain ⟨h1, h2⟩ := sp2 h
    rw [of_decide_eq_true h1]
    exact .inl ⟨_, _, _, _, rfl, rfl, h2⟩
  · rename_i e1
    cases e1
    obtain ⟨h1, h2⟩ := sp2 h
    rw [of_decide_eq_true h1]
    exact .inr ⟨_, _, _, _, rfl, rfl, h2⟩
  · cases h
theorem keys_some : ∀ {keys : List (Option Expr)} {ks : List Ky}, keysOk keys ks = true → keys.all (·.isSome) = true
  | [], _, _ => rfl
  | o :: r, ks, h => by
    rw [List.all_cons]
    rcases keys_inv h with ⟨x, n, q, kr, rfl, rfl, h4⟩ | ⟨x, n, q, kr, rfl, rfl, h4⟩
    · exact Bool.and_eq_true_iff.mpr ⟨rfl, keys_some h4⟩
    · exact Bool.and_eq_true_iff.mpr ⟨rfl, keys_some h4⟩
theorem kw_len : ∀ {kws : List Keyword} {ks : List Str}, kwNames kws = some ks → kws.length = ks.length
  | [], _, e => by cases e; rfl
  | ⟨some n, v, p⟩ :: r, ks, e => by
    obtain ⟨ks', e1, rfl⟩ := Option.map_eq_some_iff.mp (show (kwNames r).map (n :: ·) = some ks from e)
    simp [kw_len e1]
mutual
theorem E.ok {T : Tab} {g : G} {cx : Cx} : ∀ (m : E) {S : Stc} {X : L2.Cx} {W : L2.WX} (G : Good T S X g cx W) (e : Expr), m.ck T S e = true → Ok1 X g W cx m e
  | .var i, S, X, W, G, e, h => by
    cases e with
    | Name x p =>
      obtain ⟨h1, h2⟩ := sp2 (show (decide (S.N[i]? = some x ∧ S.vis x) && (nodb x && nocd x)) = true from h)
      obtain ⟨h2, h3⟩ := sp2 h2
      obtain ⟨h4, h5⟩ := of_decide_eq_true h1
      exact ok_plain (s_var (by rw [G.N]; exact h4) (G.vs h5) (nodb_ok h2) (nocd_ok h3)) (fun _ => rfl) (fun _ _ _ z => by cases z)
    | _ => cases h
  | .cst d, S, X, W, G, e, h => by
    cases e with
    | Constant c k p =>
      have pl : ∀ {m : E}, PE X (.Constant c k p) (vE g W cx m) → Ok1 X g W cx m (.Constant c k p) := fun pe => ok_plain pe (fun _ => rfl) (fun _ _ _ z => by cases z)
      cases c with
      | int i => cases d <;> first | (cases h; done) | (cases of_decide_eq_true h; exact pl (s_int (j := .inr 0)))
      | bool i => cases d <;> first | (cases h; done) | (cases of_decide_eq_true h; exact pl s_bl)
      | str i => cases d <;> first | (cases h; done) | (cases of_decide_eq_true h; exact pl s_str)
      | none => cases d <;> first | (cases h; done) | exact pl s_non
      | _ => cases d <;> cases h
    | Name x p =>
      have pl : ∀ {m : E}, PE X (.Name x p) (vE g W cx m) → Ok1 X g W cx m (.Name x p) := fun pe => ok_plain pe (fun _ => rfl) (fun _ _ _ z => by cases z)
      cases d with
      | int i =>
        obtain ⟨h1, h2⟩ := sp2 (show (decide (S.glo x ∧ (x, i) ∈ T.cInt) && nodb x) = true from h)
        obtain ⟨h3, h4⟩ := of_decide_eq_true h1
        obtain ⟨t, ht⟩ := G.cInt _ h4
        exact pl (s_glob (G.gl h3) ht (.int i t) (nodb_ok h2))
      | str i =>
        obtain ⟨h1, h2⟩ := sp2 (show (decide (S.glo x ∧ (x, i) ∈ T.cStr) && nodb x) = true from h)
        obtain ⟨h3, h4⟩ := of_decide_eq_true h1
        obtain ⟨t, ht⟩ := G.cStr _ h4
        exact pl (s_glob (G.gl h3) ht (.str i t) (nodb_ok h2))
      | _ => cases h
    | _ => cases h
  | .bin o fz a b, S, X, W, G, e, h => by
    cases e with
    | BinOp x op y p =>
      obtain ⟨h1, h2⟩ := sp2 (show (decide (op = opOf o) && (a.ck T S x && b.ck T S y)) = true from h)
      obtain ⟨h2, h3⟩ := sp2 h2
      cases of_decide_eq_true h1
      exact ok_plain (s_bin (E.ok a G x h2).pe (E.ok b G y h3).pe) (fun _ => rfl) (fun _ _ _ z => by cases z)
    | _ => cases h
  | .neg a, S, X, W, G, e, h => by
    cases e with
    | UnaryOp op x p =>
      cases op with
      | USub => exact ok_plain (s_neg (E.ok a G x h).pe) (fun _ => rfl) (fun _ _ _ z => by cases z)
      | _ => cases h
    | _ => cases h
  | .cmp o a b, S, X, W, G, e, h => by
    cases e with
    | Compare x ops ys p =>
      match ops, ys, h with
      | [op], [y], h =>
        obtain ⟨h1, h2⟩ := sp2 (show (decide (op = copOf o) && (!behindInMarks (copOf o) y && (a.ck T S x && b.ck T S y))) = true from h)
        obtain ⟨h2, h3⟩ := sp2 h2
        obtain ⟨h3, h4⟩ := sp2 h3
        cases of_decide_eq_true h1
        have hb : behindInMarks (copOf o) y = false := by simpa using h2
        exact ⟨s_cmp G.hu (E.ok a G x h3).pe (E.ok b G y h4).pe hb, fun _ => t_cmp G.hu (E.ok a G x h3).pe (E.ok b G y h4).pe hb, fun _ _ _ z => by cases z⟩
      | [], _, h => cases h
      | [_], [], h => cases h
      | [_], _ :: _ :: _, h => cases h
      | _ :: _ :: _, _, h => cases h
    | _ => cases h
  | .chn o q a b c, S, X, W, G, e, h => by
    cases e with
    | Compare x ops ys p =>
      match ops, ys, h with
      | [op, op2], [y, z], h =>
        obtain ⟨h1, h2⟩ := sp2 (show (decide (op = copOf o ∧ op2 = copOf q) && (!lastMarks [copOf o, copOf q] [y, z] && (a.ck T S x && (b.ck T S y && c.ck T S z)))) = true from h)
        obtain ⟨h2, h3⟩ := sp2 h2
        obtain ⟨h3, h4⟩ := sp2 h3
        obtain ⟨h4, h5⟩ := sp2 h4
        obtain ⟨rfl, rfl⟩ := of_decide_eq_true h1
        have hb : lastMarks [copOf o, copOf q] [y, z] = false := by simpa using h2
        exact ⟨s_chn G.hu (E.ok a G x h3).pe (E.ok b G y h4).pe (E.ok c G z h5).pe hb, fun _ => t_chn G.hu (E.ok a G x h3).pe (E.ok b G y h4).pe (E.ok c G z h5).pe hb, fun _ _ _ z => by cases z⟩
      | [], _, h => cases h
      | [_], _, h => cases h
      | [_, _], [], h => cases h
      | [_, _], [_], h => cases h
      | [_, _], _ :: _ :: _ :: _, h => cases h
      | _ :: _ :: _ :: _, _, h => cases h
    | _ => cases h
  | .and a b, S, X, W, G, e, h => by
    cases e with
    | BoolOp op xs p =>
      match op, xs, h with
      | .And, x :: y :: r, h =>
        obtain ⟨h1, h2⟩ := sp2 (show ((testable x && testable (btail .And y r p)) && (a.ck T S x && b.ck T S (btail .And y r p))) = true from h)
        obtain ⟨h1, h3⟩ := sp2 h1
        obtain ⟨h2, h4⟩ := sp2 h2
        have k1 := E.ok a G x h2
        obtain ⟨k2, k3⟩ := tail_ok (.inl rfl) (E.ok b G _ h4) h3
        have w := w_and (pos := p) (k1.t h1) k3
        exact ⟨s_and k1.pe k2, fun _ => w.pt, fun _ _ _ z => by cases z; exact w⟩
      | .And, [], h => cases h
      | .And, [_], h => cases h
      | .Or, _, h => cases h
    | _ => cases h
  | .or a b, S, X, W, G, e, h => by
    cases e with
    | BoolOp op xs p =>
      match op, xs, h with
      | .Or, x :: y :: r, h =>
        obtain ⟨h1, h2⟩ := sp2 (show ((testable x && testable (btail .Or y r p)) && (a.ck T S x && b.ck T S (btail .Or y r p))) = true from h)
        obtain ⟨h1, h3⟩ := sp2 h1
        obtain ⟨h2, h4⟩ := sp2 h2
        have k1 := E.ok a G x h2
        obtain ⟨k2, k3⟩ := tail_ok (.inr rfl) (E.ok b G _ h4) h3
        have w := w_or (pos := p) (k1.t h1) k3
        exact ⟨s_or k1.pe k2, fun _ => w.pt, fun _ _ _ z => by cases z; exact w⟩
      | .Or, [], h => cases h
      | .Or, [_], h => cases h
      | .And, _, h => cases h
    | _ => cases h
  | .not a, S, X, W, G, e, h => by
    cases e with
    | UnaryOp op x p =>
      cases op with
      | Not =>
        obtain ⟨h1, h2⟩ := sp2 (show (testable x && a.ck T S x) = true from h)
        have k := E.ok a G x h2
        exact ⟨s_not k.pe, fun _ => t_not (k.t h1), fun _ _ _ z => by cases z⟩
      | _ => cases h
    | _ => cases h
  | .ite c a b, S, X, W, G, e, h => by
    cases e with
    | IfExp t x y p =>
      obtain ⟨h1, h2⟩ := sp2 (show (testable t && (c.ck T S t && (a.ck T S x && b.ck T S y))) = true from h)
      obtain ⟨h2, h3⟩ := sp2 h2
      obtain ⟨h3, h4⟩ := sp2 h3
      exact ⟨s_ite ((E.ok c G t h2).t h1) (E.ok a G x h3).pe (E.ok b G y h4).pe, (fun z => by cases z), fun _ _ _ z => by cases z⟩
    | _ => cases h
  | .lst fz es, S, X, W, G, e, h => by
    cases e with
    | List xs p => exact ok_plain (s_lst (Es.ok es G xs h).a) (fun _ => rfl) (fun _ _ _ z => by cases z)
    | _ => cases h
  | .tup es, S, X, W, G, e, h => by
    cases e with
    | Tuple xs k p => exact ok_plain (s_tup (Es.ok es G xs h).a) (fun _ => rfl) (fun _ _ _ z => by cases z)
    | _ => cases h
  | .dct fz ks vs, S, X, W, G, e, h => by
    cases e with
    | Dict keys values p =>
      obtain ⟨h1, h2⟩ := sp2 (show (decide (keys.length = values.length ∧ keys.length ≤ 15 ∧ ks.Nodup ∧ ks.length = keys.length) && (keysOk keys ks && vs.ck T S values)) = true from h)
      obtain ⟨h2, h3⟩ := sp2 h2
      obtain ⟨h4, h5, h6, h7⟩ := of_decide_eq_true h1
      have k := Es.ok vs G values h3
      refine ok_plain ?_ (fun _ => rfl) (fun _ _ _ z => by cases z)
      cases keys with
      | nil =>
        have e1 : values = [] := List.eq_nil_of_length_eq_zero h4.symm
        have e2 : ks = [] := List.eq_nil_of_length_eq_zero h7
        have e3 : vs.len = 0 := by rw [k.l, e1]; rfl
        subst e1 e2
        cases vs with
        | nil => exact s_dct0
        | cons _ _ => cases e3
      | cons k0 kr =>
        refine s_dct (k.p p _ ks h2 h4) ?_ h4 (List.cons_ne_nil _ _) h5 (by rw [h7, h4, k.l]) (by rw [h7]; exact h5) h6
        exact keys_some h2
    | _ => cases h
  | .ix a i, S, X, W, G, e, h => by
    cases e with
    | Subscript x y p =>
      obtain ⟨h1, h2⟩ := sp2 (show (plainIx y && (a.ck T S x && i.ck T S y)) = true from h)
      obtain ⟨h2, h3⟩ := sp2 h2
      exact ok_plain (s_ix (by have := G.hu; omega) (E.ok a G x h2).pe (E.ok i G y h3).pe h1) (fun _ => rfl) (fun _ _ _ z => by cases z)
    | _ => cases h
  | .slc fz a lo hi, S, X, W, G, e, h => by
    cases e with
    | Subscript x y p =>
      cases y with
      | Slice l u st q =>
        cases st with
        | none =>
          obtain ⟨h1, h2⟩ := sp2 (show (a.ck T S x && (lo.ck T S l && hi.ck T S u)) = true from h)
          obtain ⟨h2, h3⟩ := sp2 h2
          exact ok_plain (s_slc (E.ok a G x h1).pe (Eo.ok lo G l h2) (Eo.ok hi G u h3)) (fun _ => rfl) (fun _ _ _ z => by cases z)
        | some _ => cases h
      | _ => cases h
    | _ => cases h
  | .call m f es pm, S, X, W, G, e, h => by
    replace h : (match (generalizing := false) callOf e with
      | some (x, _, as, kws, _) => (match kwNames kws with
        | some ks => S.calm && (decide (S.glo x ∧ (T.fns[f]?.map (·.x)) = some x ∧ (f, as.length, ks, pm) ∈ T.kbs) && (nodb x && (as.all notStar && es.ckA T S as kws)))
        | none => false)
      | none => false) = true := h
    split at h
    · rename_i x p as kws q hc
      have ec := callOf_ok hc
      subst ec
      split at h
      · rename_i ks hk
        obtain ⟨a0, a1⟩ := sp2 h
        obtain ⟨a2, a3⟩ := sp2 a1
        obtain ⟨a4, a5⟩ := sp2 a3
        obtain ⟨a6, a7⟩ := sp2 a5
        obtain ⟨hg, hf, hm⟩ := of_decide_eq_true a2
        obtain ⟨fn, hfn, ex⟩ := Option.map_eq_some_iff.mp hf
        obtain ⟨ms, ns, em, ka, kk, l1, l2, e1, e2⟩ := (Es.okA es G as kws a7).ex
        have up := G.call a0 f fn _ _ _ hfn hm
        rw [← l1] at up
        have hkl : ns.len = ks.length := by rw [l2, kw_len hk]
        rw [em]
        exact ok_plain (s_call G.tk ⟨ex ▸ up.ex, G.gl hg, nodb_ok a4⟩ ka kk a6 hk hkl e1 e2) (fun _ => rfl) (fun _ _ _ z => by cases z)
      · cases h
    · cases h
  | .bi b fz es, S, X, W, G, e, h => by
    replace h : (match (generalizing := false) callOf e with
      | some (x, _, as, [], _) => (match (generalizing := false) b with
        | .gcd => decide (S.glo x ∧ (x, "math.gcd") ∈ T.bfs ∧ as.isEmpty = false) && (nodb x && es.ck T S as)
        | b => (match biName b with
          | some (y, _, _, c) => decide (x = y ∧ T.isFree S x ∧ as.isEmpty = false ∧ (c = true → S.calm = true)) && es.ck T S as
          | none => false))
      | _ => false) = true := h
    split at h
    · rename_i x p as q hc
      have ec := callOf_ok hc
      subst ec
      split at h
      · obtain ⟨a1, a2⟩ := sp2 h
        obtain ⟨a3, a4⟩ := sp2 a2
        obtain ⟨k1, k2, k3⟩ := of_decide_eq_true a1
        have k := Es.ok es G as a4
        cases as with
        | nil => cases k3
        | cons a ar => exact ok_plain (s_biF bi_gcd (G.gl k1) (G.bfs _ k2) k.a (nodb_ok a3) k.s) (fun _ => rfl) (fun _ _ _ z => by cases z)
      · split at h
        · rename_i y kd id c hb
          obtain ⟨a1, a2⟩ := sp2 h
          obtain ⟨rfl, f1, f2, f3⟩ := of_decide_eq_true a1
          have k := Es.ok es G as a2
          obtain ⟨n1, n2, n3⟩ := bi_name (X := X) (g := g) hb fun z => G.calm (f3 z)
          cases as with
          | nil => cases f2
          | cons a ar =>
            cases kd with
            | fn => exact ok_plain (s_biB n3.2 (G.gl f1.1) (G.free _ f1.2) n3.1 k.a n1 n2 k.s) (fun _ => rfl) (fun _ _ _ z => by cases z)
            | ty => exact ok_plain (s_biT n3.2 (G.gl f1.1) (G.free _ f1.2) n3.1 k.a n1 n2 k.s) (fun _ => rfl) (fun _ _ _ z => by cases z)
        · cases h
    · cases h
  | .bi1 b fz m, S, X, W, G, e, h => by
    replace h : (match (generalizing := false) callOf e with
      | some (x, _, [e1], [], _) => (match (generalizing := false) callOf e1 with
        | some (y, _, [e2], [], _) => S.calm && (decide (T.isFree S x ∧ T.isFree S y) && ((match (generalizing := false) b with
          | .rlist => decide (x = "list" ∧ y = "range")
          | .lenset => decide (x = "len" ∧ y = "set")
          | _ => false) && (notStar e2 && m.ck T S e2)))
        | _ => false)
      | _ => false) = true := h
    split at h
    · rename_i x p e1 q hc
      split at h
      · rename_i y p2 e2 q2 hc2
        have ec := callOf_ok hc
        have ec2 := callOf_ok hc2
        obtain ⟨a0, a1⟩ := sp2 h
        obtain ⟨a2, a3⟩ := sp2 a1
        obtain ⟨a4, a5⟩ := sp2 a3
        obtain ⟨a6, a7⟩ := sp2 a5
        obtain ⟨f1, f2⟩ := of_decide_eq_true a2
        have k := (E.ok m G e2 a7).pe
        split at a4
        · obtain ⟨rfl, rfl⟩ := of_decide_eq_true a4
          rw [ec, ec2]
          exact ok_plain (s_rlist (G.calm a0) (G.gl f1.1) (G.free _ f1.2) (G.gl f2.1) (G.free _ f2.2) k a6) (fun _ => rfl) (fun _ _ _ z => by cases z)
        · obtain ⟨rfl, rfl⟩ := of_decide_eq_true a4
          rw [ec, ec2]
          exact ok_plain (s_lenset (G.calm a0) (G.gl f1.1) (G.free _ f1.2) (G.gl f2.1) (G.free _ f2.2) k a6) (fun _ => rfl) (fun _ _ _ z => by cases z)
        · cases a4
      · cases h
    · cases h
  | .me m o es, S, X, W, G, e, h => by
    cases e with
    | Call fn as kws p =>
      cases fn with
      | Attribute ob at_ ap =>
        cases kws with
        | nil =>
          replace h : (match (generalizing := false) meName m with
            | some (n, one) => decide (at_ = n ∧ as.length = (if one then 1 else 0)) && ((plainBase ob && ap.endLine == p.line) && (o.ck T S ob && es.ck T S as))
            | none => false) = true := h
          split at h
          · rename_i n one hn
            obtain ⟨a1, a2⟩ := sp2 h
            obtain ⟨a3, a4⟩ := sp2 a2
            obtain ⟨a5, a6⟩ := sp2 a3
            obtain ⟨a7, a8⟩ := sp2 a4
            obtain ⟨ea, hl⟩ := of_decide_eq_true a1
            have k := (E.ok o G ob a7).pe
            have ka := Es.ok es G as a8
            clear h a1 a2 a3 a4 a7
            refine ok_plain ?_ (fun _ => rfl) (fun _ _ _ z => by cases z)
            subst ea
            cases as with
            | nil =>
              cases es with
              | nil =>
                cases m with
                | pop => cases hn; exact s_pop k a5 a6
                | append => cases hn; cases hl
                | extend => cases hn; cases hl
                | popAt => cases hn; cases hl
                | insert => cases hn
              | cons _ _ => cases a8
            | cons a ar =>
              cases ar with
              | cons _ _ => cases one <;> cases hl
              | nil =>
                cases es with
                | nil => cases a8
                | cons ma mr =>
                  cases mr with
                  | cons _ _ => have := ka.l; cases this
                  | nil =>
                    obtain ⟨b1, b2⟩ := sp2 (show (notStar a && (ma.ck T S a && Es.ck T .nil S [])) = true from a8)
                    obtain ⟨b3, b4⟩ := sp2 b2
                    have k2 := (E.ok ma G a b3).pe
                    cases m with
                    | pop => cases hn; cases hl
                    | append => cases hn; exact s_append k k2 a5 a6 b1
                    | extend => cases hn; exact s_extend k k2 a5 a6 b1
                    | popAt => cases hn; exact s_popAt k k2 a5 a6 b1
                    | insert => cases hn
          · cases h
        | cons _ _ => cases h
      | _ => cases h
    | _ => cases h
  | .isi ts a, S, X, W, G, e, h => by
    replace h : (match (generalizing := false) callOf e with
      | some (x, _, [y, c], [], _) => decide (x = "isinstance" ∧ T.isFree S x ∧ ts.isEmpty = false ∧ ts.length ≤ 100) && ((match c with
        | .Tuple cs _ _ => tysOk T S ts cs
        | c => tysOk T S ts [c]) && (notStar y && a.ck T S y))
      | _ => false) = true := h
    split at h
    · rename_i x p y c q hc
      have ec := callOf_ok hc
      subst ec
      obtain ⟨h1, h2⟩ := sp2 h
      obtain ⟨h2, h3⟩ := sp2 h2
      obtain ⟨h3, h4⟩ := sp2 h3
      obtain ⟨rfl, f1, f2, f3⟩ := of_decide_eq_true h1
      have k := (E.ok a G y h4).pe
      refine ok_plain ?_ (fun _ => rfl) (fun _ _ _ z => by cases z)
      split at h2
      · exact s_isiT (G.gl f1.1) (G.free _ f1.2) k h3 (G.tys h2) (fun z => by rw [z] at f2; cases f2) f3
      · obtain ⟨t, rfl, ht⟩ := tyOk1 h2
        exact s_isi1 (G.gl f1.1) (G.free _ f1.2) k h3 (G.ty ht)
    · cases h
  | .isx i k, S, X, W, G, e, h => by
    replace h : (match (generalizing := false) callOf e with
      | some (x, _, [.Name y _, .Name z _], [], _) => decide (x = "isinstance" ∧ T.isFree S x ∧ (S.h.map (·.1)) = some i ∧ S.N[i]? = some y ∧ S.vis y ∧ S.glo z ∧ (T.cls[k]?.map (·.x)) = some z) && (nodb y && (nocd y && nodb z))
      | _ => false) = true := h
    split at h
    · rename_i x p y p1 z p2 q hc
      have ec := callOf_ok hc
      subst ec
      obtain ⟨a1, a2⟩ := sp2 h
      obtain ⟨a3, a4⟩ := sp2 a2
      obtain ⟨a5, a6⟩ := sp2 a4
      have b2 := nodb_ok a3
      have b3 := nocd_ok a5
      have b4 := nodb_ok a6
      obtain ⟨ex, f1, f2, f3, f4, f5, f6⟩ := of_decide_eq_true a1
      clear h a1 a2 a3 a4 a5 a6
      subst ex
      obtain ⟨ik, hik, ei⟩ := Option.map_eq_some_iff.mp f2
      obtain ⟨cl, hcl, ec⟩ := Option.map_eq_some_iff.mp f6
      subst ei ec
      obtain ⟨i, kk⟩ := ik
      exact ok_plain (G.isx i kk hik k cl y p p1 p2 q (by rw [G.N]; exact f3) (G.vs f4) b2 b3 (G.gl f1.1) (G.free _ f1.2) hcl (G.gl f5) b4) (fun _ => rfl) (fun _ _ _ z => by cases z)
    · cases h
  | .fld i j, S, X, W, G, e, h => by
    cases e with
    | Attribute ob f q =>
      cases ob with
      | Name y p =>
        replace h : (match S.h with
          | some (i', k) => decide (i' = i ∧ S.N[i]? = some y ∧ S.vis y) && (nodb y && (nocd y && fldOk T k j f))
          | none => false) = true := h
        split at h
        · rename_i i' k hh
          obtain ⟨h1, h2⟩ := sp2 h
          obtain ⟨h2, h3⟩ := sp2 h2
          obtain ⟨h3, h4⟩ := sp2 h3
          obtain ⟨rfl, f1, f2⟩ := of_decide_eq_true h1
          exact ok_plain (G.fld i' k hh j f y p q (by rw [G.N]; exact f1) (G.vs f2) (nodb_ok h2) (nocd_ok h3) h4) (fun _ => rfl) (fun _ _ _ z => by cases z)
        · cases h
      | _ => cases h
    | _ => cases h
  | .comp fz own t it c el, S, X, W, G, e, h => by
    cases e with
    | ListComp elt gens scope p =>
      match gens, h with
      | [gn], h =>
        obtain ⟨tg, iter, ifs, as_⟩ := gn
        obtain ⟨h0, h1⟩ := sp2 (show (S.calm && (decide (as_ = 0 ∧ (∀ i ∈ t.nms, i ∈ own)) && (blkC S.N S.sc scope (own.map fun i => (S.N.getD i Str.empty, i)) &&
          ((notSet iter && it.ck T S tg iter) && (t.ck T (S.blk scope) tg && (c.ckC T (S.blk scope) ifs && el.ck T (S.blk scope) elt)))))) = true from h)
        obtain ⟨h1, h2⟩ := sp2 h1
        obtain ⟨h2, h3⟩ := sp2 h2
        obtain ⟨h3, h4⟩ := sp2 h3
        obtain ⟨h3, h5⟩ := sp2 h3
        obtain ⟨h4, h6⟩ := sp2 h4
        obtain ⟨h6, h7⟩ := sp2 h6
        obtain ⟨rfl, hn⟩ := of_decide_eq_true h1
        have ok := blkOk_by h2
        have B : ∀ (s : Shared) (H : Hp) (C : Addr) (cl : List (Str × Addr)) (fp : List Addr), Good T (S.blk scope) (X.blk s H scope (compEnvC scope cl C X.env) fp) g cx WF := G.blk h0 ok.kind
        have blk : BlkIn X g cx elt tg ifs scope own t c el := {
          calm := G.calm h0
          nd := G.nd
          ok := ⟨_, by rw [G.N, G.sc]; exact ok, by rw [List.map_map]; exact List.map_id _⟩
          nms := hn
          tg := fun s H C cl fp => Tg.ok t (B s H C cl fp) tg h4
          ts := fun s H C cl fp => Eo.okC c (B s H C cl fp) ifs h6
          el := fun s H C cl fp => (E.ok el (B s H C cl fp) elt h7).pe }
        refine ok_plain ?_ (fun _ => rfl) (fun _ _ _ z => by cases z)
        exact It.okL it G tg iter h5 (fun hi => s_comp blk hi h3) fun i x p' hi hx hv hd hcd => by
          subst hi hx
          exact s_compK blk hv.1 hv.2 hd hcd
      | [], h => cases h
      | _ :: _ :: _, h => cases h
    | _ => cases h
theorem Es.ok {T : Tab} {g : G} {cx : Cx} : ∀ (m : Es) {S : Stc} {X : L2.Cx} {W : L2.WX} (G : Good T S X g cx W) (es : List Expr), m.ck T S es = true → OkE X g W cx m es
  | .nil, S, X, W, G, es, h => by
    have e := emp (show es.isEmpty = true from h)
    subst e
    refine ⟨a_nil, rfl, rfl, fun pos keys ks hk hl => ?_⟩
    have e := List.eq_nil_of_length_eq_zero hl
    subst e
    cases ks with
    | nil => exact pps_nil
    | cons _ _ => cases hk
  | .cons m ms, S, X, W, G, [], h => by cases h
  | .cons m ms, S, X, W, G, e :: es, h => by
    obtain ⟨h1, h2⟩ := sp2 (show (notStar e && (m.ck T S e && ms.ck T S es)) = true from h)
    obtain ⟨h2, h3⟩ := sp2 h2
    have k := (E.ok m G e h2).pe
    have ks := Es.ok ms G es h3
    refine ⟨a_cons k ks.a h1, by rw [List.all_cons, h1, ks.s]; rfl, by show ms.len + 1 = es.length + 1; rw [ks.l], fun pos keys kys hk hl => ?_⟩
    cases keys with
    | nil => cases hl
    | cons o r =>
      have hl' : r.length = es.length := Nat.succ.inj hl
      rcases keys_inv hk with ⟨x, n, q, kr, rfl, rfl, h4⟩ | ⟨x, n, q, kr, rfl, rfl, h4⟩
      · exact pps_cons (pk_str (k := .inr 0)) k (ks.p pos r kr h4 hl')
      · exact pps_cons pk_int k (ks.p pos r kr h4 hl')
theorem Es.okA {T : Tab} {g : G} {cx : Cx} : ∀ (m : Es) {S : Stc} {X : L2.Cx} {W : L2.WX} (G : Good T S X g cx W) (es : List Expr) (ks : List Keyword), m.ckA T S es ks = true → OkA X g W cx m es ks
  | .nil, S, X, W, G, es, ks, h => by
    obtain ⟨h1, h2⟩ := sp2 (show (es.isEmpty && ks.isEmpty) = true from h)
    have e1 := emp h1
    have e2 := emp h2
    subst e1 e2
    exact ⟨.nil, .nil, rfl, a_nil, k_nil, rfl, rfl, fun _ => rfl, fun _ => rfl⟩
  | .cons m ms, S, X, W, G, [], [], h => by cases h
  | .cons m ms, S, X, W, G, [], ⟨nm, v, p⟩ :: ks, h => by
    obtain ⟨h1, h2⟩ := sp2 (show (m.ck T S v && ms.ckA T S [] ks) = true from h)
    have k := (E.ok m G v h1).pe
    obtain ⟨as, ns, em, ka, kk, l1, l2, e1, e2⟩ := (Es.okA ms G [] ks h2).ex
    rw [e1 rfl] at em
    exact ⟨.nil, .cons m ns, by rw [em]; rfl, a_nil, k_cons k kk, rfl, by show ns.len + 1 = ks.length + 1; rw [l2], fun _ => rfl, fun z => by cases z⟩
  | .cons m ms, S, X, W, G, e :: es, ks, h => by
    obtain ⟨a1, a2⟩ := sp2 (show (notStar e && (m.ck T S e && ms.ckA T S es ks)) = true from h)
    obtain ⟨a3, a4⟩ := sp2 a2
    have k := (E.ok m G e a3).pe
    obtain ⟨as, ns, em, ka, kk, l1, l2, e1, e2⟩ := (Es.okA ms G es ks a4).ex
    exact ⟨.cons m as, ns, by rw [em]; rfl, a_cons k ka a1, kk, by show as.len + 1 = es.length + 1; rw [l1], l2, (fun z => by cases z), e2⟩
theorem Eo.ok {T : Tab} {g : G} {cx : Cx} : ∀ (m : Eo) {S : Stc} {X : L2.Cx} {W : L2.WX} (G : Good T S X g cx W) (e : Option Expr), m.ck T S e = true → PO X e (vO g W cx m)
  | .no, S, X, W, G, none, h => o_no
  | .no, S, X, W, G, some _, h => by cases h
  | .so m, S, X, W, G, none, h => by cases h
  | .so m, S, X, W, G, some e, h => o_so (E.ok m G e h).pe
theorem Eo.okC {T : Tab} {g : G} {cx : Cx} : ∀ (m : Eo) {S : Stc} {X : L2.Cx} (G : Good T S X g cx WF) (es : List Expr), m.ckC T S es = true → PTs X es (tCond g cx m)
  | .no, S, X, G, es, h => by
    have e := emp (show es.isEmpty = true from h)
    subst e
    exact pts_nil
  | .so m, S, X, G, [], h => by cases h
  | .so m, S, X, G, _ :: _ :: _, h => by cases h
  | .so m, S, X, G, [e], h => by
    obtain ⟨h1, h2⟩ := sp2 (show (testable e && m.ck T S e) = true from h)
    exact pts_one ((E.ok m G e h2).t h1)
theorem It.okL {T : Tab} {g : G} {cx : Cx} : ∀ (it : It) {S : Stc} {X : L2.Cx} {W : L2.WX} (G : Good T S X g cx W) (tg iter : Expr), it.ck T S tg iter = true → ∀ {R : Prop}, (PI X tg iter (vI g W cx it) → R) →
    (∀ i x p, it = .ks i → iter = .Name x p → (X.N[i]? = some x ∧ Vis X.env.scope x) → (x == ("__debug__" : Str)) = false → (x == ("__classdict__" : Str)) = false → R) → R
  | .ks i, S, X, W, G, tg, e, h, R, k1, k2 => by
    cases e with
    | Name x p =>
      obtain ⟨h1, h2⟩ := sp2 (show (decide (S.N[i]? = some x ∧ S.vis x) && (nodb x && nocd x)) = true from h)
      obtain ⟨h2, h3⟩ := sp2 h2
      obtain ⟨h4, h5⟩ := of_decide_eq_true h1
      exact k2 i x p rfl rfl ⟨by rw [G.N]; exact h4, G.vs h5⟩ (nodb_ok h2) (nocd_ok h3)
    | _ => cases h
  | .ex m, S, X, W, G, tg, e, h, R, k1, k2 => k1 (i_ex (E.ok m G e h).pe)
  | .r1 a, S, X, W, G, tg, e, h, R, k1, k2 => by
    replace h : (match (generalizing := false) callOf e with
      | some (x, _, [y], [], _) => decide (x = "range" ∧ T.isFree S "range") && (notStar y && a.ck T S y)
      | _ => false) = true := h
    split at h
    · rename_i x p y q hc
      have ec := callOf_ok hc
      subst ec
      obtain ⟨h1, h2⟩ := sp2 h
      obtain ⟨h2, h3⟩ := sp2 h2
      obtain ⟨rfl, f⟩ := of_decide_eq_true h1
      exact k1 (i_r1 (G.gl f.1) (G.free _ f.2) (E.ok a G y h3).pe h2)
    · cases h
  | .r2 a b, S, X, W, G, tg, e, h, R, k1, k2 => by
    replace h : (match (generalizing := false) callOf e with
      | some (x, _, [y, z], [], _) => decide (x = "range" ∧ T.isFree S "range") && ((notStar y && notStar z) && (a.ck T S y && b.ck T S z))
      | _ => false) = true := h
    split at h
    · rename_i x p y z q hc
      have ec := callOf_ok hc
      subst ec
      obtain ⟨h1, h2⟩ := sp2 h
      obtain ⟨h2, h3⟩ := sp2 h2
      obtain ⟨h2, h4⟩ := sp2 h2
      obtain ⟨h3, h5⟩ := sp2 h3
      obtain ⟨rfl, f⟩ := of_decide_eq_true h1
      exact k1 (i_r2 (G.gl f.1) (G.free _ f.2) (E.ok a G y h3).pe (E.ok b G z h5).pe h2 h4)
    · cases h
  | .r3 a b c, S, X, W, G, tg, e, h, R, k1, k2 => by
    replace h : (match (generalizing := false) callOf e with
      | some (x, _, [y, z, u], [], _) => decide (x = "range" ∧ T.isFree S "range") && ((notStar y && (notStar z && notStar u)) && (a.ck T S y && (b.ck T S z && c.ck T S u)))
      | _ => false) = true := h
    split at h
    · rename_i x p y z u q hc
      have ec := callOf_ok hc
      subst ec
      obtain ⟨h1, h2⟩ := sp2 h
      obtain ⟨h2, h3⟩ := sp2 h2
      obtain ⟨h2, h4⟩ := sp2 h2
      obtain ⟨h4, h5⟩ := sp2 h4
      obtain ⟨h3, h6⟩ := sp2 h3
      obtain ⟨h6, h7⟩ := sp2 h6
      obtain ⟨rfl, f⟩ := of_decide_eq_true h1
      exact k1 (i_r3 (G.gl f.1) (G.free _ f.2) (E.ok a G y h3).pe (E.ok b G z h6).pe (E.ok c G u h7).pe h2 h4 h5)
    · cases h
  | .zip a b, S, X, W, G, tg, e, h, R, k1, k2 => by
    replace h : (match (generalizing := false) callOf e with
      | some (x, _, [y, z], [], _) => zipT tg && (decide (x = "zip" ∧ T.isFree S "zip") && ((notStar y && notStar z) && (a.ck T S y && b.ck T S z)))
      | _ => false) = true := h
    split at h
    · rename_i x p y z q hc
      have ec := callOf_ok hc
      subst ec
      obtain ⟨h0, h⟩ := sp2 h
      obtain ⟨h1, h2⟩ := sp2 h
      obtain ⟨h2, h3⟩ := sp2 h2
      obtain ⟨h2, h4⟩ := sp2 h2
      obtain ⟨h3, h5⟩ := sp2 h3
      obtain ⟨rfl, f⟩ := of_decide_eq_true h1
      exact k1 (i_zip h0 (G.gl f.1) (G.free _ f.2) (E.ok a G y h3).pe (E.ok b G z h5).pe h2 h4)
    · cases h
  | .enu a, S, X, W, G, tg, e, h, R, k1, k2 => by
    replace h : (match (generalizing := false) tg, callOf e with
      | .Tuple _ _ _, some (x, _, [y], [], _) => decide (x = "enumerate" ∧ T.isFree S "enumerate") && (notStar y && a.ck T S y)
      | _, _ => false) = true := h
    split at h
    · rename_i x p y q hc
      have ec := callOf_ok hc
      subst ec
      obtain ⟨h1, h2⟩ := sp2 h
      obtain ⟨h2, h3⟩ := sp2 h2
      obtain ⟨rfl, f⟩ := of_decide_eq_true h1
      exact k1 (i_enu (G.gl f.1) (G.free _ f.2) (E.ok a G y h3).pe h2)
    · cases h
  | .rev a, S, X, W, G, tg, e, h, R, k1, k2 => by
    replace h : (match (generalizing := false) callOf e with
      | some (x, _, [y], [], _) => decide (x = "reversed" ∧ T.isFree S "reversed") && (notStar y && a.ck T S y)
      | _ => false) = true := h
    split at h
    · rename_i x p y q hc
      have ec := callOf_ok hc
      subst ec
      obtain ⟨h1, h2⟩ := sp2 h
      obtain ⟨h2, h3⟩ := sp2 h2
      obtain ⟨rfl, f⟩ := of_decide_eq_true h1
      exact k1 (i_rev (G.gl f.1) (G.free _ f.2) (E.ok a G y h3).pe h2)
    · cases h
theorem Tg.ok {T : Tab} {g : G} {cx : Cx} : ∀ (t : Tg) {S : Stc} {X : L2.Cx} {W : L2.WX} (G : Good T S X g cx W) (e : Expr), t.ck T S e = true → PG X e (vG g cx t)
  | .nm i, S, X, W, G, e, h => by
    cases e with
    | Name x p =>
      obtain ⟨h1, h2⟩ := sp2 (show (decide (S.N[i]? = some x ∧ S.loc x) && (S.fnB x || decide (S.sc.names.lookup x = some .local))) = true from h)
      obtain ⟨h3, h4⟩ := of_decide_eq_true h1
      refine g_nm G.nd (by rw [G.N]; exact h3) (by rw [G.sc]; exact h4) ?_
      rcases Bool.or_eq_true_iff.mp h2 with h2 | h2
      · exact .inl (G.fn x h2)
      · exact .inr (by rw [G.sc]; exact of_decide_eq_true h2)
    | _ => cases h
  | .tp ts, S, X, W, G, e, h => by
    cases e with
    | Tuple es k p =>
      obtain ⟨h1, h2⟩ := sp2 (show (S.calm && ts.ck T S es) = true from h)
      obtain ⟨k1, k2, k3⟩ := Tgs.ok ts G es h2
      exact g_tp (G.calm h1) k1 k2 k3
    | _ => cases h
  | .sub a i, S, X, W, G, e, h => by
    cases e with
    | Subscript x y p =>
      obtain ⟨h1, h2⟩ := sp2 (show (plainIx y && (a.ck T S x && i.ck T S y)) = true from h)
      obtain ⟨h2, h3⟩ := sp2 h2
      exact g_sub (E.ok a G x h2).pe (E.ok i G y h3).pe h1
    | _ => cases h
theorem Tgs.ok {T : Tab} {g : G} {cx : Cx} : ∀ (t : Tgs) {S : Stc} {X : L2.Cx} {W : L2.WX} (G : Good T S X g cx W) (es : List Expr), t.ck T S es = true → PGs X es (vGs g cx t) ∧ es.all notStar = true ∧ es.length = t.len
  | .nil, S, X, W, G, es, h => by
    have e := emp (show es.isEmpty = true from h)
    subst e
    exact ⟨gs_nil, rfl, rfl⟩
  | .cons t ts, S, X, W, G, [], h => by cases h
  | .cons t ts, S, X, W, G, e :: es, h => by
    obtain ⟨h1, h2⟩ := sp2 (show (notStar e && (t.ck T S e && ts.ck T S es)) = true from h)
    obtain ⟨h2, h3⟩ := sp2 h2
    obtain ⟨k1, k2, k3⟩ := Tgs.ok ts G es h3
    exact ⟨gs_cons (Tg.ok t G e h2) k1 h1, by rw [List.all_cons, h1, k2]; rfl, by show es.length + 1 = ts.len + 1; rw [k3]⟩
end
end TB

end

section
set_option Elab.async false
set_option linter.all false
set_option maxHeartbeats 4000000
namespace TB
open PySem L2

/-- no swap: the value, the target -/
def noSwT (S : Stc) (x tg : Expr) : Bool := noSw x || (match tg with
  | .Name t _ => !(S.sc.names.lookup t == some .local)
  | _ => true)
def noStores (S : Stc) (tg x : Expr) : Bool := match tg, x with
  | .Tuple ts _ _, .Tuple vs _ _ => (match swP (fun n => S.sc.names.lookup n) ts vs with
    | some none => true
    | _ => false)
  | .List _ _, _ => false
  | _, _ => true
/-- the comprehension is stored at once -/
def swLc (S : Stc) (y : Str) (py : Pos) (scope : Scope) (pos : Pos) : Bool := decide (S.sc.names.lookup y = some .local) && (py.line == pos.line && !(scope.names.any fun (n, k) => n == y && (k == .local || k == .cell)))
def isLc : Expr → Bool
  | .ListComp _ _ _ _ => true
  | _ => false
def It.notKs : It → Bool
  | .ks _ => false
  | _ => true
def E.lcOk : E → Bool
  | .comp _ _ _ it _ _ => it.notKs
  | _ => false
theorem notKs_ok {it : It} (h : it.notKs = true) (j : Nat) : it ≠ .ks j := fun e => by rw [e] at h; cases h
def lcOf : Expr → Expr → Option (Str × Pos × Expr × List Comprehension × Scope × Pos)
  | .Name y py, .ListComp elt gens scope p2 => some (y, py, elt, gens, scope, p2)
  | _, _ => none
theorem lcOf_ok {tg e elt : Expr} {y : Str} {py p2 : Pos} {gens : List Comprehension} {scope : Scope} (h : lcOf tg e = some (y, py, elt, gens, scope, p2)) : tg = .Name y py ∧ e = .ListComp elt gens scope p2 := by
  unfold lcOf at h
  split at h
  · cases h; exact ⟨rfl, rfl⟩
  · cases h
def asg1 : Stmt → Option (Expr × Expr × Pos)
  | .Assign [tg] e p => some (tg, e, p)
  | _ => none
theorem asg1_ok {st : Stmt} {tg e : Expr} {p : Pos} (h : asg1 st = some (tg, e, p)) : st = .Assign [tg] e p := by
  unfold asg1 at h
  split at h
  · cases h; rfl
  · cases h
def asgTup : Stmt → Option (List Expr × List Expr)
  | .Assign [.Tuple ts _ _] (.Tuple vs _ _) _ => some (ts, vs)
  | _ => none
theorem asgTup_ok {st : Stmt} {ts vs : List Expr} (h : asgTup st = some (ts, vs)) : ∃ k1 p1 k2 p2 p, st = .Assign [.Tuple ts k1 p1] (.Tuple vs k2 p2) p := by
  unfold asgTup at h
  split at h
  · cases h; exact ⟨_, _, _, _, _, rfl⟩
  · cases h
def parOk (S : Stc) : List Nat → List Expr → List Expr → Bool
  | [i, j], [.Name x px, .Name y py], [a, b] => decide (S.N[i]? = some x ∧ S.N[j]? = some y ∧ i ≠ j ∧ S.sc.names.lookup x = some .local ∧ S.sc.names.lookup y = some .local ∧
      swP (fun n => S.sc.names.lookup n) [.Name x px, .Name y py] [a, b] = some (some [x, y]))
  | [i, j, l], [.Name x px, .Name y py, .Name z pz], [a, b, c] => decide (S.N[i]? = some x ∧ S.N[j]? = some y ∧ S.N[l]? = some z ∧ i ≠ j ∧ i ≠ l ∧ j ≠ l ∧ S.sc.names.lookup x = some .local ∧ S.sc.names.lookup y = some .local ∧ S.sc.names.lookup z = some .local ∧
      swP (fun n => S.sc.names.lookup n) [.Name x px, .Name y py, .Name z pz] [a, b, c] = some (some [x, y, z]))
  | _, _, _ => false
theorem parOk_inv {S : Stc} {is : List Nat} {ts vs : List Expr} (h : parOk S is ts vs = true) :
    (∃ i j x px y py a b, is = [i, j] ∧ ts = [.Name x px, .Name y py] ∧ vs = [a, b] ∧ S.N[i]? = some x ∧ S.N[j]? = some y ∧ i ≠ j ∧ S.sc.names.lookup x = some .local ∧ S.sc.names.lookup y = some .local ∧ swP (fun n => S.sc.names.lookup n) [.Name x px, .Name y py] [a, b] = some (some [x, y])) ∨
    (∃ i j l x px y py z pz a b c, is = [i, j, l] ∧ ts = [.Name x px, .Name y py, .Name z pz] ∧ vs = [a, b, c] ∧ S.N[i]? = some x ∧ S.N[j]? = some y ∧ S.N[l]? = some z ∧ i ≠ j ∧ i ≠ l ∧ j ≠ l ∧ S.sc.names.lookup x = some .local ∧ S.sc.names.lookup y = some .local ∧ S.sc.names.lookup z = some .local ∧
      swP (fun n => S.sc.names.lookup n) [.Name x px, .Name y py, .Name z pz] [a, b, c] = some (some [x, y, z])) := by
  unfold parOk at h
  split at h
  · obtain ⟨b1, b2, b3, b4, b5, b6⟩ := of_decide_eq_true h
    exact .inl ⟨_, _, _, _, _, _, _, _, rfl, rfl, rfl, b1, b2, b3, b4, b5, b6⟩
  · obtain ⟨b1, b2, b3, b4, b5, b6, b7, b8, b9, c1⟩ := of_decide_eq_true h
    exact .inr ⟨_, _, _, _, _, _, _, _, _, _, _, _, rfl, rfl, rfl, b1, b2, b3, b4, b5, b6, b7, b8, b9, c1⟩
  · cases h
def raiseOf : Stmt → Option (Str × List Expr)
  | .Raise (some (.Call (.Name x _) as [] _)) none _ => some (x, as)
  | _ => none
theorem raiseOf_ok {st : Stmt} {x : Str} {as : List Expr} (h : raiseOf st = some (x, as)) : ∃ p p2 p3, st = .Raise (some (.Call (.Name x p) as [] p2)) none p3 := by
  unfold raiseOf at h
  split at h
  · cases h; exact ⟨_, _, _, rfl⟩
  · cases h
def hdOf : ExceptHandler → Option (Str × Option Str × List Stmt)
  | .ExceptHandler (some (.Name x _)) n body _ => some (x, n, body)
  | _ => none
theorem hdOf_ok {e : ExceptHandler} {x : Str} {n : Option Str} {body : List Stmt} (h : hdOf e = some (x, n, body)) : ∃ p p2, e = .ExceptHandler (some (.Name x p)) n body p2 := by
  unfold hdOf at h
  split at h
  · cases h; exact ⟨_, _, rfl⟩
  · cases h
def nmOk (S : Stc) : Option Str → Option Nat → Bool
  | none, none => true
  | some m, some j => decide (S.N[j]? = some m ∧ S.sc.names.lookup m = some .local)
  | _, _ => false
/-- the suite's static words -/
def Stc.suite (S : Stc) (h : Option (Nat × Nat)) : Stc := { S with calm := false, h := h, top := false }
mutual
def S.ck (T : Tab) : S → Stc → Stmt → Bool
  | .ex m, S, st => match st with
    | .Expr e _ => noSw e && m.ck T S e
    | _ => false
  | .asg t m, S, st => match asg1 st with
    | some (tg, e, _) => if isLc e && !noSwT S e tg then (match lcOf tg e with
        | some (y, py, _, _, scope, p2) => m.lcOk && (swLc S y py scope p2 && (t.ck T S tg && m.ck T S e))
        | none => false)
      else noSwT S e tg && (noStores S tg e && (notStar tg && (t.ck T S tg && m.ck T S e)))
    | none => false
  | .par is es, S, st => match asgTup st with
    | some (ts, vs) => S.calm && (parOk S is ts vs && es.ck T S vs)
    | none => false
  | .ret m, S, st => match st with
    | .Return (some e) _ => m.ck T S e
    | _ => false
  | .ret0, _, st => match st with
    | .Return none _ => true
    | _ => false
  | .ite c a b, S, st => match st with
    | .If t x y _ => testable t && (c.ck T S t && (a.ck T S x && b.ck T S y))
    | _ => false
  | .whl c b, S, st => match st with
    | .While t x [] _ => testable t && (c.ck T S t && b.ck T S x)
    | _ => false
  | .fr t it b, S, st => match st with
    | .For tg iter x [] _ => S.calm && ((notSet iter && (it.notKs && it.ck T S tg iter)) && (t.ck T S tg && b.ck T S x))
    | _ => false
  | .rse c es, S, st => match raiseOf st with
    | some (x, as) => S.calm && (decide (S.glo x ∧ (T.cls[c]?.map (·.x)) = some x ∧ (T.cls[c]?.map (·.flds.length)) = some as.length ∧ as.length ≤ 900 ∧ as.isEmpty = false) && (nodb x && es.ck T S as))
    | none => false
  | .tr b hs, S, st => match st with
    | .Try body (h0 :: hds) [] [] _ => S.top && (b.ck T S body && hs.ck T S (h0 :: hds))
    | _ => false
  | .pas, _, st => match st with
    | .Pass _ => true
    | _ => false
  | .brk, _, st => match st with
    | .Break _ => true
    | _ => false
  | .cnt, _, st => match st with
    | .Continue _ => true
    | _ => false
def Ss.ck (T : Tab) : Ss → Stc → List Stmt → Bool
  | .nil, _, l => l.isEmpty
  | .cons m ms, S, l => match l with
    | st :: r => m.ck T S st && ms.ck T S r
    | [] => false
def Hs.ck (T : Tab) : Hs → Stc → List ExceptHandler → Bool
  | .nil, _, l => l.isEmpty
  | .cons k i b hs, S, l => match l with
    | hd :: r => (match hdOf hd with
      | some (x, n, body) => decide (S.glo x ∧ (T.cls[k]?.map (·.x)) = some x ∧ body.isEmpty = false) && (nodb x && (nmOk S n i && (b.ck T (S.suite (i.map fun j => (j, k))) body && hs.ck T S r)))
      | none => false)
    | [] => false
end

structure GoodS (T : Tab) (S : Stc) (X : L2.Cx) (g : G) (cx : Cx) (W : L2.WX) : Prop where
  good : Good T S X g cx W
  rse : S.calm = true → ∀ c cl, T.cls[c]? = some cl → cl.flds ≠ [] → (g.flds c).Nodup ∧ ∃ (fI : Addr) (fd : FuncData) (k : Nat) (ps : List Str), PySem.W.findIn X.K (.ref (g.cls c)) "__init__" = some (some (.ref fI)) ∧ PySem.W.typeIn X.K (.ref fI) = some (.type "function") ∧
    FnOk X.prog X.w X.K X.mg X.base (L2.CX X.prog X.w) k fI fd ps (spInit X.K (g.flds c)) ∧ Room (k + 1) X.A ∧ Binds X.K fd ps []
  flds : ∀ c cl, T.cls[c]? = some cl → g.flds c = cl.flds
  tsub : T.sub = g.sub
  xi : S.top = true → g.xi = none
  top : S.top = true → X.stack = X.env :: X.outer ∧ X.env.frame = some X.env.locals
section
variable {T : Tab} {S : Stc} {X : L2.Cx} {g : G} {cx : Cx} {W : L2.WX}
theorem GoodS.tr (G : GoodS T S X g cx W) {W' : L2.WX} {pn : List (Addr × Obj)} {xe : Value → Shared → Prop} (tk : Takes (X.tr pn xe) W') (own : PassesOwn (model X.prog X.w) X.A X.env xe) (hh : S.h = none) : GoodS T S (X.tr pn xe) g cx W' where
  good := ⟨G.good.N, G.good.sc, G.good.kind, G.good.nd, G.good.calm, G.good.hu, tk, own, G.good.fn, G.good.free, G.good.cInt, G.good.cStr, G.good.bfs, fun h f fn n ks pm h1 h2 => by
      obtain ⟨k, fa, fd, qual, st, ps, F, r⟩ := (G.good.call h f fn n ks pm h1 h2).ex
      exact ⟨k, fa, fd, qual, st, ps, F, r⟩, G.good.cls, G.good.K, G.good.sub, fun i k h => (by rw [hh] at h; cases h), fun i k h => (by rw [hh] at h; cases h)⟩
  rse := G.rse
  flds := G.flds
  tsub := G.tsub
  xi := G.xi
  top := G.top
theorem Classes.on {K : Frag} {n : Nat} (C : Classes K g n) (i k : Nat) (a : Addr) (d : Option Addr) (c : Value) : Classes K (g.on i k a d c) n := ⟨C.cnt, C.ex, C.xf, C.is, C.nof, C.kit, C.exm, C.lt⟩
theorem GoodS.su0 (G : GoodS T S X g cx W) (a : Addr) (pn : List (Addr × Obj)) : GoodS T (S.suite none) (X.suite a pn) g cx WF where
  good := ⟨G.good.N, G.good.sc, G.good.kind, G.good.nd, fun h => (by cases h), G.good.hu, takes0, PassesOwn.never, G.good.fn, G.good.free, G.good.cInt, G.good.cStr, G.good.bfs, fun h => (by cases h), G.good.cls, G.good.K, G.good.sub, fun i k h => (by cases h), fun i k h => (by cases h)⟩
  rse := fun h => by cases h
  flds := G.flds
  tsub := G.tsub
  xi := fun h => by cases h
  top := fun h => by cases h
theorem GoodS.su1 (G : GoodS T S X g cx W) {a : Addr} {oe : Obj} {pn : List (Addr × Obj)} {i k : Nat} {d : Option Addr} {c : Value} (hz : Zc c d oe) (hf : ∃ vs, oe.data = .fields vs) : GoodS T (S.suite (some (i, k))) (X.suite a ((a, oe) :: pn)) (g.on i k a d c) cx WF where
  good := ⟨G.good.N, G.good.sc, G.good.kind, G.good.nd, fun h => (by cases h), G.good.hu, takes0, PassesOwn.never, G.good.fn, G.good.free, G.good.cInt, G.good.cStr, G.good.bfs, fun h => (by cases h), G.good.cls, G.good.K.on i k a d c, G.good.sub,
    fun i' k' h => (by
      cases h
      exact fun j f x p q hN hv hd hcd hj => s_fld (X := X) (g := g.on i k a d c) (xh := ⟨i, a, d, c, k⟩) (G.good.K.on i k a d c) rfl hz hf hN hv hd hcd (fldOk_at (g := g.on i k a d c) (G.good.K.on i k a d c) G.flds G.tsub hj)),
    fun i' k' h => (by
      cases h
      intro c' cl x p p1 p2 q hN hv hd hcd hg hm hc hgl hdl
      have hlt : c' < T.cls.length := (List.getElem?_eq_some_iff.mp hc).1
      exact s_isx (X := X) (g := g.on i k a d c) (xh := ⟨i, a, d, c, k⟩) (G.good.K.on i k a d c) G.good.sub rfl hz hf hN hv hd hcd hg hm hgl (G.good.cls c' cl hc) hdl hlt)⟩
  rse := fun h => by cases h
  flds := G.flds
  tsub := G.tsub
  xi := fun h => by cases h
  top := fun h => by cases h
theorem noSwT_ok (G : Good T S X g cx W) {x tg : Expr} (h : noSwT S x tg = true) (l : Nat) : swapsWithSole [tg] x l X.env = pure false := by
  show swapsWith x (some tg) l X.env = pure false
  unfold noSwT at h
  rcases Bool.or_eq_true_iff.mp h with h | h
  · exact noSw_ok h
  · cases tg with
    | Name t p =>
      have hk : (X.env.kindOf t == some NameKind.local) = false := by
        show (X.env.scope.names.lookup t == some .local) = false
        rw [G.sc]
        simpa using h
      unfold swapsWith
      cases x <;> first
        | rfl
        | (simp only [hk, Bool.and_false, Bool.false_and]; done)
        | (simp only [hk, Bool.and_false, Bool.false_and]; rfl)
    | _ =>
      unfold swapsWith
      cases x <;> rfl
theorem noStores_ok (G : Good T S X g cx W) {tg x : Expr} (h : noStores S tg x = true) : swappedStores [tg] x X.env = pure none := by
  unfold noStores at h
  split at h
  · split at h
    · rename_i heq
      have e : X.env.kindOf = fun n => S.sc.names.lookup n := by funext n; show X.env.scope.names.lookup n = _; rw [G.sc]
      rw [← e] at heq
      exact swP_ok (by rw [G.sc]; exact G.kind) heq
    · cases h
  · cases h
  · rename_i h1 h2
    unfold swappedStores
    cases tg <;> first
      | rfl
      | (exact (h1 _ _ rfl).elim)
      | (exact (h2 _ _ rfl).elim)
      | (cases x <;> first | rfl | exact (h1 _ _ _ _ _ _ rfl rfl).elim | exact (h2 _ _ _ _ _ _ rfl rfl).elim)
theorem r_asg' (G : Good T S X g cx W) {e tg : Expr} {m : E} {t : Tg} {pos : Pos} (he : PE X e (vE g W cx m)) (hg : PG X tg (vG g cx t)) (hs : noSwT S e tg = true) (hw : noStores S tg e = true) (hn : notStar tg = true) : PS X (.Assign [tg] e pos) (vS g W cx (.asg t m)) :=
  weakS (ps_asg he hg (noSwT_ok G hs _) (noStores_ok G hw) (by cases tg <;> first | rfl | cases hn)) asg_read
end
end TB

end

section
set_option Elab.async false
set_option linter.all false
set_option maxHeartbeats 4000000
namespace TB
open PySem L2

theorem top_h {T : Tab} {S : Stc} {X : L2.Cx} {g : G} {cx : Cx} {W : L2.WX} (hh : S.top = true → S.h = none) (h : S.top = true) : S.h = none := hh h
mutual
theorem S.ok {T : Tab} {cx : Cx} : ∀ (m : S) {S : Stc} {X : L2.Cx} {g : G} {W : L2.WX} (G : GoodS T S X g cx W) (hh : S.top = true → S.h = none) (st : Stmt), m.ck T S st = true → PS X st (vS g W cx m)
  | .ex m, S, X, g, W, G, hh, st, h => by
    cases st with
    | Expr e p =>
      obtain ⟨a1, a2⟩ := sp2 (show (noSw e && m.ck T S e) = true from h)
      exact r_ex (E.ok m G.good e a2).pe a1
    | _ => cases h
  | .asg t m, S, X, g, W, G, hh, st, h => by
    replace h : (match asg1 st with
      | some (tg, e, _) => if isLc e && !noSwT S e tg then (match lcOf tg e with
          | some (y, py, _, _, scope, p2) => m.lcOk && (swLc S y py scope p2 && (t.ck T S tg && m.ck T S e))
          | none => false)
        else noSwT S e tg && (noStores S tg e && (notStar tg && (t.ck T S tg && m.ck T S e)))
      | none => false) = true := h
    split at h
    · rename_i tg e pos hst
      rw [asg1_ok hst]
      split at h
      · split at h
        · rename_i y py elt gens scope p2 hlc
          obtain ⟨e1, e2⟩ := lcOf_ok hlc
          obtain ⟨a0, a0'⟩ := sp2 h
          obtain ⟨a1, a2⟩ := sp2 a0'
          obtain ⟨a3, a4⟩ := sp2 a2
          obtain ⟨b1, b2⟩ := sp2 a1
          obtain ⟨b3, b4⟩ := sp2 b2
          have hyl := of_decide_eq_true b1
          rw [e1] at a3
          rw [e2] at a4
          rw [e1, e2]
          cases t with
          | tp _ => cases a3
          | sub _ _ => cases a3
          | nm i =>
            cases m with
            | comp fz own tt it c el =>
              cases gens with
              | nil => cases a4
              | cons gn gr =>
                cases gr with
                | cons _ _ => cases a4
                | nil =>
                  obtain ⟨tg', iter, ifs, as_⟩ := gn
                  obtain ⟨h0, h1⟩ := sp2 (show (S.calm && (decide (as_ = 0 ∧ (∀ i ∈ tt.nms, i ∈ own)) && (blkC S.N S.sc scope (own.map fun i => (S.N.getD i Str.empty, i)) &&
                    ((notSet iter && it.ck T S tg' iter) && (tt.ck T (S.blk scope) tg' && (c.ckC T (S.blk scope) ifs && el.ck T (S.blk scope) elt)))))) = true from a4)
                  obtain ⟨c1, c2⟩ := sp2 h1
                  obtain ⟨c3, c4⟩ := sp2 c2
                  obtain ⟨c5, c6⟩ := sp2 c4
                  obtain ⟨c7, c8⟩ := sp2 c5
                  obtain ⟨c9, d1⟩ := sp2 c6
                  obtain ⟨d2, d3⟩ := sp2 d1
                  obtain ⟨as0, hn⟩ := of_decide_eq_true c1
                  subst as0
                  have ok := blkOk_by c3
                  have B := G.good.blk h0 ok.kind
                  obtain ⟨f1, f2⟩ := sp2 (show (decide (S.N[i]? = some y ∧ S.loc y) && (S.fnB y || decide (S.sc.names.lookup y = some .local))) = true from a3)
                  have blk : BlkIn X g cx elt tg' ifs scope own tt c el := {
                    calm := G.good.calm h0
                    nd := G.good.nd
                    ok := ⟨_, by rw [G.good.N, G.good.sc]; exact ok, by rw [List.map_map]; exact List.map_id _⟩
                    nms := hn
                    tg := fun s H C cl fp => Tg.ok tt (B s H C cl fp) tg' c9
                    ts := fun s H C cl fp => Eo.okC c (B s H C cl fp) ifs d2
                    el := fun s H C cl fp => (E.ok el (B s H C cl fp) elt d3).pe }
                  have hN : X.N[i]? = some y := by rw [G.good.N]; exact (of_decide_eq_true f1).1
                  have hy : X.env.scope.names.lookup y = some .local := by rw [G.good.sc]; exact hyl
                  have hk : X.env.scope.kind = .function := by rw [G.good.sc]; exact G.good.kind
                  exact It.okL it G.good tg' iter c8 (fun hi => r_lc blk hi c7 hN hy hk b3 (by simpa using b4)) fun j x p' hj _ _ _ _ => (notKs_ok a0 j hj).elim
            | _ => cases a0
        · cases h
      · obtain ⟨a1, a2⟩ := sp2 h
        obtain ⟨a3, a4⟩ := sp2 a2
        obtain ⟨a5, a6⟩ := sp2 a4
        obtain ⟨a7, a8⟩ := sp2 a6
        exact r_asg' G.good (E.ok m G.good e a8).pe (Tg.ok t G.good tg a7) a1 a3 a5
    · cases h
  | .par is es, S, X, g, W, G, hh, st, h => by
    have ek : X.env.kindOf = fun n => S.sc.names.lookup n := by funext n; show X.env.scope.names.lookup n = _; rw [G.good.sc]
    have hk : X.env.scope.kind = .function := by rw [G.good.sc]; exact G.good.kind
    replace h : (match asgTup st with
      | some (ts, vs) => S.calm && (parOk S is ts vs && es.ck T S vs)
      | none => false) = true := h
    split at h
    · rename_i ts vs hst
      obtain ⟨k1, p1, k2, p2, p, est⟩ := asgTup_ok hst
      obtain ⟨a1, a2⟩ := sp2 h
      obtain ⟨a3, a4⟩ := sp2 a2
      have k := Es.ok es G.good _ a4
      rw [est]
      rcases parOk_inv a3 with ⟨i, j, x, px, y, py, a, b, e1, e2, e3, b1, b2, b3, b4, b5, b6⟩ | ⟨i, j, l, x, px, y, py, z, pz, a, b, c, e1, e2, e3, b1, b2, b3, b4, b5, b6, b7, b8, b9, c1⟩
      · rw [e1, e2, e3]
        rw [e3] at k
        rw [← ek] at b6
        cases es with
        | nil => have := k.l; cases this
        | cons ma mr =>
          cases mr with
          | nil => have := k.l; cases this
          | cons mb mr =>
            cases mr with
            | cons _ _ => have := k.l; cases this
            | nil => exact r_par2 (G.good.calm a1) G.good.nd hk (by rw [G.good.N]; exact b1) (by rw [G.good.N]; exact b2) b3 (by rw [G.good.sc]; exact b4) (by rw [G.good.sc]; exact b5) k.a b6
      · rw [e1, e2, e3]
        rw [e3] at k
        rw [← ek] at c1
        cases es with
        | nil => have := k.l; cases this
        | cons ma mr =>
          cases mr with
          | nil => have := k.l; cases this
          | cons mb mr =>
            cases mr with
            | nil => have := k.l; cases this
            | cons mc mr =>
              cases mr with
              | cons _ _ => have := k.l; cases this
              | nil => exact r_par3 (G.good.calm a1) G.good.nd hk (by rw [G.good.N]; exact b1) (by rw [G.good.N]; exact b2) (by rw [G.good.N]; exact b3) b4 b5 b6 (by rw [G.good.sc]; exact b7) (by rw [G.good.sc]; exact b8) (by rw [G.good.sc]; exact b9) k.a c1
    · cases h
  | .ret m, S, X, g, W, G, hh, st, h => by
    cases st with
    | Return o p =>
      cases o with
      | none => cases h
      | some e => exact r_ret (E.ok m G.good e h).pe
    | _ => cases h
  | .ret0, S, X, g, W, G, hh, st, h => by
    cases st with
    | Return o p =>
      cases o with
      | none => exact r_ret0
      | some e => cases h
    | _ => cases h
  | .ite c a b, S, X, g, W, G, hh, st, h => by
    cases st with
    | If t x y p =>
      obtain ⟨a1, a2⟩ := sp2 (show (testable t && (c.ck T S t && (a.ck T S x && b.ck T S y))) = true from h)
      obtain ⟨a3, a4⟩ := sp2 a2
      obtain ⟨a5, a6⟩ := sp2 a4
      exact r_ite ((E.ok c G.good t a3).t a1) (Ss.ok a G hh x a5) (Ss.ok b G hh y a6)
    | _ => cases h
  | .whl c b, S, X, g, W, G, hh, st, h => by
    cases st with
    | While t x o p =>
      cases o with
      | nil =>
        obtain ⟨a1, a2⟩ := sp2 (show (testable t && (c.ck T S t && b.ck T S x)) = true from h)
        obtain ⟨a3, a4⟩ := sp2 a2
        exact r_whl G.good.own ((E.ok c G.good t a3).t a1) (Ss.ok b G hh x a4)
      | cons _ _ => cases h
    | _ => cases h
  | .fr t it b, S, X, g, W, G, hh, st, h => by
    cases st with
    | For tg iter x o p =>
      cases o with
      | nil =>
        obtain ⟨a1, a2⟩ := sp2 (show (S.calm && ((notSet iter && (it.notKs && it.ck T S tg iter)) && (t.ck T S tg && b.ck T S x))) = true from h)
        obtain ⟨a3, a4⟩ := sp2 a2
        obtain ⟨a5, a6'⟩ := sp2 a3
        obtain ⟨a9, a6⟩ := sp2 a6'
        obtain ⟨a7, a8⟩ := sp2 a4
        exact It.okL it G.good tg iter a6 (fun hi => r_fr G.good.own (G.good.calm a1) hi (Tg.ok t G.good tg a7) (Ss.ok b G hh x a8) a5) fun j x' p' hj _ _ _ _ => (notKs_ok a9 j hj).elim
      | cons _ _ => cases h
    | _ => cases h
  | .rse c es, S, X, g, W, G, hh, st, h => by
    replace h : (match raiseOf st with
      | some (x, as) => S.calm && (decide (S.glo x ∧ (T.cls[c]?.map (·.x)) = some x ∧ (T.cls[c]?.map (·.flds.length)) = some as.length ∧ as.length ≤ 900 ∧ as.isEmpty = false) && (nodb x && es.ck T S as))
      | none => false) = true := h
    split at h
    · rename_i x as hst
      obtain ⟨p, p2, p3, est⟩ := raiseOf_ok hst
      obtain ⟨a1, a2⟩ := sp2 h
      obtain ⟨a3, a4⟩ := sp2 a2
      obtain ⟨a5, a6⟩ := sp2 a4
      obtain ⟨b1, b2, b3, b4, b5⟩ := of_decide_eq_true a3
      obtain ⟨cl, hcl, ex⟩ := Option.map_eq_some_iff.mp b2
      rw [hcl] at b3
      have b3 : cl.flds.length = as.length := Option.some.inj b3
      have hlt : c < T.cls.length := (List.getElem?_eq_some_iff.mp hcl).1
      have k := Es.ok es G.good as a6
      rw [est]
      cases as with
      | nil => cases b5
      | cons e r =>
        obtain ⟨nd, init⟩ := G.rse a1 c cl hcl (fun z => by rw [z] at b3; cases b3)
        exact r_rse (G.good.calm a1) G.good.tk ⟨by rw [G.good.K.cnt]; exact hlt, G.good.gl b1, nodb_ok a5, ex ▸ G.good.cls c cl hcl, G.good.K.ex c hlt, G.good.K.nof c hlt, nd, init⟩ k.a k.s (by rw [k.l, G.flds c cl hcl, b3]) (by rw [k.l]; exact b4)
    · cases h
  | .tr b hs, S, X, g, W, G, hh, st, h => by
    cases st with
    | Try body hds els fin p =>
      match hds, els, fin, h with
      | h0 :: hds, [], [], h =>
        obtain ⟨a1, a2⟩ := sp2 (show (S.top && (b.ck T S body && hs.ck T S (h0 :: hds))) = true from h)
        obtain ⟨a3, a4⟩ := sp2 a2
        obtain ⟨t1, t2⟩ := G.top a1
        obtain ⟨c1, c2⟩ := Hs.ok hs G hh (h0 :: hds) a4
        exact r_tr G.good.K G.good.sub (G.xi a1) G.good.nd t1 t2 G.good.tk (fun W' pn xe tk own => Ss.ok b (G.tr tk own (hh a1)) hh body a3) c1 c2
      | [], _, _, h => cases h
      | _ :: _, _ :: _, _, h => cases h
      | _ :: _, [], _ :: _, h => cases h
    | _ => cases h
  | .pas, S, X, g, W, G, hh, st, h => by
    cases st with
    | Pass p => exact r_pas
    | _ => cases h
  | .brk, S, X, g, W, G, hh, st, h => by
    cases st with
    | Break p => exact r_brk
    | _ => cases h
  | .cnt, S, X, g, W, G, hh, st, h => by
    cases st with
    | Continue p => exact r_cnt
    | _ => cases h
theorem Ss.ok {T : Tab} {cx : Cx} : ∀ (m : Ss) {S : Stc} {X : L2.Cx} {g : G} {W : L2.WX} (G : GoodS T S X g cx W) (hh : S.top = true → S.h = none) (l : List Stmt), m.ck T S l = true → PSs X l (vSs g W cx m)
  | .nil, S, X, g, W, G, hh, l, h => by
    have e := emp (show l.isEmpty = true from h)
    subst e
    exact rs_nil
  | .cons m ms, S, X, g, W, G, hh, [], h => by cases h
  | .cons m ms, S, X, g, W, G, hh, st :: r, h => by
    obtain ⟨a1, a2⟩ := sp2 (show (m.ck T S st && ms.ck T S r) = true from h)
    exact rs_cons (S.ok m G hh st a1) (Ss.ok ms G hh r a2)
theorem Hs.ok {T : Tab} {cx : Cx} : ∀ (m : Hs) {S : Stc} {X : L2.Cx} {g : G} {W : L2.WX} (G : GoodS T S X g cx W) (hh : S.top = true → S.h = none) (l : List ExceptHandler), m.ck T S l = true → ClOk X l (lCl g cx m) ∧ hsLt T.cls.length m = true
  | .nil, S, X, g, W, G, hh, l, h => by
    have e := emp (show l.isEmpty = true from h)
    subst e
    exact ⟨.nil, rfl⟩
  | .cons k i b hs, S, X, g, W, G, hh, l, h => by
    cases l with
    | nil => cases h
    | cons hd r =>
      replace h : (match hdOf hd with
        | some (x, n, body) => decide (S.glo x ∧ (T.cls[k]?.map (·.x)) = some x ∧ body.isEmpty = false) && (nodb x && (nmOk S n i && (b.ck T (S.suite (i.map fun j => (j, k))) body && hs.ck T S r)))
        | none => false) = true := h
      split at h
      · rename_i x n body hst
        obtain ⟨p, p', ehd⟩ := hdOf_ok hst
        obtain ⟨a1, a2⟩ := sp2 h
        obtain ⟨a3, a4⟩ := sp2 a2
        obtain ⟨a5, a6⟩ := sp2 a4
        obtain ⟨a7, a8⟩ := sp2 a6
        obtain ⟨b1, b2, b3⟩ := of_decide_eq_true a1
        obtain ⟨cl, hcl, ex⟩ := Option.map_eq_some_iff.mp b2
        have hlt : k < T.cls.length := (List.getElem?_eq_some_iff.mp hcl).1
        obtain ⟨c1, c2⟩ := Hs.ok hs G hh r a8
        rw [ehd]
        cases body with
        | nil => cases b3
        | cons b0 suite =>
          refine ⟨.cons ⟨G.good.gl b1, nodb_ok a3, .inl (ex ▸ G.good.cls k cl hcl)⟩ ?_ (fun a oe cls d pn hz hf => ?_) c1, by show (decide (k < T.cls.length) && hsLt T.cls.length hs) = true; rw [c2, decide_eq_true hlt]; rfl⟩
          · cases n with
            | none => cases i with
              | none => exact .inl ⟨rfl, rfl⟩
              | some _ => cases a5
            | some m => cases i with
              | none => cases a5
              | some j =>
                obtain ⟨d1, d2⟩ := of_decide_eq_true (show decide (S.N[j]? = some m ∧ S.sc.names.lookup m = some .local) = true from a5)
                exact .inr ⟨m, j, rfl, rfl, by rw [G.good.N]; exact d1, by show X.env.scope.names.lookup m = _; rw [G.good.sc]; exact d2⟩
          · cases i with
            | none => exact Ss.ok b (G.su0 a ((a, oe) :: pn)) (fun _ => rfl) (b0 :: suite) a7
            | some j => exact Ss.ok b (G.su1 hz hf) (fun z => by cases z) (b0 :: suite) a7
      · cases h
end
end TB

end

section
set_option Elab.async false
set_option linter.all false
set_option maxHeartbeats 1000000
namespace TB
open PySem L2

/-! ### the defs, level by level -/
def FnT.stc (f : FnT) : Stc := ⟨f.N, defScope f.st, true, none, none, true⟩
/-- what is seen of the text alone: each def's body is the term's -/
structure Text (T : Tab) (p : Pg) : Prop where
  ck : ∀ (f : Nat) (fn : FnT), T.fns[f]? = some fn → ∃ d, p.fds[f]? = some d ∧ d.np = fn.ps.length ∧ d.ns = fn.N.length ∧ d.body.ck T fn.stc (defBody fn.st) = true ∧ FnScope fn.N fn.ps (defScope fn.st)
  sub : p.sub = T.sub
  kb : ∀ (f n : Nat) (ks : List Str) (pm : List Nat) (fn : FnT), (f, n, ks, pm) ∈ T.kbs → T.fns[f]? = some fn → KB fn.x fn.qual fn.st fn.ps n ks pm
/-- what stands behind the top -/
structure Mem (K : Frag) (mg : Str → Option Value) (T : Tab) (g : G) (fa : Nat → Addr) (fd : Nat → FuncData) : Prop where
  xi : g.xi = none
  free : ∀ x ∈ T.free, mg x = none
  cInt : ∀ p ∈ T.cInt, ∃ t, mg p.1 = some (.int p.2 t)
  cStr : ∀ p ∈ T.cStr, ∃ t, mg p.1 = some (.str p.2 t)
  bfs : ∀ p ∈ T.bfs, mg p.1 = some (.builtin p.2)
  fns : ∀ (f : Nat) (fn : FnT), T.fns[f]? = some fn → Fun K fn.x fn.qual fn.st (fa f) (fd f) ∧ mg fn.x = some (.ref (fa f))
  cls : ∀ (c : Nat) (cl : ClT), T.cls[c]? = some cl → mg cl.x = some (.ref (g.cls c)) ∧ g.flds c = cl.flds
  cK : Classes K g T.cls.length
  sub : T.sub = g.sub
  init : ∀ (c : Nat) (cl : ClT), T.cls[c]? = some cl → cl.flds ≠ [] → cl.flds.Nodup ∧ cl.flds.length ≤ 900 ∧ ∃ (fI : Addr) (fd : FuncData) (x qual : Str) (st : Stmt) (self : Str) (ps : List Str), PySem.W.findIn K (.ref (g.cls c)) "__init__" = some (some (.ref fI)) ∧ PySem.W.typeIn K (.ref fI) = some (.type "function") ∧
    Fun K x qual st fI fd ∧ FnScope (self :: ps) (self :: ps) (defScope st) ∧ initBody self (defBody st) cl.flds ps = true ∧ ps.length = cl.flds.length ∧ (∀ p ∈ self :: ps, (p == ("__debug__" : Str)) = false ∧ (p == ("__classdict__" : Str)) = false) ∧ Binds K fd (self :: ps) []
section
variable {P : Program} {w : World} {K : Frag} {mg : Str → Option Value} {base : Heap} {T : Tab} {g : G} {p : Pg} {fa : Nat → Addr} {fd : Nat → FuncData}
theorem start_rel {A : Av} {α : List Addr} {H : Hp} {ds : List D} {vs : List L2.V} {N : List Str} (r : Reps A α H ds vs) (hl : vs.length ≤ N.length) : ERel g g.xi A α H (startE N.length ds) (L2.start N vs) := by
  have hl2 := r.length
  refine ⟨by simp [startE, L2.start, hl2], fun i d q => ?_⟩
  unfold startE at q
  by_cases hi : i < ds.length
  · rw [List.getElem?_append_left (by simpa using hi), List.getElem?_map, List.getElem?_eq_getElem hi] at q
    cases q
    obtain ⟨x, hx, rx⟩ := r.get (List.getElem?_eq_getElem hi)
    exact ⟨x, start_get hx, .rep rx⟩
  · rw [List.getElem?_append_right (by simpa using Nat.le_of_not_lt hi), List.getElem?_replicate] at q
    split at q <;> cases q
theorem post_res {A : Av} {α : List Addr} {H : Hp} {Q : L2.VK} {E : L2.XK} {r : Rf} (P : PostE g A α H ([] : L2.St) (fun c d _ H => E c d H) Q r.res) : PostS g A α H (fun c d _ H => E c d H) { nx := fun _ H' => Q .non H', rt := Q } r := by
  cases r with
  | stuck => exact P
  | exc c fs env h => exact fun α1 H1 σ1 d e1 R1 x1 => P α1 H1 d e1 R1.h x1
  | ok f h =>
    cases f with
    | rt d => exact P
    | nx env => exact fun α1 H1 σ1 e1 R1 => P α1 H1 .non e1 R1.h .non
    | bk env => exact False.elim P
    | ct env => exact False.elim P
theorem defs_ok (M : Mem K mg T g fa fd) (X : Text T p) : ∀ (n : Nat) (f : Nat) (fn : FnT), T.fns[f]? = some fn → FnOk P w K mg base (L2.CX P w) (n + 2) (fa f) (fd f) fn.ps (spC g (run p n) f fn.ps.length)
  | 0, f, fn, hf => ⟨fun vs H Q E ⟨_, _, _, _, _, _, hl, _⟩ => hl, fun A outer s H args us vs Q E _ _ _ _ ⟨_, _, _, _, _, _, _, hp⟩ => False.elim hp⟩
  | n + 1, f, fn, hf => by
    obtain ⟨F, hm⟩ := M.fns f fn hf
    obtain ⟨d, hd, hnp, hns, hck, hsc⟩ := X.ck f fn hf
    refine F.okX hsc (fun vs H Q E ⟨_, _, _, _, _, _, hl, _⟩ => hl) fun cdv A outer s H vs Q E hr hsp => ?_
    obtain ⟨A0, α, h, ds, R, r, hl, hp⟩ := hsp
    have good : GoodS T fn.stc (cxOf (L2.CX P w) P w K mg base fn.N fn.qual (defScope fn.st) (fa f) cdv A outer s H E) g ⟨run p n, p.loop, p.sub⟩ (fun c d _ H => E c d H) := {
      good := {
        N := rfl
        sc := rfl
        kind := hsc.kind
        nd := hsc.nd
        calm := fun _ => rfl
        hu := by have := hr.un; show (A.deeper _).units + 64 < cLine; omega
        tk := takes_of rfl rfl rfl rfl
        own := passes_of (by rfl)
        fn := fun _ _ => rfl
        free := M.free
        cInt := M.cInt
        cStr := M.cStr
        bfs := M.bfs
        call := fun _ f' fn' k ks pm h1 h2 => by
          obtain ⟨F', hm'⟩ := M.fns f' fn' h1
          exact ⟨n + 2, fa f', fd f', fn'.qual, fn'.st, fn'.ps, defs_ok M X n f' fn' h1, hr, hm', F', X.kb f' k ks pm fn' h2 h1, rfl⟩
        cls := fun c cl h => (M.cls c cl h).1
        K := M.cK
        sub := by show p.sub = g.sub; rw [X.sub, M.sub]
        fld := fun i k h => by cases h
        isx := fun i k h => by cases h }
      rse := fun _ c cl h hne => by
        obtain ⟨k1, k2, fI, fdI, x, qual, st, self, ps, k3, k4, k5, k6, k7, k8, k9, k10⟩ := M.init c cl h hne
        rw [(M.cls c cl h).2]
        exact ⟨k1, fI, fdI, 1, self :: ps, k3, k4, init_ok k5 k6 k7 k8 hne k2 k9, hr.mono (by omega), k10⟩
      flds := fun c cl h => (M.cls c cl h).2
      tsub := M.sub
      xi := fun _ => M.xi
      top := fun _ => ⟨rfl, rfl⟩ }
    refine ⟨_, Ss.ok d.body good (fun _ => rfl) (defBody fn.st) hck, ?_⟩
    have hdl : ds.length = d.np := by rw [r.length, hl, hnp]
    have hp : PostE g A0 α H ([] : L2.St) (fun c d _ H => E c d H) Q (match p.fds[f]? with
      | some fd => if ds.length = fd.np then (fd.body.ev ⟨run p n, p.loop, p.sub⟩ (startE fd.ns ds) h).res else .stuck
      | none => .stuck) := hp
    rw [hd] at hp
    dsimp only at hp
    rw [if_pos hdl, hns] at hp
    have hle : vs.length ≤ fn.N.length := by
      have := congrArg List.length hsc.pre
      rw [List.length_take] at this
      omega
    exact ⟨g.xi, A0, α, h, startE fn.N.length ds, ⟨start_rel r hle, R, rfl⟩, post_res hp⟩
end
end TB

end

section
set_option Elab.async false
set_option linter.all false
set_option maxHeartbeats 1000000
namespace TB
open PySem L2

/-! ### what is asked of the memory behind the top -/
def notL (p : Addr × Obj) : Bool := decide (p.2.cls ≠ .type "list")
def frX (g : Addr → Option Obj) (as : List Addr) : Frag := (He.frG g as).filter notL
theorem lookup_mem : ∀ {l : Frag} {a : Addr} {o : Obj}, l.lookup a = some o → (a, o) ∈ l
  | [], _, _, e => by cases e
  | (b, u) :: r, a, o, e => by
    rw [List.lookup_cons] at e
    cases q : (a == b) with
    | true => rw [q] at e; cases e; rw [beq_iff_eq.mp q]; exact List.mem_cons_self
    | false => rw [q] at e; exact List.mem_cons_of_mem _ (lookup_mem e)
theorem frX_in {as : List Addr} {h : Heap} : (frX h.get? as).In h := fun a o e => by
  have m := (List.mem_filter.mp (lookup_mem e)).1
  unfold He.frG at m
  obtain ⟨b, _, q⟩ := List.mem_filterMap.mp m
  cases hb : h.get? b with
  | none => rw [hb] at q; cases q
  | some u => rw [hb] at q; cases q; exact hb
def NoL (K : Frag) : Prop := ∀ a o, K.lookup a = some o → o.cls ≠ .type "list"
theorem frX_noL {as : List Addr} {g : Addr → Option Obj} : NoL (frX g as) := fun a o e => of_decide_eq_true (List.mem_filter.mp (lookup_mem e)).2
abbrev Al : Type := He.AlD × Bool
def obsX (fa : List He.Fa) (fn : List He.DefD) (B : Frag → Bool) (K : Frag) : Al := (He.obsD fa fn K, B K)
def obsXG (n : Nat) (fa : List He.Fa) (fn : List He.DefD) (B : Frag → Bool) (g : Addr → Option Obj) : Al := obsX fa fn B (frX g (He.asD g n))
def hookX (n : Nat) (fa : List He.Fa) (fn : List He.DefD) (B : Frag → Bool) : PySem.W.Hook where
  α := Al
  obs := fun s => obsXG n fa fn B s.heap.get?
  val := fun _ => (He.valD fn, true)
  says := fun _ h => ∃ K : Frag, K.In h ∧ NoL K ∧ He.SaysD fa fn K ∧ B K = true
  of := fun _ _ e => ⟨_, frX_in, frX_noL, congrArg Prod.fst e, congrArg Prod.snd e⟩
  keeps := fun _ _ _ ⟨K, hK, c⟩ k => ⟨K, PySem.W.Frag.In.keeps hK k, c⟩
theorem obsXG_eq {n : Nat} {fa : List He.Fa} {fn : List He.DefD} {B : Frag → Bool} {g : Addr → Option Obj} {s : Shared} (h : ∀ a, g a = s.heap.get? a) : obsXG n fa fn B g = (hookX n fa fn B).obs s := by
  have e : g = s.heap.get? := funext h
  rw [e]; rfl

/-! ### classes -/
def exKB (K : Frag) (C : Addr) : Bool := match K.lookup C with
  | some ⟨.type "type", _, .cls cd, sl⟩ => (match cd.mro, sl.toList with
    | .ref C' :: bm, [_, _, _, _, some (.builtin n), _] => C' == C && (n == "Exception.__new__" && (!cd.hasDel && (cd.hasDict && refsEx bm)))
    | _, _ => false)
  | _ => false
def exB (K : Frag) (C : Addr) : Bool := exKB K C && (decide (PySem.W.findIn K (.ref C) "__setattr__" = some (some (.builtin "object.__setattr__"))) && (decide (PySem.W.subIn K (.ref C) (.type "BaseException") = some true) && (decide (PySem.W.typeIn K (.ref C) = some (.type "type")) && PySem.W.keepIn K (.ref C))))
theorem exB_ok {K : Frag} {C : Addr} (h : exB K C = true) : ExcK K C := by
  obtain ⟨h1, h⟩ := sp2 h
  obtain ⟨h2, h⟩ := sp2 h
  obtain ⟨h3, h⟩ := sp2 h
  obtain ⟨h4, h5⟩ := sp2 h
  refine ⟨?_, of_decide_eq_true h2, of_decide_eq_true h3, of_decide_eq_true h4, h5⟩
  unfold exKB at h1
  split at h1
  · rename_i dd cd sl ho
    split at h1
    · rename_i C' bm k0 k1 k2 k3 n k5 hm hs
      simp only [Bool.and_eq_true, beq_iff_eq, Bool.not_eq_true'] at h1
      obtain ⟨rfl, rfl, a3, a4, a5⟩ := h1
      obtain ⟨c1, c2, c3, c4, c5, c6, c7, c8, c9, c10, c11⟩ := cd
      dsimp only at hm a3 a4
      subst hm a3 a4
      have es : sl = #[k0, k1, k2, k3, some (.builtin "Exception.__new__"), k5] := by
        obtain ⟨l⟩ := sl
        simp only at hs
        rw [hs]
      subst es
      exact ⟨_, _, _, _, _, _, _, _, _, _, _, _, _, _, _, ho, a5⟩
    · cases h1
  · cases h1
def isB (K : Frag) (D : Addr) : Bool := decide (PySem.W.findIn K (.ref D) "__getattribute__" = some (some (.builtin "BaseException.__getattribute__"))) && (decide (PySem.W.findIn K (.ref D) "__getattr__" = some none) && (decide (PySem.W.subIn K (.ref D) (.type "BaseException") = some true) && (PySem.W.hasDictIn K D &&
  (decide (PySem.W.findIn K (.ref D) "__class__" = some (some (.builtin "object.__class__"))) && (decide (PySem.W.specialIn K (.builtin "object.__class__") "__get__" = some (some (.builtin "getset_descriptor.__get__"))) && (decide (PySem.W.takesIn K (.builtin "object.__class__") = some true) && decide (PySem.W.mroIn K D (.type "object") = some true)))))))
theorem isB_ok {K : Frag} {C : Addr} (h : isB K C = true) : L2.ExcC K C := by
  obtain ⟨h1, h⟩ := sp2 h
  obtain ⟨h2, h⟩ := sp2 h
  obtain ⟨h3, h⟩ := sp2 h
  obtain ⟨h4, h⟩ := sp2 h
  obtain ⟨h5, h⟩ := sp2 h
  obtain ⟨h6, h⟩ := sp2 h
  obtain ⟨h7, h8⟩ := sp2 h
  exact ⟨of_decide_eq_true h1, of_decide_eq_true h2, of_decide_eq_true h3, h4, of_decide_eq_true h5, of_decide_eq_true h6, of_decide_eq_true h7, of_decide_eq_true h8⟩
def Tab.adr (T : Tab) (K : Frag) (c : Nat) : Addr := match T.cls[c]? with
  | some cl => He.ga K cl.x
  | none => 0
def Tab.fld (T : Tab) (c : Nat) : List Str := match T.cls[c]? with
  | some cl => cl.flds
  | none => []
def Tab.g (T : Tab) (K : Frag) : G := ⟨K, T.adr K, T.fld, T.sub, T.cls.length, none⟩
def clsB (T : Tab) (K : Frag) (c : Nat) : Bool := exB K (T.adr K c) && (xfB K (T.adr K c) && (isB K (T.adr K c) && (((T.fld c).all fun f => decide (PySem.W.findIn K (.ref (T.adr K c)) f = some none)) &&
  (((List.range T.cls.length).all fun d => decide (PySem.W.kitOne K (.ref (T.adr K c)) (.ref (T.adr K d)) = some (T.sub c d)) && decide (PySem.W.exmOne K (.ref (T.adr K c)) (.ref (T.adr K d)) = some (T.sub c d))) &&
    ((T.fld c).isEmpty || (decide (PySem.W.findIn K (.ref (T.adr K c)) "__init__" = some (some (.ref (He.ma K (T.adr K c) "__init__")))) && decide (PySem.W.typeIn K (.ref (He.ma K (T.adr K c) "__init__")) = some (.type "function"))))))))
def tabB (T : Tab) (K : Frag) : Bool := ((List.range T.cls.length).all fun c => clsB T K c) && T.bfs.all fun p => decide (PySem.W.nsIn K mainGlobals p.1 = some (some (.builtin p.2)))
theorem classes_of {T : Tab} {K : Frag} (h : tabB T K = true) (hlt : ∀ c d, T.sub c d = true → c < T.cls.length) : Classes K (T.g K) T.cls.length := by
  have at_ : ∀ c, c < T.cls.length → clsB T K c = true := fun c hc => List.all_eq_true.mp (sp2 h).1 c (List.mem_range.mpr hc)
  refine ⟨rfl, fun c hc => ?_, fun c hc => ?_, fun c hc => ?_, fun c hc f hf => ?_, fun c d hc hd => ?_, fun c d hc hd => ?_, hlt⟩
  · exact exB_ok (sp2 (at_ c hc)).1
  · exact xfB_ok (sp2 (sp2 (at_ c hc)).2).1
  · exact isB_ok (sp2 (sp2 (sp2 (at_ c hc)).2).2).1
  · exact of_decide_eq_true (List.all_eq_true.mp (sp2 (sp2 (sp2 (sp2 (at_ c hc)).2).2).2).1 f hf)
  · exact of_decide_eq_true (sp2 (List.all_eq_true.mp (sp2 (sp2 (sp2 (sp2 (sp2 (at_ c hc)).2).2).2).2).1 d (List.mem_range.mpr hd))).1
  · exact of_decide_eq_true (sp2 (List.all_eq_true.mp (sp2 (sp2 (sp2 (sp2 (sp2 (at_ c hc)).2).2).2).2).1 d (List.mem_range.mpr hd))).2
end TB

end

section
set_option Elab.async false
set_option linter.all false
set_option maxHeartbeats 1000000
namespace TB
open PySem L2

/-! ### the head's data by the table -/
def FnT.def_ (f : FnT) : He.DefD := ⟨(f.x, none), f.x, f.qual, defArgs f.st, defBody f.st, defScope f.st, [], []⟩
/-- an __init__: of the class x, its statement, self, its parameters -/
structure InT where
  x : Str
  qual : Str
  st : Stmt
  self : Str
  ps : List Str
def InT.def_ (f : InT) : He.DefD := ⟨(f.x, some "__init__"), "__init__", f.qual, defArgs f.st, defBody f.st, defScope f.st, [], []⟩
def Tab.defs (T : Tab) (I : List InT) : List He.DefD := T.fns.map FnT.def_ ++ I.map InT.def_
def Tab.facts (T : Tab) : List He.Fa := T.fns.map (fun f => .glo f.x) ++ (T.cls.map (fun c => .glo c.x) ++ (T.free.map .free ++ (T.cInt.map (fun p => .int p.1 p.2) ++ T.cStr.map (fun p => .str p.1 p.2))))
theorem fun_of {K : Frag} {x qual : Str} {st : Stmt} {f : Addr} {fd : FuncData} (F : FunD K x qual (defArgs st) (defBody st) (defScope st) [] [] f fd) : Fun K x qual st f fd := by
  obtain ⟨oc, od, dV, kV, doc, pm, an, cdv, ct, osl, h1, h2, h3, h4, _⟩ := F.ex
  rcases h4 with ⟨_, rfl⟩ | ⟨z, _⟩
  · exact ⟨⟨oc, od, kV, doc, pm, an, cdv, ct, osl, h1, h2, h3⟩, F.kp⟩
  · exact absurd rfl z
def Tab.fa (T : Tab) (K : Frag) (f : Nat) : Addr := match T.fns[f]? with
  | some fn => He.ga K fn.x
  | none => 0
/-- what is seen of the __init__s -/
structure Inits (T : Tab) (I : List InT) : Prop where
  ex : ∀ (c : Nat) (cl : ClT), T.cls[c]? = some cl → cl.flds ≠ [] → cl.flds.Nodup ∧ cl.flds.length ≤ 900 ∧ ∃ i ∈ I, i.x = cl.x ∧ FnScope (i.self :: i.ps) (i.self :: i.ps) (defScope i.st) ∧ initBody i.self (defBody i.st) cl.flds i.ps = true ∧ i.ps.length = cl.flds.length ∧
    (∀ p ∈ i.self :: i.ps, (p == ("__debug__" : Str)) = false ∧ (p == ("__classdict__" : Str)) = false) ∧
    (∀ (kV doc pm : Value) (an : Option Addr) (cdv ct : Value) (us : List Value), us.length = (i.self :: i.ps).length → bindArgs (PySem.W.fnOf "__init__" i.qual (defArgs i.st) (defBody i.st) (defScope i.st) .none kV doc pm an cdv ct) ⟨us, []⟩ = pure ((i.self :: i.ps).zip us))
section
variable {K : Frag} {mg : Str → Option Value} {T : Tab} {I : List InT} {h : Heap}
theorem says_def (c : He.SaysD T.facts (T.defs I) K) {d : He.DefD} (hd : d ∈ T.defs I) : ∃ fd, FunD K d.name d.qual d.params d.body d.scope (d.dvs K) (d.kws K) (He.fAd K d.at_) fd := by
  obtain ⟨i, hi, e⟩ := List.getElem_of_mem hd
  exact c.def_ i (by rw [List.getElem?_eq_getElem hi, e])
theorem says_fa (c : He.SaysD T.facts (T.defs I) K) {f : He.Fa} (hf : f ∈ T.facts) : f.ok K = true := by
  obtain ⟨i, hi, e⟩ := List.getElem_of_mem hf
  exact c.fact i (by rw [List.getElem?_eq_getElem hi, e])
theorem mem_of (X : K.In h) (Gn : h.Ns mainGlobals mg) (c : He.SaysD T.facts (T.defs I) K) (b : tabB T K = true) (hlt : ∀ c d, T.sub c d = true → c < T.cls.length) (ini : Inits T I) : ∃ (fd : Nat → FuncData), Mem K mg T (T.g K) (T.fa K) fd := by
  have F : ∀ (f : Nat) (fn : FnT), T.fns[f]? = some fn → ∃ fd, Fun K fn.x fn.qual fn.st (He.ga K fn.x) fd := fun f fn hf => by
    obtain ⟨fd, F⟩ := says_def c (List.mem_append_left _ (List.mem_map.mpr ⟨fn, List.mem_of_getElem? hf, rfl⟩) : fn.def_ ∈ T.defs I)
    exact ⟨fd, fun_of F⟩
  have F' : ∀ f : Nat, ∃ fd : FuncData, ∀ fn : FnT, T.fns[f]? = some fn → Fun K fn.x fn.qual fn.st (He.ga K fn.x) fd := fun f => by
    cases q : T.fns[f]? with
    | none => exact ⟨⟨default, default, default, default, default, default, default, default, default, default, default, default, default, default, default⟩, fun fn z => by cases z⟩
    | some fn =>
      obtain ⟨fd, h⟩ := F f fn q
      exact ⟨fd, fun fn' z => by cases z; exact h⟩
  obtain ⟨fdF, hF⟩ := Classical.axiomOfChoice F'
  refine ⟨fdF, ?_⟩
  refine ⟨rfl, fun x hx => ?_, fun p hp => ?_, fun p hp => ?_, fun p hp => ?_, fun f fn hf => ?_, fun c' cl hc => ?_, classes_of b hlt, rfl, fun c' cl hc hne => ?_⟩
  · exact He.free_ok X Gn (says_fa c (by unfold Tab.facts; simp only [List.mem_append, List.mem_map]; exact .inr (.inr (.inl ⟨x, hx, rfl⟩))))
  · exact He.int_ok X Gn (says_fa c (f := .int p.1 p.2) (by unfold Tab.facts; simp only [List.mem_append, List.mem_map]; exact .inr (.inr (.inr (.inl ⟨p, hp, rfl⟩)))))
  · exact He.str_ok X Gn (says_fa c (f := .str p.1 p.2) (by unfold Tab.facts; simp only [List.mem_append, List.mem_map]; exact .inr (.inr (.inr (.inr ⟨p, hp, rfl⟩)))))
  · exact PySem.W.mg_of X Gn (of_decide_eq_true (List.all_eq_true.mp (sp2 b).2 p hp))
  · have g1 := He.glo_ok X Gn (says_fa c (f := .glo fn.x) (by unfold Tab.facts; simp only [List.mem_append, List.mem_map]; exact .inl ⟨fn, List.mem_of_getElem? hf, rfl⟩))
    have ea : T.fa K f = He.ga K fn.x := by unfold Tab.fa; rw [hf]
    rw [ea]
    exact ⟨hF f fn hf, g1⟩
  · have g1 := He.glo_ok X Gn (says_fa c (f := .glo cl.x) (by unfold Tab.facts; simp only [List.mem_append, List.mem_map]; exact .inr (.inl ⟨cl, List.mem_of_getElem? hc, rfl⟩)))
    refine ⟨?_, ?_⟩
    · show mg cl.x = some (.ref (T.adr K c'))
      unfold Tab.adr
      rw [hc]; exact g1
    · show T.fld c' = cl.flds
      unfold Tab.fld
      rw [hc]
  · obtain ⟨n1, n2, i, hi, ex, hs, hb, hl, hn, hbd⟩ := ini.ex c' cl hc hne
    have hlt' : c' < T.cls.length := (List.getElem?_eq_some_iff.mp hc).1
    have cb := List.all_eq_true.mp (sp2 b).1 c' (List.mem_range.mpr hlt')
    have cb2 := (sp2 (sp2 (sp2 (sp2 (sp2 cb).2).2).2).2).2
    have hf : T.fld c' = cl.flds := by unfold Tab.fld; rw [hc]
    have ha : T.adr K c' = He.ga K cl.x := by unfold Tab.adr; rw [hc]
    rw [hf, ha] at cb2
    rcases Bool.or_eq_true_iff.mp cb2 with z | z
    · exact absurd (emp z) hne
    · obtain ⟨z1, z2⟩ := sp2 z
      obtain ⟨fd, F1⟩ := says_def c (List.mem_append_right _ (List.mem_map.mpr ⟨i, hi, rfl⟩) : i.def_ ∈ T.defs I)
      have F2 : Fun K "__init__" i.qual i.st (He.ma K (He.ga K cl.x) "__init__") fd := by
        have := fun_of F1
        rw [← ex]; exact this
      refine ⟨n1, n2, _, fd, "__init__", i.qual, i.st, i.self, i.ps, ?_, of_decide_eq_true z2, F2, hs, hb, hl, hn, F2.binds hbd⟩
      show PySem.W.findIn K (.ref (T.adr K c')) "__init__" = _
      rw [ha]; exact of_decide_eq_true z1
end

/-! ### the law's end -/
abbrev CXE (P : Program) : CXT := fun outer H s E e s' => ∃ w, L2.CX P w outer H s E e s'
theorem fn_e {P : Program} {w : World} {K : Frag} {mg : Str → Option Value} {base : Heap} {k : Nat} {f : Addr} {fd : FuncData} {ps : List Str} {sp : Sp} (F : FnOk P w K mg base (L2.CX P w) k f fd ps sp) : FnOk P w K mg base (CXE P) k f fd ps sp :=
  ⟨F.len, fun A outer s H args us vs Q E h1 h2 h3 h4 h5 => codeAny_mono (F.run A outer s H args us vs Q E h1 h2 h3 h4 h5) fun r s' q => by
    cases r with
    | error e => exact ⟨w, q⟩
    | ok fl => cases fl <;> exact q⟩
theorem cxe_false {P : Program} (H : Hp) (s : Shared) (e : Value) (s' : Shared) (h : CXE P [] H s (fun _ _ _ => False) e s') : False := by
  obtain ⟨_, _, _, _, _, _, _, _, _, _, _, _, _, z⟩ := h
  exact z
theorem ints_reps {A : Av} {α : List Addr} {H : Hp} : ∀ ns : List Int, Reps A α H (ns.map D.int) (ns.map V.int)
  | [] => .nil
  | n :: ns => .cons (.int n) (ints_reps ns)
theorem law_sp {K : Frag} {g : G} {c : Nat → List D → Lh → Rs D} {f : Nat} (hL : NoL K) {H : Hp} {a : Addr} {ns : List Int} (hS : SqL K H a (ns.map V.int)) (hr : ∃ h', c f [.ref 0] [.ro (ns.map .int)] = .ok (.bl true) h') :
    spC g c f 1 [.ref a] H (fun v _ => v = .bl true) (fun _ _ _ => False) := by
  obtain ⟨h', hr⟩ := hr
  have hq : Rd H a (.lst (ns.map V.int)) := by
    rcases hS with hS | ⟨o, its, n, h1, h2, _⟩
    · exact hS
    · exact absurd h2 (hL a o h1)
  refine ⟨fun _ => False, [a], [.ro (ns.map .int)], [.ref 0], ⟨rfl, by simp, fun a m => m.elim, fun i o e => ?_⟩, .one (.ref rfl), rfl, ?_⟩
  · cases i with
    | zero => cases e; exact ⟨a, rfl, _, hq, ints_reps ns⟩
    | succ i => simp at e
  · rw [hr]
    intro α' H' x e1 R1 r1
    cases r1
    rfl
/-- the law's def keeps its promise -/
theorem law_fn {l : PySem.W.OpenLaw} {T : Tab} {I : List InT} {p : Pg} {lvl fl : Nat} {x : Str} {q : Program} {loose : List Str} {XP : (Str → Option Value) → Heap → Prop} {d : DefRec} (hn : l.most = some 63) (hdf : d.params.defaults = []) (hroom : Room (lvl + 2) callerA)
    (X : Text T p) (hlt : ∀ c d, T.sub c d = true → c < T.cls.length) (ini : Inits T I) (hfl : ∃ fn, T.fns[fl]? = some fn ∧ fn.x = d.name ∧ fn.ps = [x] ∧ KB fn.x fn.qual fn.st fn.ps 1 [] [0])
    (law : ∀ ns : List Int, ns.length ≤ 63 → ∃ h', run p lvl fl [.ref 0] [.ro (ns.map .int)] = .ok (.bl true) h') :
    PySem.W.WalkO q loose XP (hookX 5 T.facts (T.defs I) (tabB T)).says l.row.toRowW d [] (fun f vs => PySem.call f vs) := by
  refine L2.walk_ofE (l := l) (n := 63) (k := lvl + 2) (x := x) (CX := CXE l.prog) hn (by rw [sizeLine_eq]; decide) hdf hroom (fun w mg fa h Y Gn hmg => ?_) cxe_false
  obtain ⟨K, KX, hL, c, b⟩ := Y
  obtain ⟨fd, M⟩ := mem_of KX Gn c b hlt ini
  obtain ⟨fn, hf, hx, hps, hkb⟩ := hfl
  obtain ⟨F, hm⟩ := M.fns fl fn hf
  rw [hx, hmg] at hm
  have efa := Option.some.inj hm
  have efa : fa = _ := Value.ref.inj efa
  refine ⟨K, fd fl, spC (T.g K) (run p lvl) fl 1, KX, fun s u => ?_, fun H a ns hl _ hS => law_sp hL hS (law ns hl), fun base _ _ => ?_⟩
  · obtain ⟨oc, od, kV, doc, pv, an, cdv, ct, osl, e, lk, hcd⟩ := F.ex
    rw [e]
    have := hkb.eq kV doc pv an cdv ct [u] [] rfl rfl
    rw [hps] at this
    exact .of_eq this
  · have := fn_e (defs_ok (P := l.prog) (w := w) (base := base) M X lvl fl fn hf)
    rw [hps] at this
    rw [efa]
    exact this
end TB

end

section
set_option Elab.async false
set_option linter.all false
set_option maxHeartbeats 1000000
namespace TB
open PySem L2

/-! ### what is decided of a text -/
def scopeB (N P : List Str) (sc : Scope) : Bool := (match sc.kind with | .function => true | _ => false) && (!sc.isCoroutine && (!sc.isGenerator && (decide N.Nodup && (decide (N.take P.length = P) && (P.all (fun x => decide (sc.names.lookup x = some .local ∨ sc.names.lookup x = some .cell)) && sc.names.all fun y => decide (y.2 ≠ .free))))))
theorem scopeB_ok {N P : List Str} {sc : Scope} (h : scopeB N P sc = true) : FnScope N P sc := by
  obtain ⟨h1, h⟩ := sp2 h
  obtain ⟨h2, h⟩ := sp2 h
  obtain ⟨h3, h⟩ := sp2 h
  obtain ⟨h4, h⟩ := sp2 h
  obtain ⟨h5, h⟩ := sp2 h
  obtain ⟨h6, h7⟩ := sp2 h
  refine ⟨?_, by simpa using h2, by simpa using h3, of_decide_eq_true h4, of_decide_eq_true h5, fun x hx => of_decide_eq_true (List.all_eq_true.mp h6 x hx), fun y hy => of_decide_eq_true (List.all_eq_true.mp h7 y hy)⟩
  split at h1
  · assumption
  · cases h1
def fnB (T : Tab) (p : Pg) (f : Nat) : Bool := match T.fns[f]?, p.fds[f]? with
  | some fn, some d => decide (d.np = fn.ps.length ∧ d.ns = fn.N.length) && (d.body.ck T fn.stc (defBody fn.st) && scopeB fn.N fn.ps (defScope fn.st))
  | _, _ => false
def textB (T : Tab) (p : Pg) : Bool := (List.range T.fns.length).all fun f => fnB T p f
structure KbsOk (T : Tab) : Prop where
  ok : ∀ (f n : Nat) (ks : List Str) (pm : List Nat) (fn : FnT), (f, n, ks, pm) ∈ T.kbs → T.fns[f]? = some fn → KB fn.x fn.qual fn.st fn.ps n ks pm
theorem kbs_of {T : Tab} (h : ∀ q ∈ T.kbs, ∃ fn, T.fns[q.1]? = some fn ∧ KB fn.x fn.qual fn.st fn.ps q.2.1 q.2.2.1 q.2.2.2) : KbsOk T := ⟨fun f n ks pm fn hm hf => by
  obtain ⟨fn', h1, h2⟩ := h _ hm
  rw [hf] at h1; cases h1
  exact h2⟩
theorem text_of {T : Tab} {p : Pg} (h : textB T p = true) (hs : p.sub = T.sub) (hk : KbsOk T) : Text T p := by
  refine ⟨fun f fn hf => ?_, hs, fun f n ks pm fn => hk.ok f n ks pm fn⟩
  have z := List.all_eq_true.mp h f (List.mem_range.mpr (List.getElem?_eq_some_iff.mp hf).1)
  unfold fnB at z
  rw [hf] at z
  split at z
  · rename_i fn' d e1 e2
    cases e1
    obtain ⟨z1, z⟩ := sp2 z
    obtain ⟨z2, z3⟩ := sp2 z
    obtain ⟨z4, z5⟩ := of_decide_eq_true z1
    exact ⟨d, e2, z4, z5, z2, scopeB_ok z3⟩
  · cases z
def subOf (supers : List (List Nat)) (c k : Nat) : Bool := match supers[c]? with
  | some l => l.any fun x => x == k
  | none => false
theorem subOf_lt {supers : List (List Nat)} {n : Nat} (h : supers.length = n) (c d : Nat) (e : subOf supers c d = true) : c < n := by
  unfold subOf at e
  split at e
  · rename_i q
    rw [← h]; exact (List.getElem?_eq_some_iff.mp q).1
  · cases e
def iniB (T : Tab) (I : List InT) (cl : ClT) : Bool := cl.flds.isEmpty || (decide (cl.flds.Nodup ∧ cl.flds.length ≤ 900) && I.any fun i => decide (i.x = cl.x) && (scopeB (i.self :: i.ps) (i.self :: i.ps) (defScope i.st) && (initBody i.self (defBody i.st) cl.flds i.ps && (decide (i.ps.length = cl.flds.length) && (i.self :: i.ps).all fun p => nodb p && nocd p))))
theorem inits_of {T : Tab} {I : List InT} (h : (T.cls.all fun cl => iniB T I cl) = true) (hb : ∀ i ∈ I, ∀ (kV doc pm : Value) (an : Option Addr) (cdv ct : Value) (us : List Value), us.length = (i.self :: i.ps).length → bindArgs (PySem.W.fnOf "__init__" i.qual (defArgs i.st) (defBody i.st) (defScope i.st) .none kV doc pm an cdv ct) ⟨us, []⟩ = pure ((i.self :: i.ps).zip us)) : Inits T I := ⟨fun c cl hc hne => by
  have z := List.all_eq_true.mp h cl (List.mem_of_getElem? hc)
  rcases Bool.or_eq_true_iff.mp z with z | z
  · exact absurd (emp z) hne
  · obtain ⟨z1, z2⟩ := sp2 z
    obtain ⟨n1, n2⟩ := of_decide_eq_true z1
    obtain ⟨i, hi, z3⟩ := List.any_eq_true.mp z2
    obtain ⟨a1, a2⟩ := sp2 z3
    obtain ⟨a3, a4⟩ := sp2 a2
    obtain ⟨a5, a6⟩ := sp2 a4
    obtain ⟨a7, a8⟩ := sp2 a6
    exact ⟨n1, n2, i, hi, of_decide_eq_true a1, scopeB_ok a3, a5, of_decide_eq_true a7, fun p hp => ⟨nodb_ok (sp2 (List.all_eq_true.mp a8 p hp)).1, nocd_ok (sp2 (List.all_eq_true.mp a8 p hp)).2⟩, hb i hi⟩⟩
end TB

end

section
set_option Elab.async false
set_option linter.all false
set_option maxRecDepth 100000
set_option maxHeartbeats 4000000
namespace TB
open PySem

/-! ### the laws' own helpers: the box, a draw -/
def tkB : Ss := (.cons (.ite (.and (.ix (.var 0) (.cst (.int 1))) (.cmp .gt (.ix (.var 0) (.cst (.int 0))) (.cst (.int 0)))) (.cons (.asg (.nm 3) (.bin .mod true (.bi .int true (.cons (.ix (.var 0) (.cst (.int 0))) .nil)) (.var 1))) (.cons (.asg (.sub (.var 0) (.cst (.int 0))) (.bin .fdiv true (.ix (.var 0) (.cst (.int 0))) (.var 1))) (.cons (.ret (.var 3)) .nil))) .nil) (.cons (.asg (.sub (.var 0) (.cst (.int 3))) (.bin .add true (.ix (.var 0) (.cst (.int 3))) (.cst (.int 1)))) (.cons (.asg (.nm 2) (.bin .mod true (.bi .int true (.cons (.bin .pow true (.bin .add true (.bin .add true (.ix (.var 0) (.cst (.int 2))) (.bin .mul true (.cst (.int 15485863)) (.ix (.var 0) (.cst (.int 3))))) (.cst (.int 179424673))) (.cst (.int 5))) .nil)) (.cst (.int 2147483647)))) (.cons (.ret (.bin .mod true (.bin .fdiv true (.bin .mod true (.bi .int true (.cons (.bin .pow true (.bin .add true (.bin .mul true (.var 2) (.cst (.int 48271))) (.bin .mul true (.cst (.int 104729)) (.ix (.var 0) (.cst (.int 3))))) (.cst (.int 3))) .nil)) (.cst (.int 2147483587))) (.cst (.int 64))) (.var 1))) .nil))))
def bx (b : Bool) (g m c : Int) : List D := [.int g, .bl b, .int m, .int c]
theorem truth_bl (h : Lh) (b : Bool) : truth h (.bl b) = some b := rfl
theorem cop_gt (h : Lh) (i j : Int) : cop h .gt (.int i) (.int j) = some (decide (j < i)) := rfl
theorem cop_ge (h : Lh) (i j : Int) : cop h .ge (.int i) (.int j) = some (decide (j ≤ i)) := rfl
theorem cop_lt (h : Lh) (i j : Int) : cop h .lt (.int i) (.int j) = some (decide (i < j)) := rfl
theorem cop_le (h : Lh) (i j : Int) : cop h .le (.int i) (.int j) = some (decide (i ≤ j)) := rfl
theorem bop_add (h : Lh) (i j : Int) : bop h .add (.int i) (.int j) = some (.v (.int (i + j))) := rfl
theorem bop_sub (h : Lh) (i j : Int) : bop h .sub (.int i) (.int j) = some (.v (.int (i - j))) := rfl
theorem bop_mul (h : Lh) (i j : Int) (hj : okMul i j = true) : bop h .mul (.int i) (.int j) = some (.v (.int (i * j))) := if_pos hj
theorem bop_mod (h : Lh) (i j : Int) (hj : j ≠ 0) : bop h .mod (.int i) (.int j) = some (.v (.int (i.fmod j))) := if_pos hj
theorem bop_fdiv (h : Lh) (i j : Int) (hj : okDiv j = true) : bop h .fdiv (.int i) (.int j) = some (.v (.int (i.fdiv j))) := if_pos hj
theorem bop_pow (h : Lh) (i j : Int) (hj : okPow i j = true) : bop h .pow (.int i) (.int j) = some (.v (.int (i ^ j.toNat))) := if_pos hj
theorem okMul_l {i : Int} (h : i.natAbs < 2 ^ 64) (j : Int) : okMul i j = true := by
  unfold okMul
  rw [decide_eq_true h]; rfl
theorem okMul_r {j : Int} (h : j.natAbs < 2 ^ 64) (i : Int) : okMul i j = true := by
  unfold okMul
  rw [decide_eq_true h, Bool.or_true]; rfl
theorem okDiv_s {j : Int} (h1 : 1 ≤ j) (h2 : j < 1073741824) : okDiv j = true := by
  unfold okDiv
  rw [Bool.or_eq_true]
  exact .inl (decide_eq_true ⟨by omega, by omega⟩)
theorem okPow_s {i j : Int} (h0 : 0 ≤ j) (h1 : j ≤ 1000000) (h : i.natAbs < 2 ^ 64) : okPow i j = true := decide_eq_true ⟨h0, h1, h⟩
theorem bfn_int (h : Lh) (i : Int) : bfn h .int [.int i] = some (.v (.int i)) := rfl
/-- a draw: something below many, the box a little on -/
theorem take_ok (cx : Cx) {b : Bool} {g m c many : Int} (hg : 0 ≤ g) (hm : 0 ≤ m) (hm2 : m < 2147483629) (hc : 0 ≤ c) (hc2 : c < 1000000000) (h1 : 1 ≤ many) (hdiv : okDiv many = true) :
    ∃ d g' c' : Int, 0 ≤ d ∧ d < many ∧ 0 ≤ g' ∧ c ≤ c' ∧ c' ≤ c + 1 ∧ (tkB.ev cx [some (.ref 0), some (.int many), none, none] [.lst (bx b g m c)]).res = .ok (.int d) [.lst (bx b g' m c')] := by
  have hne : many ≠ 0 := by omega
  have i0 : item [.lst (bx b g m c)] (.ref 0) (.int 0) = some (.int g) := rfl
  have i1 : item [.lst (bx b g m c)] (.ref 0) (.int 1) = some (.bl b) := rfl
  have i3 : item [.lst (bx b g m c)] (.ref 0) (.int 3) = some (.int c) := rfl
  have s0 : setIx [.lst (bx b g m c)] (.ref 0) (.int 0) (.int (g.fdiv many)) = some [.lst (bx b (g.fdiv many) m c)] := rfl
  have s3 : setIx [.lst (bx b g m c)] (.ref 0) (.int 3) (.int (c + 1)) = some [.lst (bx b g m (c + 1))] := rfl
  have j2 : item [.lst (bx b g m (c + 1))] (.ref 0) (.int 2) = some (.int m) := rfl
  have j3 : item [.lst (bx b g m (c + 1))] (.ref 0) (.int 3) = some (.int (c + 1)) := rfl
  by_cases hb : b = true ∧ 0 < g
  · obtain ⟨hb, hg'⟩ := hb
    subst hb
    have p0 : decide (0 < g) = true := decide_eq_true hg'
    refine ⟨g.fmod many, g.fdiv many, c, Int.fmod_nonneg_of_pos _ (by omega), Int.fmod_lt_of_pos _ (by omega), Int.fdiv_nonneg hg (by omega), Int.le_refl _, by omega, ?_⟩
    simp only [tkB, Ss.ev, S.ev, E.ev, Es.ev, Tg.as, Rs.bind, Rs.at, rsO, getV, List.getElem?_cons_zero, List.getElem?_cons_succ, i0, i1, truth_bl, cop_gt, Option.map, p0, bfn_int, fin, P.put, bop_mod _ _ _ hne, bop_fdiv _ _ _ hdiv, noexc, List.set_cons_zero, List.set_cons_succ, s0, Rf.then, Rf.res]
  · obtain ⟨v, hv⟩ : ∃ v : D, v = .bl false ∧ (E.ev cx [some (.ref 0), some (.int many), none, none] (.and (.ix (.var 0) (.cst (.int 1))) (.cmp .gt (.ix (.var 0) (.cst (.int 0))) (.cst (.int 0)))) [.lst (bx b g m c)]) = .ok v [.lst (bx b g m c)] := by
      refine ⟨_, rfl, ?_⟩
      cases b with
      | false => simp only [E.ev, Rs.bind, rsO, getV, List.getElem?_cons_zero, i1, truth_bl]
      | true =>
        have p0 : decide (0 < g) = false := decide_eq_false (fun z => hb ⟨rfl, z⟩)
        simp only [E.ev, Rs.bind, rsO, getV, List.getElem?_cons_zero, i0, i1, truth_bl, cop_gt, Option.map, p0]
    obtain ⟨rfl, hv⟩ := hv
    have m1 : okMul 15485863 (c + 1) = true := okMul_l (by decide) _
    have q1 : okPow (m + 15485863 * (c + 1) + 179424673) 5 = true := okPow_s (by omega) (by omega) (by omega)
    generalize hmx : ((m + 15485863 * (c + 1) + 179424673) ^ (5 : Int).toNat).fmod 2147483647 = mx
    have mx0 : 0 ≤ mx := by rw [← hmx]; exact Int.fmod_nonneg_of_pos _ (by decide)
    have mx1 : mx < 2147483647 := by rw [← hmx]; exact Int.fmod_lt_of_pos _ (by decide)
    have m2 : okMul mx 48271 = true := okMul_r (by decide) _
    have m3 : okMul 104729 (c + 1) = true := okMul_l (by decide) _
    have q2 : okPow (mx * 48271 + 104729 * (c + 1)) 3 = true := okPow_s (by omega) (by omega) (by omega)
    have d1 : okDiv 64 = true := by decide
    have n1 : (2147483647 : Int) ≠ 0 := by decide
    have n2 : (2147483587 : Int) ≠ 0 := by decide
    refine ⟨((((mx * 48271 + 104729 * (c + 1)) ^ (3 : Int).toNat).fmod 2147483587).fdiv 64).fmod many, g, c + 1, Int.fmod_nonneg_of_pos _ (by omega), Int.fmod_lt_of_pos _ (by omega), hg, by omega, by omega, ?_⟩
    simp only [tkB, Ss.ev, S.ev, hv, Rs.at, truth_bl, Rf.then]
    simp only [E.ev, Es.ev, Tg.as, Rs.bind, Rs.at, rsO, getV, List.getElem?_cons_zero, List.getElem?_cons_succ, i3, bop_add, fin, P.put, noexc, s3, j2, j3, bop_mul _ _ _ m1, bop_pow _ _ _ q1, bfn_int, bop_mod _ _ _ n1, hmx, List.set_cons_zero, List.set_cons_succ, Rf.then, bop_mul _ _ _ m2, bop_mul _ _ _ m3, bop_pow _ _ _ q2, bop_mod _ _ _ n2, bop_fdiv _ _ _ d1, bop_mod _ _ _ hne, Rf.res]
end TB

end

section
set_option Elab.async false
set_option linter.all false
set_option maxRecDepth 100000
set_option maxHeartbeats 1000000
namespace TB
open PySem

/-! ### turns that leave the heap -/
theorem turns_map {src : Sr} {ds : List D} {h : Lh} {step : D → List D → Lh → Rs (List D)} {f : D → List D} (hl : src.len h = some ds.length) (ha : ∀ i, src.at h i = ds[i]? ∨ ds.length ≤ i) (hs : ∀ d ∈ ds, ∀ acc, step d acc h = .ok (acc ++ f d) h) :
    ∀ (k : Nat) (acc : List D), k ≤ ds.length → turns src step ds.length k acc h = .ok (acc ++ (ds.drop (ds.length - k)).flatMap f) h
  | 0, acc, _ => by
    unfold turns
    rw [if_pos hl, Nat.sub_zero, List.drop_length]
    simp
  | k + 1, acc, hk => by
    have hi : ds.length - (k + 1) < ds.length := by omega
    have e1 : src.at h (ds.length - (k + 1)) = some ds[ds.length - (k + 1)] := by
      rcases ha (ds.length - (k + 1)) with e | e
      · rw [e, List.getElem?_eq_getElem hi]
      · omega
    unfold turns
    rw [if_pos hl, e1]
    dsimp only
    rw [hs _ (List.getElem_mem hi)]
    show turns src step ds.length k (acc ++ f ds[ds.length - (k + 1)]) h = _
    rw [turns_map hl ha hs k _ (by omega)]
    have e2 : ds.drop (ds.length - (k + 1)) = ds[ds.length - (k + 1)] :: ds.drop (ds.length - k) := by
      rw [List.drop_eq_getElem_cons hi]
      congr 1
      congr 1
      omega
    rw [e2, List.flatMap_cons, List.append_assoc]
theorem turns_all {src : Sr} {ds : List D} {h : Lh} {step : D → List D → Lh → Rs (List D)} {f : D → List D} (hl : src.len h = some ds.length) (ha : ∀ i, src.at h i = ds[i]? ∨ ds.length ≤ i) (hs : ∀ d ∈ ds, ∀ acc, step d acc h = .ok (acc ++ f d) h) :
    turns src step ds.length ds.length [] h = .ok (ds.flatMap f) h := by
  rw [turns_map hl ha hs ds.length [] (Nat.le_refl _), Nat.sub_self, List.drop_zero, List.nil_append]
/-- what a source walks -/
def Sr.items (h : Lh) : Sr → Option (List D)
  | .seq d => (vw h d).map (·.2)
  | .rng lo st n => some ((List.range n).map fun i => D.int (lo + (i : Nat) * st))
  | .keys ks => some (ks.map keyD)
  | .zip a b => match vw h a, vw h b with
    | some (_, xs), some (_, ys) => if xs.length = ys.length then some ((xs.zip ys).map fun p => D.tup [p.1, p.2]) else none
    | _, _ => none
  | _ => none
theorem items_ok {h : Lh} {src : Sr} {ds : List D} (e : src.items h = some ds) : src.len h = some ds.length ∧ ∀ i, src.at h i = ds[i]? ∨ ds.length ≤ i := by
  cases src with
  | seq d =>
    obtain ⟨p, e1, rfl⟩ := Option.map_eq_some_iff.mp e
    refine ⟨by show (vw h d).map _ = _; rw [e1]; rfl, fun i => .inl ?_⟩
    show (vw h d).bind _ = _
    rw [e1]; rfl
  | rng lo st n =>
    cases e
    refine ⟨by simp [Sr.len], fun i => ?_⟩
    by_cases hi : i < n
    · refine .inl ?_
      show some (D.int (lo + i * st)) = _
      rw [List.getElem?_map, List.getElem?_range hi]
      rfl
    · exact .inr (by simpa using hi)
  | keys ks =>
    cases e
    refine ⟨by simp [Sr.len], fun i => .inl ?_⟩
    show (ks[i]?).map keyD = _
    rw [List.getElem?_map]
  | zip a b =>
    replace e : (match vw h a, vw h b with
      | some (_, xs), some (_, ys) => if xs.length = ys.length then some ((xs.zip ys).map fun p => D.tup [p.1, p.2]) else none
      | _, _ => none) = some ds := e
    cases e1 : vw h a with
    | none => rw [e1] at e; cases e
    | some p =>
      cases e2 : vw h b with
      | none => rw [e1, e2] at e; cases e
      | some q =>
        obtain ⟨k, xs⟩ := p
        obtain ⟨k', ys⟩ := q
        rw [e1, e2] at e
        dsimp only at e
        split at e
        · rename_i c
          cases e
          refine ⟨?_, fun i => ?_⟩
          · show (match vw h a, vw h b with
              | some (_, xs), some (_, ys) => if xs.length = ys.length then some xs.length else none
              | _, _ => none) = _
            rw [e1, e2]
            dsimp only
            rw [if_pos c]
            simp [c]
          · by_cases hi : i < xs.length
            · refine .inl ?_
              rw [zip_at e1 e2 (List.getElem?_eq_getElem hi) (List.getElem?_eq_getElem (by rw [← c]; exact hi)), List.getElem?_map]
              have : (xs.zip ys)[i]? = some (xs[i], ys[i]'(by rw [← c]; exact hi)) := by
                rw [List.getElem?_zip_eq_some]
                exact ⟨List.getElem?_eq_getElem hi, List.getElem?_eq_getElem _⟩
              rw [this]; rfl
            · exact .inr (by simp; omega)
        · cases e
  | enu d => cases e
  | rev d => cases e
/-- [e for t in it if c], where nothing changes the heap -/
theorem comp_ev {cx : Cx} {env : Env} {fz : Bool} {own : List Nat} {t : Tg} {it : It} {c : Eo} {e : E} {h : Lh} {src : Sr} {ds : List D} (f : D → List D) (hi : it.ev cx env h = .ok src h) (hd : src.items h = some ds) (hl : ds.length ≤ lim)
    (hs : ∀ d ∈ ds, ∀ acc, compStep cx env own t c e d acc h = .ok (acc ++ f d) h) : (E.comp fz own t it c e).ev cx env h = fin fz (some (.l (ds.flatMap f))) h := by
  obtain ⟨k1, k2⟩ := items_ok hd
  show (it.ev cx env h).bind (fun src h => match src.len h with
    | some n => if n ≤ lim then (turns src (compStep cx env own t c e) n n [] h).bind fun ds h => fin fz (some (.l ds)) h else .stuck
    | none => .stuck) = _
  rw [hi]
  show (match src.len h with
    | some n => if n ≤ lim then (turns src (compStep cx env own t c e) n n [] h).bind fun ds h => fin fz (some (.l ds)) h else .stuck
    | none => .stuck) = _
  rw [k1]
  dsimp only
  rw [if_pos hl, turns_all k1 k2 hs]
  rfl
/-- .. a value for every item -/
theorem step_map {cx : Cx} {env : Env} {own : List Nat} {i : Nat} {e : E} {h : Lh} {d v : D} (acc : List D) (he : e.ev cx ((wipe env own).set i (some d)) h = .ok v h) : compStep cx env own (.nm i) .no e d acc h = .ok (acc ++ [v]) h := by
  unfold compStep
  show noexc ((e.ev cx ((wipe env own).set i (some d)) h).bind fun x h => .ok (acc ++ [x]) h) = _
  rw [he]; rfl
/-- .. the items that stand the test -/
theorem step_if {cx : Cx} {env : Env} {own : List Nat} {i : Nat} {c e : E} {h : Lh} {d v b : D} {k : Bool} (acc : List D) (hc : c.ev cx ((wipe env own).set i (some d)) h = .ok b h) (hb : truth h b = some k) (he : k = true → e.ev cx ((wipe env own).set i (some d)) h = .ok v h) :
    compStep cx env own (.nm i) (.so c) e d acc h = .ok (acc ++ if k = true then [v] else []) h := by
  unfold compStep
  show noexc (((c.ev cx ((wipe env own).set i (some d)) h).bind fun x h => .ok (some x) h).bind fun b h => match b with
    | some b => (match truth h b with
      | some true => (e.ev cx ((wipe env own).set i (some d)) h).bind fun x h => .ok (acc ++ [x]) h
      | some false => .ok acc h
      | none => .stuck)
    | none => (e.ev cx ((wipe env own).set i (some d)) h).bind fun x h => .ok (acc ++ [x]) h) = _
  rw [hc]
  show noexc (match truth h b with
      | some true => (e.ev cx ((wipe env own).set i (some d)) h).bind fun x h => .ok (acc ++ [x]) h
      | some false => .ok acc h
      | none => .stuck) = _
  rw [hb]
  cases k with
  | true => dsimp only; rw [he rfl]; rfl
  | false => dsimp only; simp [noexc]
theorem map_of (f : D → D) (ds : List D) : ds.flatMap (fun d => [f d]) = ds.map f := by
  induction ds with
  | nil => rfl
  | cons d ds ih => rw [List.flatMap_cons, ih]; rfl
theorem bls_map (f : D → Bool) : ∀ ds : List D, bls (ds.map fun d => D.bl (f d)) = some (ds.map f)
  | [] => rfl
  | d :: ds => by
    show (asBl (.bl (f d))).bind (fun i => (bls (ds.map fun d => D.bl (f d))).map (i :: ·)) = _
    rw [bls_map f ds]; rfl
/-- all([.. for ..]) -/
theorem bfn_all (h : Lh) (f : D → Bool) (ds : List D) : bfn h .all [.lst (ds.map fun d => D.bl (f d))] = some (.v (.bl (ds.all f))) := by
  show (match bls (ds.map fun d => D.bl (f d)) with
    | some is => some (P.v (.bl (is.all id)))
    | none => none) = _
  rw [bls_map]
  simp [List.all_map]
end TB

end

section
set_option Elab.async false
set_option linter.all false
set_option maxRecDepth 100000
set_option maxHeartbeats 1000000
namespace TB
open PySem

/-! ### trees without cells; calls -/
mutual
/-- a tree without cells, no row too long -/
def D.sm : D → Bool
  | .ref _ => false
  | .exc _ _ => false
  | .lst ds => decide (ds.length ≤ 100000) && sms ds
  | .tup ds => decide (ds.length ≤ 100000) && sms ds
  | .dct ks ds => decide (ks.length = ds.length ∧ ds.length ≤ 100000) && sms ds
  | .str s => decide (s.length ≤ 100000) && (PyData.str s).canLay0
  | _ => true
def sms : List D → Bool
  | [] => true
  | d :: ds => d.sm && sms ds
end
mutual
theorem D.sm_nref : ∀ (d : D), d.sm = true → d.nref = true
  | .non, _ => rfl
  | .bl _, _ => rfl
  | .int _, _ => rfl
  | .str _, _ => rfl
  | .ref _, h => by cases h
  | .exc _ _, h => by cases h
  | .lst ds, h => sms_nref ds (sp2 h).2
  | .tup ds, h => sms_nref ds (sp2 h).2
  | .dct ks ds, h => sms_nref ds (sp2 h).2
theorem sms_nref : ∀ (ds : List D), sms ds = true → nrefs ds = true
  | [], _ => rfl
  | d :: ds, h => by
    show (d.nref && nrefs ds) = true
    rw [D.sm_nref d (sp2 h).1, sms_nref ds (sp2 h).2]; rfl
end
mutual
theorem bind_nref (f : Nat → Option D) : ∀ (d : D), d.nref = true → d.bindRef f = some d
  | .non, _ => rfl
  | .bl _, _ => rfl
  | .int _, _ => rfl
  | .str _, _ => rfl
  | .ref _, h => by cases h
  | .exc _ _, h => by cases h
  | .lst ds, h => by
    show (bindRefs f ds).map D.lst = _
    rw [binds_nref f ds h]; rfl
  | .tup ds, h => by
    show (bindRefs f ds).map D.tup = _
    rw [binds_nref f ds h]; rfl
  | .dct ks ds, h => by
    show (bindRefs f ds).map (D.dct ks) = _
    rw [binds_nref f ds h]; rfl
theorem binds_nref (f : Nat → Option D) : ∀ (ds : List D), nrefs ds = true → bindRefs f ds = some ds
  | [], _ => rfl
  | d :: ds, h => by
    show (d.bindRef f).bind (fun d' => (bindRefs f ds).map (d' :: ·)) = _
    rw [bind_nref f d (sp2 h).1]
    show (bindRefs f ds).map (d :: ·) = _
    rw [binds_nref f ds (sp2 h).2]; rfl
end
theorem thaw_nref {h : Lh} {n : Nat} {d : D} (e : d.nref = true) : thaw h n d = some d := bind_nref _ d e
theorem thaws_nref {h : Lh} : ∀ {ds : List D}, nrefs ds = true → thaws h ds = some ds
  | [], _ => rfl
  | d :: ds, e => by
    show (thaw h deep d).bind (fun x => (thaws h ds).map (x :: ·)) = _
    rw [thaw_nref (sp2 e).1]
    show (thaws h ds).map (d :: ·) = _
    rw [thaws_nref (sp2 e).2]; rfl
theorem pure_ok {c : Nat → List D → Lh → Rs D} {f : Nat} {as : List D} {d : D} {h h1 : Lh} (ha : nrefs as = true) (e : c f as [] = .ok d h1) (hd : d.nref = true) : callPure c f as h = .ok d h := by
  unfold callPure
  rw [if_pos ha, e]
  dsimp only
  rw [thaw_nref hd]
theorem pure_exc {c : Nat → List D → Lh → Rs D} {f k : Nat} {as fs : List D} {h h1 : Lh} (ha : nrefs as = true) (e : c f as [] = .exc k fs h1) (hd : nrefs fs = true) : callPure c f as h = .exc k fs h := by
  unfold callPure
  rw [if_pos ha, e]
  dsimp only
  rw [thaws_nref hd]
theorem run_succ {p : Pg} {n f : Nat} {fd : Fd} {as : List D} {h : Lh} (e : p.fds[f]? = some fd) (hl : as.length = fd.np) : run p (n + 1) f as h = (fd.body.ev ⟨run p n, p.loop, p.sub⟩ (startE fd.ns as) h).res := by
  show (match p.fds[f]? with
    | some fd => if as.length = fd.np then (fd.body.ev ⟨run p n, p.loop, p.sub⟩ (startE fd.ns as) h).res else .stuck
    | none => .stuck) = _
  rw [e]
  dsimp only
  rw [if_pos hl]
/-! ### kinds of trees -/
def isInt : D → Bool
  | .int _ => true
  | _ => false
def isNum : D → Bool
  | .int _ => true
  | .non => true
  | _ => false
/-- the items of a list or a tuple -/
def seqD : D → Option (List D)
  | .lst ds => some ds
  | .tup ds => some ds
  | _ => none
def isSeq (d : D) : Bool := (seqD d).isSome
theorem sm_mem {ds : List D} : sms ds = true → ∀ d ∈ ds, d.sm = true := by
  induction ds with
  | nil => intro _ d m; cases m
  | cons x ds ih =>
    intro h d m
    rcases List.mem_cons.mp m with m | m
    · rw [m]; exact (sp2 h).1
    · exact ih (sp2 h).2 d m
theorem seq_sm {d : D} {ds : List D} (h : d.sm = true) (e : seqD d = some ds) : ds.length ≤ 100000 ∧ sms ds = true := by
  cases d <;> first
    | (cases e; done)
    | (cases e; exact ⟨of_decide_eq_true (sp2 h).1, (sp2 h).2⟩)
theorem seq_vw {h : Lh} {d : D} {ds : List D} (e : seqD d = some ds) : (vw h d).map (·.2) = some ds := by
  cases d <;> first
    | (cases e; done)
    | (cases e; rfl)
/-- seq, walked -/
theorem items_seq {h : Lh} {d : D} {ds : List D} (e : seqD d = some ds) : (Sr.seq d).items h = some ds := seq_vw e
theorem len_seq {h : Lh} {d : D} {ds : List D} (e : seqD d = some ds) : bfn h .len [d] = some (.v (.int ds.length)) := by
  cases d <;> first
    | (cases e; done)
    | (cases e; rfl)
theorem isTys_list {h : Lh} {d : D} (hs : d.sm = true) : isTys h [.list, .tuple] d = some (isSeq d) := by
  cases d <;> first | rfl | cases hs
theorem isTys_int {h : Lh} {d : D} (hs : d.sm = true) : isTys h [.int] d = some (match d with | .int _ => true | .bl _ => true | _ => false) := by
  cases d <;> first | rfl | cases hs
theorem isTys_bool {h : Lh} {d : D} (hs : d.sm = true) : isTys h [.bool] d = some (match d with | .bl _ => true | _ => false) := by
  cases d <;> first | rfl | cases hs
theorem eq_int (h : Lh) (i j : Int) : cop h .eq (.int i) (.int j) = some (decide (i = j)) := by
  have e : cop h .eq (.int i) (.int j) = some (PyData.eqv (.int i) (.int j)) := rfl
  rw [e]
  congr 1
theorem ne_int (h : Lh) (i j : Int) : cop h .ne (.int i) (.int j) = some (!decide (i = j)) := by
  have e : cop h .ne (.int i) (.int j) = (cop h .eq (.int i) (.int j)).map (!·) := rfl
  rw [e, eq_int]; rfl
/-- .. == [] -/
theorem eq_nil (h : Lh) (ds : List D) : cop h .eq (.lst ds) (.lst []) = some ds.isEmpty := by
  cases ds <;> rfl
theorem ne_nil (h : Lh) (ds : List D) : cop h .ne (.lst ds) (.lst []) = some (!ds.isEmpty) := by
  cases ds <;> rfl
theorem item_seq {h : Lh} {d : D} {ds : List D} {i : Int} {k : Nat} (e : seqD d = some ds) (hk : okIx i = true) (hp : place i ds.length = some k) : item h d (.int i) = ds[k]? := by
  cases d <;> first
    | (cases e; done)
    | (cases e
       show (if okIx i then (match place i ds.length with
          | some k => ds[k]?
          | none => none) else none) = _
       rw [if_pos hk, hp])
theorem isD_non (h : Lh) (d : D) : cop h .is d .non = some (isNon d) := by cases d <;> rfl
theorem isn_non (h : Lh) (d : D) : cop h .isn d .non = some (!isNon d) := by cases d <;> rfl
end TB

end

section
set_option Elab.async false
set_option linter.all false
set_option maxRecDepth 100000
set_option maxHeartbeats 2000000
namespace TB
open PySem

mutual
def D.dep : D → Nat
  | .lst ds => deps ds + 1
  | .tup ds => deps ds + 1
  | .dct _ ds => deps ds + 1
  | _ => 0
def deps : List D → Nat
  | [] => 0
  | d :: ds => max d.dep (deps ds)
end
theorem dep_mem {ds : List D} : ∀ d ∈ ds, d.dep ≤ deps ds := by
  induction ds with
  | nil => intro d m; cases m
  | cons x ds ih =>
    intro d m
    show d.dep ≤ max x.dep (deps ds)
    rcases List.mem_cons.mp m with m | m
    · rw [m]; exact Nat.le_max_left _ _
    · exact Nat.le_trans (ih d m) (Nat.le_max_right _ _)
/-- the law's comparison; me: its own place -/
def smB (me : Nat) : Ss := (.cons (.ite (.or (.cmp .is (.var 1) (.cst .non)) (.isi [.bool] (.var 1))) (.cons (.ret (.ite (.cmp .is (.var 1) (.cst .non)) (.cmp .is (.var 0) (.cst .non)) (.and (.isi [.bool] (.var 0)) (.cmp .eq (.cmp .is (.var 0) (.cst (.bl true))) (.cmp .is (.var 1) (.cst (.bl true))))))) .nil) .nil) (.cons (.ite (.isi [.int] (.var 1)) (.cons (.ret (.and (.isi [.int] (.var 0)) (.and (.not (.isi [.bool] (.var 0))) (.cmp .eq (.var 0) (.var 1))))) .nil) .nil) (.cons (.ite (.isi [.str] (.var 1)) (.cons (.ret (.and (.isi [.str] (.var 0)) (.cmp .eq (.var 0) (.var 1)))) .nil) .nil) (.cons (.ite (.isi [.dict] (.var 1)) (.cons (.ite (.or (.not (.isi [.dict] (.var 0))) (.cmp .ne (.bi .len true (.cons (.var 0) .nil)) (.bi .len true (.cons (.var 1) .nil)))) (.cons (.ret (.cst (.bl false))) .nil) .nil) (.cons (.ret (.cmp .eq (.comp true [2] (.nm 2) (.ks 1) (.so (.or (.cmp .nin (.var 2) (.var 0)) (.not (.call .pure me (.cons (.ix (.var 0) (.var 2)) (.cons (.ix (.var 1) (.var 2)) .nil)) [0, 1])))) (.var 2)) (.lst true .nil))) .nil)) .nil) (.cons (.ite (.isi [.list, .tuple] (.var 1)) (.cons (.ite (.or (.not (.isi [.list, .tuple] (.var 0))) (.or (.cmp .ne (.isi [.list] (.var 0)) (.isi [.list] (.var 1))) (.cmp .ne (.bi .len true (.cons (.var 0) .nil)) (.bi .len true (.cons (.var 1) .nil))))) (.cons (.ret (.cst (.bl false))) .nil) .nil) (.cons (.ret (.cmp .eq (.comp true [3] (.nm 3) (.r1 (.bi .len true (.cons (.var 1) .nil))) (.so (.not (.call .pure me (.cons (.ix (.var 0) (.var 3)) (.cons (.ix (.var 1) (.var 3)) .nil)) [0, 1]))) (.var 3)) (.lst true .nil))) .nil)) .nil) (.cons (.ret (.and (.cmp .isn (.var 0) (.cst .non)) (.not (.isi [.int, .str, .list, .tuple, .dict] (.var 0))))) .nil))))))
theorem no_items (f : D → List D) (ds : List D) (h : ∀ d ∈ ds, f d = []) : ds.flatMap f = [] := by
  induction ds with
  | nil => rfl
  | cons d ds ih => rw [List.flatMap_cons, h d List.mem_cons_self, ih fun x hx => h x (List.mem_cons_of_mem _ hx)]; rfl
theorem look_in : ∀ {ks : List Ky} {ds : List D} {k : Ky}, k ∈ ks → ks.length = ds.length → ∃ v ∈ ds, look ks ds k = some v
  | [], _, _, m, _ => by cases m
  | _ :: _, [], _, _, e => by cases e
  | x :: ks, d :: ds, k, m, e => by
    unfold look
    by_cases h : k = x
    · exact ⟨d, List.mem_cons_self, if_pos h⟩
    · obtain ⟨v, hv, q⟩ := look_in (List.mem_of_ne_of_mem h m) (Nat.succ.inj e)
      exact ⟨v, List.mem_cons_of_mem _ hv, by rw [if_neg h]; exact q⟩
theorem key_of (k : Ky) : keyOf (keyD k) = some k := by cases k <;> rfl
/-- a seq's part: every item equals itself -/
theorem same_seq {p : Pg} {me k : Nat} {d : D} {ds : List D} {h : Lh} (hs : d.sm = true) (e : seqD d = some ds) (ih : ∀ x ∈ ds, ∀ h, run p k me [x, x] h = .ok (.bl true) h) :
    (E.comp true [3] (.nm 3) (.r1 (.bi .len true (.cons (.var 1) .nil))) (.so (.not (.call .pure me (.cons (.ix (.var 0) (.var 3)) (.cons (.ix (.var 1) (.var 3)) .nil)) [0, 1]))) (.var 3)).ev ⟨run p k, p.loop, p.sub⟩ (startE 4 [d, d]) h = .ok (.lst []) h := by
  obtain ⟨hl, hm⟩ := seq_sm hs e
  have hlen := len_seq (h := h) e
  have hv1 : getV (startE 4 [d, d]) 1 = some d := by cases d <;> first | rfl | cases hs
  have hr : okRng (ds.length : Nat) = true := decide_eq_true (by omega)
  rw [comp_ev (src := .rng 0 1 ds.length) (ds := (List.range ds.length).map fun i => D.int (0 + (i : Nat) * 1)) (fun _ => []) ?_ rfl (by simp [lim]; omega) fun x hx acc => ?_, no_items _ _ (fun _ _ => rfl)]
  · rfl
  · simp only [It.ev, E.ev, Es.ev, Rs.bind, rsO, hv1, hlen, fin, P.put, hr, if_true, Int.toNat_natCast]
  · obtain ⟨i, hi, rfl⟩ := List.mem_map.mp hx
    have hi := List.mem_range.mp hi
    have ei : (0 : Int) + (i : Int) * 1 = i := by omega
    rw [ei]
    have hx' := sm_mem hm _ (List.getElem_mem hi)
    have it : item h d (.int i) = some ds[i] := by
      rw [item_seq (k := i) e (decide_eq_true (by omega)) (by unfold place; rw [if_pos (by omega), if_pos (by omega)]; rfl), List.getElem?_eq_getElem hi]
    have g0 : getV ((wipe (startE 4 [d, d]) [3]).set 3 (some (.int i))) 0 = some d := by cases d <;> first | rfl | cases hs
    have g1 : getV ((wipe (startE 4 [d, d]) [3]).set 3 (some (.int i))) 1 = some d := by cases d <;> first | rfl | cases hs
    have g3 : getV ((wipe (startE 4 [d, d]) [3]).set 3 (some (.int i))) 3 = some (.int i) := rfl
    have hc : callPure (run p k) me [ds[i], ds[i]] h = .ok (.bl true) h := pure_ok (by show (D.nref _ && (D.nref _ && true)) = true; rw [D.sm_nref _ hx']; rfl) (ih _ (List.getElem_mem hi) []) rfl
    have := step_if (cx := ⟨run p k, p.loop, p.sub⟩) (env := startE 4 [d, d]) (own := [3]) (i := 3) (c := .not (.call .pure me (.cons (.ix (.var 0) (.var 3)) (.cons (.ix (.var 1) (.var 3)) .nil)) [0, 1])) (e := .var 3) (h := h) (d := .int i) (v := .int i) (b := .bl false) (k := false) acc
      (by simp only [E.ev, Es.ev, arrange, callM, Rs.bind, rsO, g0, g1, g3, it, Option.bind, Option.map, List.getElem?_cons_zero, List.getElem?_cons_succ, hc, truth_bl, Bool.not_true]) rfl (fun z => by cases z)
    simpa using this
/-- a dict's part -/
theorem same_dct {p : Pg} {me k : Nat} {ks : List Ky} {ds : List D} {h : Lh} (hs : (D.dct ks ds).sm = true) (ih : ∀ x ∈ ds, ∀ h, run p k me [x, x] h = .ok (.bl true) h) :
    (E.comp true [2] (.nm 2) (.ks 1) (.so (.or (.cmp .nin (.var 2) (.var 0)) (.not (.call .pure me (.cons (.ix (.var 0) (.var 2)) (.cons (.ix (.var 1) (.var 2)) .nil)) [0, 1])))) (.var 2)).ev ⟨run p k, p.loop, p.sub⟩ (startE 4 [.dct ks ds, .dct ks ds]) h = .ok (.lst []) h := by
  obtain ⟨hl, hm⟩ := sp2 (show (decide (ks.length = ds.length ∧ ds.length ≤ 100000) && sms ds) = true from hs)
  obtain ⟨hl, hl2⟩ := of_decide_eq_true hl
  rw [comp_ev (src := .keys ks) (ds := ks.map keyD) (fun _ => []) rfl rfl (by simp [lim]; omega) fun x hx acc => ?_, no_items _ _ (fun _ _ => rfl)]
  · rfl
  · obtain ⟨q, hq, rfl⟩ := List.mem_map.mp hx
    obtain ⟨v, hv, hlook⟩ := look_in hq hl
    have hv' := sm_mem hm v hv
    have it : item h (.dct ks ds) (keyD q) = some v := by
      show (match keyOf (keyD q) with
        | some k => look ks ds k
        | none => none) = _
      rw [key_of]; exact hlook
    have nin : cop h .nin (keyD q) (.dct ks ds) = some false := by
      show ((match keyOf (keyD q) with
        | some k => some (ks.any fun q => decide (q = k))
        | none => none).map (!·)) = _
      rw [key_of]
      have : (ks.any fun q' => decide (q' = q)) = true := List.any_eq_true.mpr ⟨q, hq, decide_eq_true rfl⟩
      simp [this]
    have g0 : getV ((wipe (startE 4 [.dct ks ds, .dct ks ds]) [2]).set 2 (some (keyD q))) 0 = some (.dct ks ds) := rfl
    have g1 : getV ((wipe (startE 4 [.dct ks ds, .dct ks ds]) [2]).set 2 (some (keyD q))) 1 = some (.dct ks ds) := rfl
    have g2 : getV ((wipe (startE 4 [.dct ks ds, .dct ks ds]) [2]).set 2 (some (keyD q))) 2 = some (keyD q) := by cases q <;> rfl
    have hc : callPure (run p k) me [v, v] h = .ok (.bl true) h := pure_ok (by show (D.nref _ && (D.nref _ && true)) = true; rw [D.sm_nref _ hv']; rfl) (ih _ hv []) rfl
    have := step_if (cx := ⟨run p k, p.loop, p.sub⟩) (env := startE 4 [.dct ks ds, .dct ks ds]) (own := [2]) (i := 2) (c := .or (.cmp .nin (.var 2) (.var 0)) (.not (.call .pure me (.cons (.ix (.var 0) (.var 2)) (.cons (.ix (.var 1) (.var 2)) .nil)) [0, 1]))) (e := .var 2) (h := h) (d := keyD q) (v := keyD q) (b := .bl false) (k := false) acc
      (by simp only [E.ev, Es.ev, arrange, callM, Rs.bind, rsO, g0, g1, g2, nin, it, Option.bind, Option.map, List.getElem?_cons_zero, List.getElem?_cons_succ, hc, truth_bl, Bool.not_true]) rfl (fun z => by cases z)
    simpa using this
end TB

end

section
set_option Elab.async false
set_option linter.all false
set_option maxRecDepth 100000
set_option maxHeartbeats 2000000
namespace TB
open PySem
theorem eq_str (h : Lh) {s : Str} (hs : (D.str s).sm = true) : cop h .eq (.str s) (.str s) = some true := by
  have hc : (PyData.str s).canLay0 = true := (sp2 (show (decide (s.length ≤ 100000) && (PyData.str s).canLay0) = true from hs)).2
  have sh : SeqAt.shaped (.str s) = true := by
    unfold SeqAt.shaped
    rw [hc]
    exact decide_eq_true (by show (PyData.str s).depth ≤ 64; simp [PyData.depth])
  have e : cop h .eq (.str s) (.str s) = if (SeqAt.shaped (.str s) && SeqAt.shaped (.str s)) = true then some (PyData.eqv (.str s) (.str s)) else none := rfl
  rw [e, sh]
  simp [PyData.eqv]
theorem eq_bl (h : Lh) (b : Bool) : cop h .eq (.bl b) (.bl b) = some true := by cases b <;> rfl
theorem same_step {p : Pg} {me : Nat} (hp : p.fds[me]? = some ⟨2, 4, smB me⟩) (k : Nat) (d : D) (hs : d.sm = true) (ih : ∀ x : D, x.sm = true → x.dep < d.dep → ∀ h, run p k me [x, x] h = .ok (.bl true) h) (h : Lh) : run p (k + 1) me [d, d] h = .ok (.bl true) h := by
  have seq : ∀ (k : Nat) (d : D) (ds : List D) (h : Lh), (d = .lst ds ∨ d = .tup ds) → d.sm = true → (∀ x ∈ ds, ∀ h, run p k me [x, x] h = .ok (.bl true) h) → run p (k + 1) me [d, d] h = .ok (.bl true) h := by
    intro k d ds h hd hs ih
    rw [run_succ hp rfl]
    have e : seqD d = some ds := by rcases hd with rfl | rfl <;> rfl
    have hc := same_seq (p := p) (me := me) (k := k) (h := h) hs e ih
    have hlen := len_seq (h := h) e
    simp only [smB]
    generalize E.comp true [3] (.nm 3) (.r1 (.bi .len true (.cons (.var 1) .nil))) (.so (.not (.call .pure me (.cons (.ix (.var 0) (.var 3)) (.cons (.ix (.var 1) (.var 3)) .nil)) [0, 1]))) (.var 3) = C at hc ⊢
    have g0 : getV (startE 4 [d, d]) 0 = some d := by rcases hd with rfl | rfl <;> rfl
    have g1 : getV (startE 4 [d, d]) 1 = some d := by rcases hd with rfl | rfl <;> rfl
    have t1 : isTys h [.bool] d = some false := by rcases hd with rfl | rfl <;> rfl
    have t2 : isTys h [.int] d = some false := by rcases hd with rfl | rfl <;> rfl
    have t3 : isTys h [.str] d = some false := by rcases hd with rfl | rfl <;> rfl
    have t4 : isTys h [.dict] d = some false := by rcases hd with rfl | rfl <;> rfl
    have t5 : isTys h [.list, .tuple] d = some true := by rcases hd with rfl | rfl <;> rfl
    have t6 : isTys h [.list] d = some (match d with | .lst _ => true | _ => false) := by rcases hd with rfl | rfl <;> rfl
    have n1 : isNon d = false := by rcases hd with rfl | rfl <;> rfl
    have ne1 : ∀ b : Bool, cop h .ne (.bl b) (.bl b) = some false := fun b => by cases b <;> rfl
    simp only [Ss.ev, S.ev, E.ev, Es.ev, Rs.bind, Rs.at, rsO, g0, g1, Option.map, isD_non, n1, truth_bl, t1, t2, t3, t4, t5, t6, ne1, Bool.not_true, hlen, fin, P.put, ne_int, decide_true, hc, lim, List.length_nil, Nat.zero_le, if_true, eq_nil, List.isEmpty_nil, Rf.then, Rf.res]
  cases d with
  | ref n => cases hs
  | exc c fs => cases hs
  | non => rw [run_succ hp rfl]; rfl
  | bl b => rw [run_succ hp rfl]; cases b <;> rfl
  | int i =>
    rw [run_succ hp rfl]
    have g0 : getV (startE 4 [.int i, .int i]) 0 = some (.int i) := rfl
    have g1 : getV (startE 4 [.int i, .int i]) 1 = some (.int i) := rfl
    have t1 : isTys h [.bool] (.int i) = some false := rfl
    have t2 : isTys h [.int] (.int i) = some true := rfl
    simp only [smB, Ss.ev, S.ev, E.ev, Rs.bind, Rs.at, rsO, g0, g1, Option.map, isD_non, isNon, truth_bl, t1, t2, Bool.not_false, eq_int, decide_true, Rf.then, Rf.res]
  | str s =>
    rw [run_succ hp rfl]
    have g0 : getV (startE 4 [.str s, .str s]) 0 = some (.str s) := rfl
    have g1 : getV (startE 4 [.str s, .str s]) 1 = some (.str s) := rfl
    have t1 : isTys h [.bool] (.str s) = some false := rfl
    have t2 : isTys h [.int] (.str s) = some false := rfl
    have t3 : isTys h [.str] (.str s) = some true := rfl
    simp only [smB, Ss.ev, S.ev, E.ev, Rs.bind, Rs.at, rsO, g0, g1, Option.map, isD_non, isNon, truth_bl, t1, t2, t3, eq_str h hs, Rf.then, Rf.res]
  | lst ds =>
    have hm := (sp2 (show (decide (ds.length ≤ 100000) && sms ds) = true from hs)).2
    exact seq _ _ ds h (.inl rfl) hs fun x hx h => ih x (sm_mem hm x hx) (Nat.lt_succ_of_le (dep_mem x hx)) h
  | tup ds =>
    have hm := (sp2 (show (decide (ds.length ≤ 100000) && sms ds) = true from hs)).2
    exact seq _ _ ds h (.inr rfl) hs fun x hx h => ih x (sm_mem hm x hx) (Nat.lt_succ_of_le (dep_mem x hx)) h
  | dct ks ds =>
    have hm := (sp2 (show (decide (ks.length = ds.length ∧ ds.length ≤ 100000) && sms ds) = true from hs)).2
    have hc := same_dct (p := p) (me := me) (k := k) (h := h) hs fun x hx h => ih x (sm_mem hm x hx) (Nat.lt_succ_of_le (dep_mem x hx)) h
    rw [run_succ hp rfl]
    simp only [smB]
    generalize E.comp true [2] (.nm 2) (.ks 1) (.so (.or (.cmp .nin (.var 2) (.var 0)) (.not (.call .pure me (.cons (.ix (.var 0) (.var 2)) (.cons (.ix (.var 1) (.var 2)) .nil)) [0, 1])))) (.var 2) = C at hc ⊢
    have g0 : getV (startE 4 [.dct ks ds, .dct ks ds]) 0 = some (.dct ks ds) := rfl
    have g1 : getV (startE 4 [.dct ks ds, .dct ks ds]) 1 = some (.dct ks ds) := rfl
    have t1 : isTys h [.bool] (.dct ks ds) = some false := rfl
    have t2 : isTys h [.int] (.dct ks ds) = some false := rfl
    have t3 : isTys h [.str] (.dct ks ds) = some false := rfl
    have t4 : isTys h [.dict] (.dct ks ds) = some true := rfl
    have hlen : bfn h .len [.dct ks ds] = some (.v (.int ks.length)) := rfl
    simp only [Ss.ev, S.ev, E.ev, Es.ev, Rs.bind, Rs.at, rsO, g0, g1, Option.map, isD_non, isNon, truth_bl, t1, t2, t3, t4, Bool.not_true, hlen, fin, P.put, ne_int, decide_true, hc, lim, List.length_nil, Nat.zero_le, if_true, eq_nil, List.isEmpty_nil, Rf.then, Rf.res]
/-- a tree is the same as itself -/
theorem same_ok {p : Pg} {me : Nat} (hp : p.fds[me]? = some ⟨2, 4, smB me⟩) : ∀ (k : Nat) (d : D), d.sm = true → d.dep ≤ k → ∀ h, run p (k + 1) me [d, d] h = .ok (.bl true) h
  | 0, d, hs, hd, h => same_step hp 0 d hs (fun x _ hx => by omega) h
  | k + 1, d, hs, hd, h => same_step hp (k + 1) d hs (fun x hx hl h => same_ok hp k x hx (by omega) h) h
end TB

end

section
set_option Elab.async false
set_option linter.all false
set_option maxRecDepth 100000
set_option maxHeartbeats 2000000
namespace TB
open PySem
/-- a box after at most N draws -/
structure BoxAt (N : Int) (ds : List D) : Prop where
  ex : ∃ (b : Bool) (g m c : Int), ds = bx b g m c ∧ 0 ≤ g ∧ 0 ≤ m ∧ m < 2147483629 ∧ 0 ≤ c ∧ c ≤ N
theorem BoxAt.mono {N M : Int} {ds : List D} (h : BoxAt N ds) (l : N ≤ M) : BoxAt M ds := by
  obtain ⟨b, g, m, c, e, h1, h2, h3, h4, h5⟩ := h.ex
  exact ⟨b, g, m, c, e, h1, h2, h3, h4, Int.le_trans h5 l⟩
/-- a draw from a lent box -/
theorem box_take {p : Pg} {tk : Nat} (hp : p.fds[tk]? = some ⟨2, 4, tkB⟩) (n : Nat) {h : Lh} {k : Nat} {ds : List D} {N many : Int} (hh : h[k]? = some (.lst ds)) (hb : BoxAt N ds) (hN : N < 999999999) (h1 : 1 ≤ many) (h2 : okDiv many = true) :
    ∃ (d : Int) (ds' : List D), 0 ≤ d ∧ d < many ∧ BoxAt (N + 1) ds' ∧ callBox (run p (n + 1)) tk [.ref k, .int many] h = .ok (.int d) (h.set k (.lst ds')) := by
  obtain ⟨b, g, m, c, rfl, b1, b2, b3, b4, b5⟩ := hb.ex
  obtain ⟨d, g', c', d1, d2, d3, d4, d5, e⟩ := take_ok ⟨run p n, p.loop, p.sub⟩ (b := b) (many := many) b1 b2 b3 b4 (by omega) h1 h2
  refine ⟨d, bx b g' m c', d1, d2, ⟨b, g', m, c', rfl, d3, b2, b3, by omega, by omega⟩, ?_⟩
  have er : run p (n + 1) tk [.ref 0, .int many] [.lst (bx b g m c)] = .ok (.int d) [.lst (bx b g' m c')] := by
    rw [run_succ hp rfl]; exact e
  have n1 : nrefs [.int many] = true := rfl
  have n2 : nrefs (bx b g m c) = true := rfl
  have n3 : nrefs (bx b g' m c') = true := rfl
  unfold callBox
  dsimp only
  rw [if_pos n1, hh]
  dsimp only
  rw [if_pos n2, er]
  dsimp only
  rw [if_pos n3]
  rfl
/-- turns over a range that draw from the heap: Inv by the turn, V what each one gives -/
theorem turns_draw {lo st : Int} {n : Nat} {step : D → List D → Lh → Rs (List D)} {Inv : Nat → Lh → Prop} {V : D → Prop} (hs : ∀ i acc h, i < n → Inv i h → ∃ v h', V v ∧ Inv (i + 1) h' ∧ step (.int (lo + i * st)) acc h = .ok (acc ++ [v]) h') :
    ∀ (k : Nat) (acc : List D) (h : Lh), k ≤ n → Inv (n - k) h → ∃ vs h', vs.length = k ∧ (∀ v ∈ vs, V v) ∧ Inv n h' ∧ turns (.rng lo st n) step n k acc h = .ok (acc ++ vs) h'
  | 0, acc, h, _, hi => ⟨[], h, rfl, (fun v m => by cases m), (by simpa using hi), (by
    unfold turns
    rw [if_pos (show (Sr.rng lo st n).len h = some n from rfl), List.append_nil])⟩
  | k + 1, acc, h, hk, hi => by
    obtain ⟨v, h1, hv, hi1, e1⟩ := hs (n - (k + 1)) acc h (by omega) hi
    rw [show n - (k + 1) + 1 = n - k by omega] at hi1
    obtain ⟨vs, h2, l2, hvs, hi2, e2⟩ := turns_draw hs k (acc ++ [v]) h1 (by omega) hi1
    refine ⟨v :: vs, h2, by simp [l2], fun w m => ?_, hi2, ?_⟩
    · rcases List.mem_cons.mp m with m | m
      · rw [m]; exact hv
      · exact hvs w m
    · unfold turns
      rw [if_pos (show (Sr.rng lo st n).len h = some n from rfl)]
      show (step (.int (lo + ((n - (k + 1) : Nat) : Int) * st)) acc h).bind (fun a h => turns (.rng lo st n) step n k a h) = _
      rw [e1]
      show turns (.rng lo st n) step n k (acc ++ [v]) h1 = _
      rw [e2, List.append_assoc]
      rfl
end TB

end

section
set_option Elab.async false
set_option linter.all false
set_option maxRecDepth 100000
set_option maxHeartbeats 2000000
namespace TB
open PySem
/-! ### slots -/
/-- no exception -/
def nx : D → Bool
  | .exc _ _ => false
  | _ => true
theorem getV_z {d : D} {s : Env} (h : nx d = true) : getV (some d :: s) 0 = some d := by
  cases d <;> first | rfl | cases h
theorem getV_s (x : Option D) (s : Env) (i : Nat) : getV (x :: s) (i + 1) = getV s i := rfl
theorem gv_int (i : Int) (s : Env) : getV (some (.int i) :: s) 0 = some (.int i) := rfl
theorem gv_bl (i : Bool) (s : Env) : getV (some (.bl i) :: s) 0 = some (.bl i) := rfl
theorem gv_str (i : Str) (s : Env) : getV (some (.str i) :: s) 0 = some (.str i) := rfl
theorem gv_ref (i : Nat) (s : Env) : getV (some (.ref i) :: s) 0 = some (.ref i) := rfl
theorem gv_lst (i : List D) (s : Env) : getV (some (.lst i) :: s) 0 = some (.lst i) := rfl
theorem gv_tup (i : List D) (s : Env) : getV (some (.tup i) :: s) 0 = some (.tup i) := rfl
theorem gv_dct (k : List Ky) (i : List D) (s : Env) : getV (some (.dct k i) :: s) 0 = some (.dct k i) := rfl
theorem gv_non (s : Env) : getV (some .non :: s) 0 = some .non := rfl
theorem sm_nx {d : D} (h : d.sm = true) : nx d = true := by cases d <;> first | rfl | cases h
/-! ### rows and places -/
def row (d : D) : List D := (seqD d).getD []
def cel (r : D) (j : Nat) : D := ((row r)[j]?).getD .non
theorem seq_row {d : D} (h : isSeq d = true) : seqD d = some (row d) := by
  unfold isSeq at h
  unfold row
  cases e : seqD d with
  | none => rw [e] at h; cases h
  | some ds => rfl
theorem place_nat {j n : Nat} (h : j < n) : place (j : Int) n = some j := by
  unfold place
  rw [if_pos (by omega), if_pos (by omega)]
  simp
theorem item_cel {h : Lh} {r : D} {j : Nat} (hr : isSeq r = true) (hj : j < (row r).length) (hb : (row r).length ≤ 100000) : item h r (.int j) = some (cel r j) := by
  rw [item_seq (k := j) (seq_row hr) (decide_eq_true (by omega)) (place_nat hj)]
  unfold cel
  rw [List.getElem?_eq_getElem hj]; rfl
theorem cel_mem {r : D} {j : Nat} (hj : j < (row r).length) : cel r j ∈ row r := by
  unfold cel
  rw [List.getElem?_eq_getElem hj]
  exact List.getElem_mem hj
theorem row_sm {d : D} (hs : d.sm = true) (h : isSeq d = true) : (row d).length ≤ 100000 ∧ sms (row d) = true := seq_sm hs (seq_row h)
/-! ### lists of cells -/
theorem turns_cells {src : Sr} {ds : List D} {step : D → List D → Lh → Rs (List D)} {F : D → List D} (hl : ∀ h, src.len h = some ds.length) (ha : ∀ h i, i < ds.length → src.at h i = ds[i]?) (hs : ∀ d ∈ ds, ∀ acc h, step d acc h = .ok (acc ++ [.ref h.length]) (h ++ [.lst (F d)])) :
    ∀ (k : Nat) (acc : List D) (h : Lh), k ≤ ds.length → turns src step ds.length k acc h = .ok (acc ++ (List.range k).map fun i => .ref (h.length + i)) (h ++ (ds.drop (ds.length - k)).map fun d => .lst (F d))
  | 0, acc, h, _ => by
    unfold turns
    rw [if_pos (hl h), Nat.sub_zero, List.drop_length]
    simp
  | k + 1, acc, h, hk => by
    have hi : ds.length - (k + 1) < ds.length := by omega
    have e1 : src.at h (ds.length - (k + 1)) = some ds[ds.length - (k + 1)] := by
      rw [ha h _ hi, List.getElem?_eq_getElem hi]
    unfold turns
    rw [if_pos (hl h), e1]
    dsimp only
    rw [hs _ (List.getElem_mem hi)]
    show turns src step ds.length k (acc ++ [.ref h.length]) (h ++ [.lst (F ds[ds.length - (k + 1)])]) = _
    rw [turns_cells hl ha hs k _ _ (by omega)]
    have e2 : ds.drop (ds.length - (k + 1)) = ds[ds.length - (k + 1)] :: ds.drop (ds.length - k) := by
      rw [List.drop_eq_getElem_cons hi]
      congr 1
      congr 1
      omega
    rw [e2, List.map_cons, List.append_assoc, List.append_assoc, List.range_succ_eq_map, List.map_cons, List.map_map]
    congr 1
    congr 1
    show D.ref h.length :: _ = _
    congr 1
    apply List.map_congr_left
    intro i _
    show D.ref _ = D.ref _
    congr 1
    rw [List.length_append]
    show h.length + 1 + i = h.length + (i + 1)
    omega
/-- a list of lists, all made anew -/
def gridH (h : Lh) (rs : List (List D)) : Lh := h ++ rs.map .lst ++ [.lst ((List.range rs.length).map fun i => .ref (h.length + i))]
def gridR (h : Lh) (rs : List (List D)) : D := .ref (h.length + rs.length)
/-- a source that stays, whatever the heap -/
theorem comp_cells {cx : Cx} {env : Env} {own : List Nat} {t : Tg} {it : It} {e : E} {h : Lh} {src : Sr} {ds : List D} (F : D → List D) (hi : it.ev cx env h = .ok src h) (hl : ∀ h, src.len h = some ds.length) (ha : ∀ h i, i < ds.length → src.at h i = ds[i]?) (hn : ds.length ≤ lim)
    (hs : ∀ d ∈ ds, ∀ acc h, compStep cx env own t .no e d acc h = .ok (acc ++ [.ref h.length]) (h ++ [.lst (F d)])) : (E.comp false own t it .no e).ev cx env h = .ok (gridR h (ds.map F)) (gridH h (ds.map F)) := by
  show (it.ev cx env h).bind (fun src h => match src.len h with
    | some n => if n ≤ lim then (turns src (compStep cx env own t .no e) n n [] h).bind fun ds h => fin false (some (.l ds)) h else .stuck
    | none => .stuck) = _
  rw [hi]
  show (match src.len h with
    | some n => if n ≤ lim then (turns src (compStep cx env own t .no e) n n [] h).bind fun ds h => fin false (some (.l ds)) h else .stuck
    | none => .stuck) = _
  rw [hl h]
  dsimp only
  rw [if_pos hn, turns_cells hl ha hs ds.length [] h (Nat.le_refl _), Nat.sub_self, List.drop_zero]
  show Rs.ok (D.ref _) _ = _
  unfold gridR gridH
  rw [List.nil_append, List.length_append, List.length_map, List.length_map, List.map_map]
  rfl
/-- .. each one by an inner list -/
theorem step_cell {cx : Cx} {env : Env} {own : List Nat} {i : Nat} {e : E} {h : Lh} {d : D} {ds : List D} (acc : List D) (he : e.ev cx ((wipe env own).set i (some d)) h = .ok (.ref h.length) (h ++ [.lst ds])) : compStep cx env own (.nm i) .no e d acc h = .ok (acc ++ [.ref h.length]) (h ++ [.lst ds]) := by
  unfold compStep
  show noexc ((e.ev cx ((wipe env own).set i (some d)) h).bind fun x h => .ok (acc ++ [x]) h) = _
  rw [he]; rfl
theorem rng_len (lo st : Int) (n : Nat) (h : Lh) : (Sr.rng lo st n).len h = some n := rfl
def natD : D → Nat
  | .int j => j.toNat
  | _ => 0
def iotaD (n : Nat) : List D := (List.range n).map fun i => D.int (i : Nat)
theorem iota_len (n : Nat) : (iotaD n).length = n := by simp [iotaD]
theorem iota_get {n i : Nat} {d : D} (h : (iotaD n)[i]? = some d) : i < n ∧ d = .int i := by
  have hi : i < n := by
    have := (List.getElem?_eq_some_iff.mp h).1
    rwa [iota_len] at this
  unfold iotaD at h
  rw [List.getElem?_map, List.getElem?_range hi] at h
  exact ⟨hi, by cases h; rfl⟩
theorem rng_at {n : Nat} {h : Lh} {i : Nat} (hi : i < n) : (Sr.rng 0 1 n).at h i = (iotaD n)[i]? := by
  unfold iotaD
  rw [List.getElem?_map, List.getElem?_range hi]
  show some (D.int (0 + i * 1)) = some (D.int i)
  congr 2; omega
theorem seq_vw2 {d : D} {ds : List D} (e : seqD d = some ds) : ∃ k, ∀ h, vw h d = some (k, ds) := by
  cases d <;> first
    | (cases e; done)
    | (cases e; exact ⟨_, fun _ => rfl⟩)
theorem seq_len {d : D} {ds : List D} (e : seqD d = some ds) (h : Lh) : (Sr.seq d).len h = some ds.length := by
  obtain ⟨k, hk⟩ := seq_vw2 e
  show (vw h d).map _ = _
  rw [hk]; rfl
theorem seq_at {d : D} {ds : List D} (e : seqD d = some ds) (h : Lh) (i : Nat) : (Sr.seq d).at h i = ds[i]? := by
  obtain ⟨k, hk⟩ := seq_vw2 e
  show (vw h d).bind _ = _
  rw [hk]; rfl
/-! ### loops -/
theorem fors_inv {src : Sr} {ds : List D} {step : D → Env → Lh → Rf} {Inv : Nat → Env → Lh → Prop} (hl : ∀ h, src.len h = some ds.length) (ha : ∀ h i, i < ds.length → src.at h i = ds[i]?)
    (hs : ∀ i d s h, ds[i]? = some d → Inv i s h → ∃ s' h', Inv (i + 1) s' h' ∧ step d s h = .ok (.nx s') h') :
    ∀ (k : Nat) (s : Env) (h : Lh), k ≤ ds.length → Inv (ds.length - k) s h → ∃ s' h', Inv ds.length s' h' ∧ fors src step ds.length k s h = .ok (.nx s') h'
  | 0, s, h, _, hi => ⟨s, h, (by simpa using hi), (by
    unfold fors
    rw [if_pos (hl h)])⟩
  | k + 1, s, h, hk, hi => by
    have hi' : ds.length - (k + 1) < ds.length := by omega
    obtain ⟨s1, h1, hi1, e1⟩ := hs (ds.length - (k + 1)) _ s h (List.getElem?_eq_getElem hi') hi
    rw [show ds.length - (k + 1) + 1 = ds.length - k by omega] at hi1
    obtain ⟨s2, h2, hi2, e2⟩ := fors_inv hl ha hs k s1 h1 (by omega) hi1
    refine ⟨s2, h2, hi2, ?_⟩
    unfold fors
    rw [if_pos (hl h), ha h _ hi', List.getElem?_eq_getElem hi']
    dsimp only
    rw [e1]
    exact e2
/-- a loop that goes on or hands back one value -/
theorem fors_ret {src : Sr} {ds : List D} {step : D → Env → Lh → Rf} {I : Env → Prop} {P : D → Bool} {v : D} {h : Lh} (hl : src.len h = some ds.length) (ha : ∀ i, i < ds.length → src.at h i = ds[i]?)
    (hs : ∀ d ∈ ds, ∀ s, I s → if P d = true then ∃ s', I s' ∧ step d s h = .ok (.nx s') h else step d s h = .ok (.rt v) h) :
    ∀ (k : Nat) (s : Env), k ≤ ds.length → I s → if (ds.drop (ds.length - k)).all P = true then ∃ s', I s' ∧ fors src step ds.length k s h = .ok (.nx s') h else fors src step ds.length k s h = .ok (.rt v) h
  | 0, s, _, hi => by
    rw [Nat.sub_zero, List.drop_length, if_pos (by rfl)]
    refine ⟨s, hi, ?_⟩
    unfold fors
    rw [if_pos hl]
  | k + 1, s, hk, hi => by
    have hi' : ds.length - (k + 1) < ds.length := by omega
    have e2 : ds.drop (ds.length - (k + 1)) = ds[ds.length - (k + 1)] :: ds.drop (ds.length - k) := by
      rw [List.drop_eq_getElem_cons hi']
      congr 1
      congr 1
      omega
    have st := hs _ (List.getElem_mem hi') s hi
    have un : fors src step ds.length (k + 1) s h = (step ds[ds.length - (k + 1)] s h).turn fun s h => fors src step ds.length k s h := by
      conv => lhs; unfold fors
      rw [if_pos hl, ha _ hi', List.getElem?_eq_getElem hi']
    rw [e2, List.all_cons, un]
    cases p : P ds[ds.length - (k + 1)] with
    | false =>
      rw [p, if_neg (by decide)] at st
      rw [Bool.false_and, if_neg (by decide), st]
      rfl
    | true =>
      rw [p, if_pos rfl] at st
      obtain ⟨s1, hi1, e1⟩ := st
      rw [Bool.true_and, e1]
      exact fors_ret hl ha hs k s1 (by omega) hi1
def forStep (cx : Cx) (t : Tg) (b : Ss) (d : D) (s : Env) (h : Lh) : Rf := (noexc (t.as cx s d h)).at s fun s h => b.ev cx s h
theorem fr_ev {cx : Cx} {t : Tg} {it : It} {b : Ss} {s : Env} {h : Lh} {src : Sr} {n : Nat} (hi : it.ev cx s h = .ok src h) (hl : src.len h = some n) : (S.fr t it b).ev cx s h = fors src (forStep cx t b) n n s h := by
  show (it.ev cx s h).at s (fun src h => match src.len h with
    | some n => fors src (forStep cx t b) n n s h
    | none => .stuck) = _
  rw [hi]
  show (match src.len h with
    | some n => fors src (forStep cx t b) n n s h
    | none => .stuck) = _
  rw [hl]
theorem fr_ret {cx : Cx} {t : Tg} {it : It} {b : Ss} {s : Env} {h : Lh} {src : Sr} {ds : List D} {I : Env → Prop} {P : D → Bool} {v : D} (hi : it.ev cx s h = .ok src h) (hd : src.items h = some ds) (h0 : I s)
    (hs : ∀ d ∈ ds, ∀ s, I s → if P d = true then ∃ s', I s' ∧ forStep cx t b d s h = .ok (.nx s') h else forStep cx t b d s h = .ok (.rt v) h) :
    if ds.all P = true then ∃ s', I s' ∧ (S.fr t it b).ev cx s h = .ok (.nx s') h else (S.fr t it b).ev cx s h = .ok (.rt v) h := by
  obtain ⟨k1, k2⟩ := items_ok hd
  rw [fr_ev hi k1]
  have := fors_ret k1 (fun i hi => (k2 i).resolve_right (by omega)) hs ds.length s (Nat.le_refl _) h0
  rw [Nat.sub_self, List.drop_zero] at this
  exact this
theorem fr_inv {cx : Cx} {t : Tg} {it : It} {b : Ss} {s : Env} {h : Lh} {src : Sr} {ds : List D} {Inv : Nat → Env → Lh → Prop} (hi : it.ev cx s h = .ok src h) (hl : ∀ h, src.len h = some ds.length) (ha : ∀ h i, i < ds.length → src.at h i = ds[i]?) (h0 : Inv 0 s h)
    (hs : ∀ i d s h, ds[i]? = some d → Inv i s h → ∃ s' h', Inv (i + 1) s' h' ∧ forStep cx t b d s h = .ok (.nx s') h') : ∃ s' h', Inv ds.length s' h' ∧ (S.fr t it b).ev cx s h = .ok (.nx s') h' := by
  rw [fr_ev hi (hl h)]
  exact fors_inv hl ha hs ds.length s h (Nat.le_refl _) (by rw [Nat.sub_self]; exact h0)
/-! ### calls with a lent box -/
theorem box_call {c : Nat → List D → Lh → Rs D} {f k : Nat} {rest ds ds' : List D} {d d' : D} {h h1 : Lh} (hr : nrefs rest = true) (hh : h[k]? = some (.lst ds)) (n1 : nrefs ds = true) (e : c f (.ref 0 :: rest) [.lst ds] = .ok d (.lst ds' :: h1)) (n2 : nrefs ds' = true) (ht : thaw (.gone :: h1) deep d = some d') :
    callBox c f (.ref k :: rest) h = .ok d' (h.set k (.lst ds')) := by
  unfold callBox
  dsimp only
  rw [if_pos hr, hh]
  dsimp only
  rw [if_pos n1, e]
  dsimp only
  rw [if_pos n2, ht]
theorem run_env {p : Pg} {n f : Nat} {fd : Fd} {as : List D} {h : Lh} {env : Env} (e : p.fds[f]? = some fd) (hl : as.length = fd.np) (he : startE fd.ns as = env) : run p (n + 1) f as h = (fd.body.ev ⟨run p n, p.loop, p.sub⟩ env h).res := by
  rw [run_succ e hl, he]
/-! ### a list of lists over the heap -/
theorem thawF_lst {H : Lh} {n k : Nat} {ds es : List D} (hk : H[k]? = some (.lst ds)) (hb : bindRefs (thawF H n) ds = some es) : thawF H (n + 1) k = some (.lst es) := by
  unfold thawF
  rw [hk]
  dsimp only
  rw [hb]; rfl
theorem binds_refs {H : Lh} {n : Nat} : ∀ {rs : List (List D)} {b : Nat}, (∀ i (hi : i < rs.length), H[b + i]? = some (.lst rs[i])) → (∀ r ∈ rs, nrefs r = true) → bindRefs (thawF H (n + 1)) ((List.range rs.length).map fun i => .ref (b + i)) = some (rs.map .lst)
  | [], _, _, _ => rfl
  | r :: rs, b, hc, hn => by
    have h0 : thawF H (n + 1) b = some (.lst r) := thawF_lst (hc 0 (by simp)) (binds_nref _ _ (hn r List.mem_cons_self))
    have ih := binds_refs (H := H) (n := n) (rs := rs) (b := b + 1) (fun i hi => by
      have := hc (i + 1) (by simpa using hi)
      rw [show b + 1 + i = b + (i + 1) by omega, this]; rfl) (fun x hx => hn x (List.mem_cons_of_mem _ hx))
    rw [List.length_cons, List.range_succ_eq_map, List.map_cons, List.map_map]
    show (thawF H (n + 1) b).bind (fun d' => (bindRefs (thawF H (n + 1)) ((List.range rs.length).map ((fun i => D.ref (b + i)) ∘ Nat.succ))).map (d' :: ·)) = _
    have e2 : ((fun i => D.ref (b + i)) ∘ Nat.succ) = fun i => D.ref (b + 1 + i) := by
      funext i
      show D.ref (b + (i + 1)) = D.ref (b + 1 + i)
      congr 1; omega
    rw [h0, e2]
    show (bindRefs (thawF H (n + 1)) ((List.range rs.length).map fun i => D.ref (b + 1 + i))).map _ = _
    rw [ih]; rfl
structure GridAt (H : Lh) (r : D) (rs : List (List D)) : Prop where
  ex : ∃ b g, b + rs.length ≤ g ∧ r = .ref g ∧ H[g]? = some (.lst ((List.range rs.length).map fun i => .ref (b + i))) ∧ ∀ i (hi : i < rs.length), H[b + i]? = some (.lst rs[i])
theorem grid_new (h : Lh) (rs : List (List D)) : GridAt (gridH h rs) (gridR h rs) rs := by
  refine ⟨h.length, h.length + rs.length, Nat.le_refl _, rfl, ?_, fun i hi => ?_⟩
  · unfold gridH
    rw [List.getElem?_append_right (by simp)]
    simp
  · unfold gridH
    rw [List.getElem?_append_left (by simp; omega), List.getElem?_append_right (by omega)]
    rw [show h.length + i - h.length = i by omega, List.getElem?_map, List.getElem?_eq_getElem hi]; rfl
theorem GridAt.push {H : Lh} {r : D} {rs : List (List D)} (g : GridAt H r rs) (o : O) : GridAt (H ++ [o]) r rs := by
  obtain ⟨b, g, l, e, h1, h2⟩ := g.ex
  have lt : ∀ {k : Nat} {x : O}, H[k]? = some x → (H ++ [o])[k]? = some x := fun {k x} hk => by
    rw [List.getElem?_append_left (List.getElem?_eq_some_iff.mp hk).1]; exact hk
  exact ⟨b, g, l, e, lt h1, fun i hi => lt (h2 i hi)⟩
theorem GridAt.thaw {H : Lh} {r : D} {rs : List (List D)} (g : GridAt H r rs) (hn : ∀ r ∈ rs, nrefs r = true) (n : Nat) : r.bindRef (thawF H (n + 3)) = some (.lst (rs.map .lst)) := by
  obtain ⟨b, g, _, rfl, h1, h2⟩ := g.ex
  exact thawF_lst h1 (binds_refs h2 hn)
/-! ### matrices -/
def sq (k : Bool) (ds : List D) : D := if k then .tup ds else .lst ds
theorem seq_sq (k : Bool) (ds : List D) : seqD (sq k ds) = some ds := by cases k <;> rfl
theorem isSeq_sq (k : Bool) (ds : List D) : isSeq (sq k ds) = true := by cases k <;> rfl
theorem row_sq (k : Bool) (ds : List D) : row (sq k ds) = ds := by cases k <;> rfl
theorem vw_sq (h : Lh) (k : Bool) (ds : List D) : vw h (sq k ds) = some (k, ds) := by cases k <;> rfl
theorem sm_sq (k : Bool) (ds : List D) : (sq k ds).sm = (decide (ds.length ≤ 100000) && sms ds) := by cases k <;> rfl
theorem nx_sq (k : Bool) (ds : List D) : nx (sq k ds) = true := by cases k <;> rfl
theorem sms_of {ds : List D} (h : ∀ d ∈ ds, d.sm = true) : sms ds = true := by
  induction ds with
  | nil => rfl
  | cons d ds ih =>
    show (d.sm && sms ds) = true
    rw [h d List.mem_cons_self, ih fun x hx => h x (List.mem_cons_of_mem _ hx)]; rfl
theorem sq_sm (k : Bool) {ds : List D} (hl : ds.length ≤ 100000) (h : ∀ d ∈ ds, d.sm = true) : (sq k ds).sm = true := by
  rw [sm_sq, decide_eq_true hl, sms_of h]; rfl
def mat (k : Bool) (m : List (List D)) : D := sq k (m.map (sq k))
structure Rect (m : List (List D)) (w : Nat) : Prop where
  l1 : 1 ≤ m.length
  l2 : m.length ≤ 20
  w1 : 1 ≤ w
  w2 : w ≤ 20
  hr : ∀ r ∈ m, r.length = w ∧ ∀ x ∈ r, isNum x = true
theorem num_sm {x : D} (h : isNum x = true) : x.sm = true := by cases x <;> first | rfl | cases h
theorem num_nx {x : D} (h : isNum x = true) : nx x = true := by cases x <;> first | rfl | cases h
theorem Rect.row_sm {m : List (List D)} {w : Nat} (r : Rect m w) (k : Bool) : ∀ x ∈ m, (sq k x).sm = true := fun x hx =>
  sq_sm k (by have := r.w2; rw [(r.hr x hx).1]; omega) fun d hd => num_sm ((r.hr x hx).2 d hd)
theorem Rect.sm {m : List (List D)} {w : Nat} (r : Rect m w) (k : Bool) : (mat k m).sm = true :=
  sq_sm k (by have := r.l2; rw [List.length_map]; omega) fun d hd => by
    obtain ⟨x, hx, rfl⟩ := List.mem_map.mp hd
    exact r.row_sm k x hx
theorem item_sq {h : Lh} (k : Bool) {ds : List D} {j : Nat} (hj : j < ds.length) (hb : ds.length ≤ 100000) : item h (sq k ds) (.int j) = some ds[j] := by
  rw [item_seq (k := j) (seq_sq k ds) (decide_eq_true (by omega)) (place_nat hj), List.getElem?_eq_getElem hj]
theorem item_mat {h : Lh} (k : Bool) {m : List (List D)} {w j : Nat} (r : Rect m w) (hj : j < m.length) : item h (mat k m) (.int j) = some (sq k m[j]) := by
  unfold mat
  rw [item_sq k (by simpa using hj) (by have := r.l2; rw [List.length_map]; omega), List.getElem_map]
theorem len_sq (h : Lh) (k : Bool) (ds : List D) : bfn h .len [sq k ds] = some (.v (.int ds.length)) := len_seq (seq_sq k ds)
theorem len_mat (h : Lh) (k : Bool) (m : List (List D)) : bfn h .len [mat k m] = some (.v (.int m.length)) := by
  unfold mat
  rw [len_sq, List.length_map]
theorem BoxAt.nref {N : Int} {ds : List D} (h : BoxAt N ds) : nrefs ds = true := by
  obtain ⟨b, g, m, c, rfl, _⟩ := h.ex
  rfl
end TB

end

section
set_option Elab.async false
set_option linter.all false
set_option maxRecDepth 100000
set_option maxHeartbeats 2000000
namespace TB
open PySem
/-! ### comprehensions that draw -/
theorem turns_draws {src : Sr} {ds : List D} {step : D → List D → Lh → Rs (List D)} {Inv : Nat → Lh → Prop} {V : D → D → Prop} (hl : ∀ h, src.len h = some ds.length) (ha : ∀ h i, i < ds.length → src.at h i = ds[i]?)
    (hs : ∀ i d acc h, ds[i]? = some d → Inv i h → ∃ v h', V d v ∧ Inv (i + 1) h' ∧ step d acc h = .ok (acc ++ [v]) h') :
    ∀ (k : Nat) (acc : List D) (h : Lh), k ≤ ds.length → Inv (ds.length - k) h → ∃ vs h', vs.length = k ∧ (∀ i d v, ds[ds.length - k + i]? = some d → vs[i]? = some v → V d v) ∧ Inv ds.length h' ∧ turns src step ds.length k acc h = .ok (acc ++ vs) h'
  | 0, acc, h, _, hi => ⟨[], h, rfl, (fun i d v _ m => by cases m), (by simpa using hi), (by
    unfold turns
    rw [if_pos (hl h), List.append_nil])⟩
  | k + 1, acc, h, hk, hi => by
    have hi' : ds.length - (k + 1) < ds.length := by omega
    obtain ⟨v, h1, hv, hi1, e1⟩ := hs (ds.length - (k + 1)) _ acc h (List.getElem?_eq_getElem hi') hi
    rw [show ds.length - (k + 1) + 1 = ds.length - k by omega] at hi1
    obtain ⟨vs, h2, l2, hvs, hi2, e2⟩ := turns_draws hl ha hs k (acc ++ [v]) h1 (by omega) hi1
    refine ⟨v :: vs, h2, by simp [l2], fun i d w hd hw => ?_, hi2, ?_⟩
    · cases i with
      | zero =>
        cases hw
        rw [Nat.add_zero, List.getElem?_eq_getElem hi'] at hd
        cases hd
        exact hv
      | succ i =>
        refine hvs i d w ?_ hw
        rw [← hd]
        congr 1
        omega
    · unfold turns
      rw [if_pos (hl h), ha h _ hi', List.getElem?_eq_getElem hi']
      dsimp only
      rw [e1]
      show turns src step ds.length k (acc ++ [v]) h1 = _
      rw [e2, List.append_assoc]
      rfl
theorem comp_draws {cx : Cx} {env : Env} {own : List Nat} {t : Nat} {it : It} {e : E} {h : Lh} {src : Sr} {ds : List D} (Inv : Nat → Lh → Prop) (V : D → D → Prop) (hi : it.ev cx env h = .ok src h) (hl : ∀ h, src.len h = some ds.length) (ha : ∀ h i, i < ds.length → src.at h i = ds[i]?) (hn : ds.length ≤ lim) (h0 : Inv 0 h)
    (hs : ∀ i d h, ds[i]? = some d → Inv i h → ∃ v h', V d v ∧ Inv (i + 1) h' ∧ e.ev cx ((wipe env own).set t (some d)) h = .ok v h') :
    ∃ (vs : List D) (h' : Lh), vs.length = ds.length ∧ (∀ (i : Nat) (d v : D), ds[i]? = some d → vs[i]? = some v → V d v) ∧ Inv ds.length h' ∧ (E.comp true own (.nm t) it .no e).ev cx env h = .ok (.lst vs) h' := by
  obtain ⟨vs, h', l, hv, hi', ev⟩ := turns_draws (src := src) (ds := ds) (step := compStep cx env own (.nm t) .no e) (Inv := Inv) (V := V) hl ha (fun i d acc h hd hI => by
    obtain ⟨v, h', a, b, c⟩ := hs i d h hd hI
    refine ⟨v, h', a, b, ?_⟩
    unfold compStep
    show noexc ((e.ev cx ((wipe env own).set t (some d)) h).bind fun x h => .ok (acc ++ [x]) h) = _
    rw [c]; rfl) ds.length [] h (Nat.le_refl _) (by rw [Nat.sub_self]; exact h0)
  refine ⟨vs, h', l, fun i d v hd hw => hv i d v (by rw [Nat.sub_self, Nat.zero_add]; exact hd) hw, hi', ?_⟩
  show (it.ev cx env h).bind (fun src h => match src.len h with
    | some n => if n ≤ lim then (turns src (compStep cx env own (.nm t) .no e) n n [] h).bind fun ds h => fin true (some (.l ds)) h else .stuck
    | none => .stuck) = _
  rw [hi]
  show (match src.len h with
    | some n => if n ≤ lim then (turns src (compStep cx env own (.nm t) .no e) n n [] h).bind fun ds h => fin true (some (.l ds)) h else .stuck
    | none => .stuck) = _
  rw [hl h]
  dsimp only
  rw [if_pos hn, ev]
  rfl
/-! ### parts of trees -/
theorem sms_app {a b : List D} (ha : sms a = true) (hb : sms b = true) : sms (a ++ b) = true := sms_of fun d hd => by
  rcases List.mem_append.mp hd with h | h
  · exact sm_mem ha d h
  · exact sm_mem hb d h
theorem cut_mem {α : Type} {xs : List α} {lo hi : Option Int} {x : α} (h : x ∈ cutL xs lo hi) : x ∈ xs := List.mem_of_mem_drop (List.mem_of_mem_take h)
theorem cut_len {α : Type} (xs : List α) (lo hi : Option Int) : (cutL xs lo hi).length ≤ xs.length := by
  unfold cutL
  rw [List.length_take, List.length_drop]
  omega
theorem cut_sms {xs : List D} {lo hi : Option Int} (h : sms xs = true) : sms (cutL xs lo hi) = true := sms_of fun d hd => sm_mem h d (cut_mem hd)
theorem lst_sm {ds : List D} (hl : ds.length ≤ 100000) (h : sms ds = true) : (D.lst ds).sm = true := sq_sm false hl (sm_mem h)
theorem tup_sm {ds : List D} (hl : ds.length ≤ 100000) (h : sms ds = true) : (D.tup ds).sm = true := sq_sm true hl (sm_mem h)
theorem sms_cons {d : D} {ds : List D} (h : d.sm = true) (h2 : sms ds = true) : sms (d :: ds) = true := by
  show (d.sm && sms ds) = true
  rw [h, h2]; rfl
theorem bop_addl (h : Lh) {a b : List D} (hl : a.length + b.length ≤ lim) : bop h .add (.lst a) (.lst b) = some (.l (a ++ b)) := by
  show (if a.length + b.length ≤ lim then some (P.l (a ++ b)) else none) = _
  rw [if_pos hl]
theorem slice_lst (h : Lh) (ds : List D) (a b : Option Int) : slice h (.lst ds) a b = some (.l (cutL ds a b)) := rfl
theorem item_lst {h : Lh} {ds : List D} {i : Int} (h0 : 0 ≤ i) (h1 : i < ds.length) (hb : ds.length ≤ 100000) : ∃ d ∈ ds, item h (.lst ds) (.int i) = some d := by
  obtain ⟨k, rfl⟩ := Int.eq_ofNat_of_zero_le h0
  have hk : k < ds.length := by omega
  exact ⟨ds[k], List.getElem_mem hk, item_sq false hk hb⟩
theorem intsOf_map : ∀ ns : List Int, intsOf (ns.map .int) = some ns
  | [] => rfl
  | i :: ns => by
    show (some i).bind (fun i => (intsOf (ns.map .int)).map (i :: ·)) = _
    rw [intsOf_map ns]; rfl
theorem cut_map {α β : Type} (f : α → β) (xs : List α) (a b : Option Int) : cutL (xs.map f) a b = (cutL xs a b).map f := by
  unfold cutL
  rw [List.length_map, List.map_take, List.map_drop]
theorem bfn_len_lst (h : Lh) (ds : List D) : bfn h .len [.lst ds] = some (.v (.int ds.length)) := rfl
/-- while .. != [] -/
theorem ne_ref_nil {h : Lh} {k : Nat} {ds : List D} (e : h[k]? = some (.lst ds)) : cop h .ne (.ref k) (.lst []) = some (!ds.isEmpty) := by
  cases ds with
  | nil =>
    have ht : thaw h deep (.ref k) = some (.lst []) := thawF_lst e rfl
    have hu : unlike h (.ref k) (.lst []) = false := by
      show (match (match h[k]? with
        | some (.lst ds) => some (false, ds)
        | _ => none), some (false, ([] : List D)) with
        | some (false, a), some (false, b) => a.length != b.length
        | _, _ => false) = false
      rw [e]; rfl
    show (if unlike h (.ref k) (.lst []) then some false else match thaw h deep (.ref k), thaw h deep (.lst []) with
      | some a, some b => match a.py, b.py with
        | some p, some q => if SeqAt.shaped p && SeqAt.shaped q then some (PyData.eqv p q) else none
        | _, _ => none
      | _, _ => none).map (!·) = _
    rw [hu, ht]
    rfl
  | cons d ds =>
    have hu : unlike h (.ref k) (.lst []) = true := by
      show (match (match h[k]? with
        | some (.lst ds) => some (false, ds)
        | _ => none), some (false, ([] : List D)) with
        | some (false, a), some (false, b) => a.length != b.length
        | _, _ => false) = true
      rw [e]; rfl
    show (if unlike h (.ref k) (.lst []) then some false else _).map (!·) = _
    rw [hu]
    rfl
end TB

end

section
set_option Elab.async false
set_option linter.all false
set_option maxRecDepth 100000
set_option maxHeartbeats 1000000
namespace TB
open PySem
/-! ### numbers and nothing; greatest and least ones -/
def d2o : D → Option Int
  | .int i => some i
  | _ => none
def o2d : Option Int → D
  | some i => .int i
  | none => .non
theorem o2d_d2o {x : D} (h : isNum x = true) : o2d (d2o x) = x := by cases x <;> first | rfl | cases h
theorem o2d_num (o : Option Int) : isNum (o2d o) = true := by cases o <;> rfl
def addD : D → D → D
  | .int i, .int j => .int (i + j)
  | _, _ => .non
theorem addD_num (x y : D) : isNum (addD x y) = true := by cases x <;> cases y <;> rfl
def known (ds : List D) : List Int := ds.filterMap d2o
def mxI : List Int → Option Int
  | [] => none
  | i :: r => some (maxI i r)
def mnI : List Int → Option Int
  | [] => none
  | i :: r => some (minI i r)
def most (ds : List D) : D := o2d (mxI (known ds))
theorem most_num (ds : List D) : isNum (most ds) = true := o2d_num _
theorem maxI_up : ∀ (r : List Int) (m : Int), m ≤ maxI m r ∧ ∀ x ∈ r, x ≤ maxI m r
  | [], m => ⟨Int.le_refl _, fun x hx => by cases hx⟩
  | i :: r, m => by
    obtain ⟨h1, h2⟩ := maxI_up r (if i > m then i else m)
    have e : maxI m (i :: r) = maxI (if i > m then i else m) r := rfl
    rw [e]
    have k1 : m ≤ (if i > m then i else m) ∧ i ≤ (if i > m then i else m) := by split <;> omega
    refine ⟨Int.le_trans k1.1 h1, fun x hx => ?_⟩
    rcases List.mem_cons.mp hx with rfl | hx
    · exact Int.le_trans k1.2 h1
    · exact h2 x hx
theorem maxI_in : ∀ (r : List Int) (m : Int), maxI m r = m ∨ maxI m r ∈ r
  | [], m => .inl rfl
  | i :: r, m => by
    have e : maxI m (i :: r) = maxI (if i > m then i else m) r := rfl
    rw [e]
    rcases maxI_in r (if i > m then i else m) with h | h
    · rw [h]
      split
      · exact .inr List.mem_cons_self
      · exact .inl rfl
    · exact .inr (List.mem_cons_of_mem _ h)
theorem minI_dn : ∀ (r : List Int) (m : Int), minI m r ≤ m ∧ ∀ x ∈ r, minI m r ≤ x
  | [], m => ⟨Int.le_refl _, fun x hx => by cases hx⟩
  | i :: r, m => by
    obtain ⟨h1, h2⟩ := minI_dn r (if i < m then i else m)
    have e : minI m (i :: r) = minI (if i < m then i else m) r := rfl
    rw [e]
    have k1 : (if i < m then i else m) ≤ m ∧ (if i < m then i else m) ≤ i := by split <;> omega
    refine ⟨Int.le_trans h1 k1.1, fun x hx => ?_⟩
    rcases List.mem_cons.mp hx with rfl | hx
    · exact Int.le_trans h1 k1.2
    · exact h2 x hx
theorem minI_in : ∀ (r : List Int) (m : Int), minI m r = m ∨ minI m r ∈ r
  | [], m => .inl rfl
  | i :: r, m => by
    have e : minI m (i :: r) = minI (if i < m then i else m) r := rfl
    rw [e]
    rcases minI_in r (if i < m then i else m) with h | h
    · rw [h]
      split
      · exact .inr List.mem_cons_self
      · exact .inl rfl
    · exact .inr (List.mem_cons_of_mem _ h)
theorem mxI_some {l : List Int} {m : Int} (h : mxI l = some m) : m ∈ l ∧ ∀ x ∈ l, x ≤ m := by
  cases l with
  | nil => cases h
  | cons i r =>
    cases h
    obtain ⟨h1, h2⟩ := maxI_up r i
    refine ⟨?_, fun x hx => ?_⟩
    · rcases maxI_in r i with h | h
      · rw [h]; exact List.mem_cons_self
      · exact List.mem_cons_of_mem _ h
    · rcases List.mem_cons.mp hx with rfl | hx
      · exact h1
      · exact h2 x hx
theorem mnI_some {l : List Int} {m : Int} (h : mnI l = some m) : m ∈ l ∧ ∀ x ∈ l, m ≤ x := by
  cases l with
  | nil => cases h
  | cons i r =>
    cases h
    obtain ⟨h1, h2⟩ := minI_dn r i
    refine ⟨?_, fun x hx => ?_⟩
    · rcases minI_in r i with h | h
      · rw [h]; exact List.mem_cons_self
      · exact List.mem_cons_of_mem _ h
    · rcases List.mem_cons.mp hx with rfl | hx
      · exact h1
      · exact h2 x hx
theorem mxI_of {l : List Int} {x : Int} (h : x ∈ l) : ∃ m, mxI l = some m := by
  cases l with
  | nil => cases h
  | cons i r => exact ⟨_, rfl⟩
theorem mnI_of {l : List Int} {x : Int} (h : x ∈ l) : ∃ m, mnI l = some m := by
  cases l with
  | nil => cases h
  | cons i r => exact ⟨_, rfl⟩
theorem known_mem {ds : List D} {i : Int} : i ∈ known ds ↔ D.int i ∈ ds := by
  unfold known
  rw [List.mem_filterMap]
  constructor
  · rintro ⟨d, hd, e⟩
    cases d <;> first
      | (cases e; exact hd)
      | cases e
  · intro h
    exact ⟨_, h, rfl⟩
/-! ### the order with nothing below all -/
def overD (x y : D) : Bool := match x, y with
  | .int i, .int j => decide (j < i)
  | .int _, _ => true
  | _, _ => false
theorem overD_self (x : D) : overD x x = false := by
  cases x <;> first
    | rfl
    | skip
  show decide (_ < _) = false
  exact decide_eq_false (by omega)
theorem overD_int {i : Int} {y : D} (h : overD (.int i) y = false) : ∃ j, y = .int j ∧ i ≤ j := by
  cases y <;> first
    | (cases h; done)
    | skip
  rename_i j
  have h : decide (j < i) = false := h
  exact ⟨j, rfl, by have := of_decide_eq_false h; omega⟩
theorem overD_le {i j : Int} (h : i ≤ j) : overD (.int i) (.int j) = false := decide_eq_false (by omega)
/-! ### products of rows -/
def dot (r v : List D) : D := most (List.zipWith addD r v)
def appl (m : List (List D)) (v : List D) : List D := m.map fun r => dot r v
theorem zipWith_mem {r v : List D} {x : D} (h : x ∈ List.zipWith addD r v) : ∃ (j : Nat) (a b : D), r[j]? = some a ∧ v[j]? = some b ∧ x = addD a b := by
  obtain ⟨j, hj⟩ := List.mem_iff_getElem?.mp h
  rw [List.getElem?_zipWith] at hj
  cases ha : r[j]? with
  | none => rw [ha] at hj; cases hj
  | some a =>
    cases hb : v[j]? with
    | none => rw [ha, hb] at hj; cases hj
    | some b => rw [ha, hb] at hj; cases hj; exact ⟨j, a, b, ha, hb, rfl⟩
theorem dot_int {r v : List D} {s : Int} (h : dot r v = .int s) : ∃ (j : Nat) (a b : Int), r[j]? = some (.int a) ∧ v[j]? = some (.int b) ∧ s = a + b := by
  unfold dot most at h
  cases e : mxI (known (List.zipWith addD r v)) with
  | none => rw [e] at h; cases h
  | some m =>
    rw [e] at h
    cases h
    obtain ⟨j, a, b, ha, hb, hx⟩ := zipWith_mem (known_mem.mp (mxI_some e).1)
    cases a <;> cases b <;> first
      | (cases hx; done)
      | skip
    cases hx
    exact ⟨j, _, _, ha, hb, rfl⟩
theorem dot_ge {r v : List D} {j : Nat} {a b : Int} (ha : r[j]? = some (.int a)) (hb : v[j]? = some (.int b)) : ∃ s, dot r v = .int s ∧ a + b ≤ s := by
  have hm : a + b ∈ known (List.zipWith addD r v) := by
    apply known_mem.mpr
    apply List.mem_of_getElem? (i := j)
    rw [List.getElem?_zipWith, ha, hb]
    rfl
  obtain ⟨m, e⟩ := mxI_of hm
  exact ⟨m, by unfold dot most; rw [e]; rfl, (mxI_some e).2 _ hm⟩
/-! ### the greatest vector below -/
def difP (p : D × D) : Option Int := match p.1, p.2 with
  | .int a, .int b => some (b - a)
  | _, _ => none
def plcP (ps : List (D × D)) : D := if ps.isEmpty = true then .str "free" else if (ps.any fun p => isNon p.2) = true then .non else o2d (mnI (ps.filterMap difP))
def plc (c v : List D) : D := plcP ((c.zip v).filter fun p => !isNon p.1)
def plainD : D → D
  | .str _ => .non
  | d => d
def colD (m : List (List D)) (j : Nat) : List D := m.map fun r => (r[j]?).getD .non
def below (m : List (List D)) (w : Nat) (v : List D) : List D := (List.range w).map fun j => plc (colD m j) v
def plain (m : List (List D)) (w : Nat) (v : List D) : List D := (below m w v).map plainD
def okB (x b : D) : Bool := match b with
  | .str _ => true
  | b => !overD x b
theorem okB_self (b : D) : okB (plainD b) b = true := by
  cases b <;> first
    | rfl
    | exact congrArg (fun c => !c) (overD_self _)
theorem plc_kind (c v : List D) : (∃ s, plc c v = .str s) ∨ isNum (plc c v) = true := by
  unfold plc plcP
  split
  · exact .inl ⟨_, rfl⟩
  split
  · exact .inr rfl
  · exact .inr (o2d_num _)
theorem plainD_num {b : D} (h : (∃ s, b = .str s) ∨ isNum b = true) : isNum (plainD b) = true := by
  rcases h with ⟨s, rfl⟩ | h
  · rfl
  · cases b <;> first | rfl | cases h
theorem plain_num (m : List (List D)) (w : Nat) (v : List D) : ∀ x ∈ plain m w v, isNum x = true := fun x hx => by
  obtain ⟨b, hb, rfl⟩ := List.mem_map.mp hx
  obtain ⟨j, _, rfl⟩ := List.mem_map.mp hb
  exact plainD_num (plc_kind _ _)
theorem plain_len (m : List (List D)) (w : Nat) (v : List D) : (plain m w v).length = w := by simp [plain, below]
/-- what a column's place says -/
theorem plc_le {c v : List D} {i : Nat} {a : Int} {y : D} {b : Int} (hc : c[i]? = some (.int a)) (hv : v[i]? = some y) (ok : okB (.int b) (plc c v) = true) (hn : isNum y = true) : ∃ z, y = .int z ∧ a + b ≤ z := by
  have hp : (D.int a, y) ∈ (c.zip v).filter fun p => !isNon p.1 := List.mem_filter.mpr ⟨List.mem_of_getElem? (List.getElem?_zip_eq_some.mpr ⟨hc, hv⟩), rfl⟩
  unfold plc plcP at ok
  rw [if_neg (by
    intro e
    rw [List.isEmpty_iff.mp e] at hp
    cases hp)] at ok
  by_cases an : (((c.zip v).filter fun p => !isNon p.1).any fun p => isNon p.2) = true
  · rw [if_pos an] at ok
    cases ok
  · rw [if_neg an] at ok
    have ny : isNon y = false := by
      cases e : isNon y with
      | false => rfl
      | true => exact absurd (List.any_eq_true.mpr ⟨_, hp, e⟩) an
    cases y <;> first
      | (cases ny; done)
      | (cases hn; done)
      | skip
    rename_i z
    have hm : z - a ∈ ((c.zip v).filter fun p => !isNon p.1).filterMap difP := List.mem_filterMap.mpr ⟨_, hp, rfl⟩
    obtain ⟨t, e⟩ := mnI_of hm
    rw [e] at ok
    have ok : (!decide (t < b)) = true := ok
    have h1 := (mnI_some e).2 _ hm
    refine ⟨z, rfl, ?_⟩
    have : ¬ t < b := by simpa using ok
    omega
theorem plc_ge {c v : List D} {b : Int} (hv : ∀ x ∈ v, isNum x = true) (hc : ∀ x ∈ c, isNum x = true) (h : ∀ (i : Nat) (a : Int) (y : D), c[i]? = some (.int a) → v[i]? = some y → ∃ z, y = .int z ∧ a + b ≤ z) : okB (.int b) (plc c v) = true := by
  unfold plc plcP
  by_cases em : ((c.zip v).filter fun p => !isNon p.1).isEmpty = true
  · rw [if_pos em]; rfl
  rw [if_neg em]
  have all : ∀ p ∈ (c.zip v).filter fun p => !isNon p.1, ∃ a z, p = (.int a, .int z) ∧ a + b ≤ z := fun p hp => by
    obtain ⟨h1, h2⟩ := List.mem_filter.mp hp
    obtain ⟨x, y⟩ := p
    obtain ⟨i, hi⟩ := List.mem_iff_getElem?.mp h1
    obtain ⟨e1, e2⟩ := List.getElem?_zip_eq_some.mp hi
    have hx := hc x (List.mem_of_getElem? e1)
    cases x <;> first
      | (cases hx; done)
      | (cases h2; done)
      | skip
    obtain ⟨z, rfl, hz⟩ := h i _ y e1 e2
    exact ⟨_, z, rfl, hz⟩
  rw [if_neg (by
    intro an
    obtain ⟨p, hp, e⟩ := List.any_eq_true.mp an
    obtain ⟨a, z, rfl, _⟩ := all p hp
    cases e)]
  cases e : mnI (((c.zip v).filter fun p => !isNon p.1).filterMap difP) with
  | none =>
    exfalso
    cases ef : (c.zip v).filter fun p => !isNon p.1 with
    | nil => rw [ef] at em; exact em rfl
    | cons p ps =>
      obtain ⟨a, z, rfl, _⟩ := all p (by rw [ef]; exact List.mem_cons_self)
      have hm : z - a ∈ ((c.zip v).filter fun p => !isNon p.1).filterMap difP := List.mem_filterMap.mpr ⟨(.int a, .int z), by rw [ef]; exact List.mem_cons_self, rfl⟩
      obtain ⟨t, e2⟩ := mnI_of hm
      rw [e] at e2
      cases e2
  | some t =>
    obtain ⟨p, hp, e2⟩ := List.mem_filterMap.mp (mnI_some e).1
    obtain ⟨a, z, rfl, hz⟩ := all p hp
    cases e2
    show (!decide (z - a < b)) = true
    rw [decide_eq_false (by omega)]; rfl
theorem col_at {m : List (List D)} {i j : Nat} {r : List D} {x : D} (h : m[i]? = some r) (hx : r[j]? = some x) : (colD m j)[i]? = some x := by
  unfold colD
  rw [List.getElem?_map, h]
  show some ((r[j]?).getD .non) = _
  rw [hx]; rfl
/-- x is below the greatest vector just where its products are at most v -/
theorem resid {m : List (List D)} {w : Nat} (r : Rect m w) {v x : List D} (hl : v.length = m.length) (hv : ∀ y ∈ v, isNum y = true) (hx : ∀ y ∈ x, isNum y = true) (lx : x.length = w) :
    (∀ (j : Nat) (y : D), x[j]? = some y → okB y (plc (colD m j) v) = true) ↔ ∀ (i : Nat) (ro : List D) (y : D), m[i]? = some ro → v[i]? = some y → overD (dot ro x) y = false := by
  constructor
  · intro H i ro y hi hy
    cases e : dot ro x with
    | int s =>
      obtain ⟨j, a, b, ha, hb, rfl⟩ := dot_int e
      have ny := hv y (List.mem_of_getElem? hy)
      obtain ⟨z, rfl, hz⟩ := plc_le (c := colD m j) (v := v) (i := i) (a := a) (b := b) (col_at hi ha) hy (H j _ hb) ny
      exact overD_le hz
    | _ => rfl
  · intro H j y hy
    have ny := hx y (List.mem_of_getElem? hy)
    cases y <;> first
      | (cases ny; done)
      | skip
    · unfold okB
      cases plc (colD m j) v <;> rfl
    · rename_i b
      have hcn : ∀ z ∈ colD m j, isNum z = true := fun z hz => by
        obtain ⟨ro, hro, rfl⟩ := List.mem_map.mp hz
        cases e : ro[j]? with
        | none => rfl
        | some z => exact (r.hr ro hro).2 z (List.mem_of_getElem? e)
      refine plc_ge hv hcn fun i a y hc hy2 => ?_
      unfold colD at hc
      rw [List.getElem?_map] at hc
      cases e : m[i]? with
      | none => rw [e] at hc; cases hc
      | some ro =>
        rw [e] at hc
        have hc : some ((ro[j]?).getD .non) = some (.int a) := hc
        have hro : ro[j]? = some (.int a) := by
          cases e2 : ro[j]? with
          | none => rw [e2] at hc; cases hc
          | some z => rw [e2] at hc; exact congrArg some (Option.some.inj hc)
        obtain ⟨s, es, hs⟩ := dot_ge hro hy
        have o := H i ro y e hy2
        rw [es] at o
        obtain ⟨z, rfl, hz⟩ := overD_int o
        exact ⟨z, rfl, by omega⟩
/-- the products of the greatest vector are at most v -/
theorem plain_le {m : List (List D)} {w : Nat} (r : Rect m w) {v : List D} (hl : v.length = m.length) (hv : ∀ y ∈ v, isNum y = true) {i : Nat} {ro : List D} {y : D} (hi : m[i]? = some ro) (hy : v[i]? = some y) : overD (dot ro (plain m w v)) y = false := by
  refine (resid r hl hv (plain_num m w v) (plain_len m w v)).mp (fun j z hz => ?_) i ro y hi hy
  unfold plain below at hz
  rw [List.getElem?_map, List.getElem?_map] at hz
  cases e : (List.range w)[j]? with
  | none => rw [e] at hz; cases hz
  | some k =>
    rw [e] at hz
    have hj : j < w := by
      have := (List.getElem?_eq_some_iff.mp e).1
      simpa using this
    rw [List.getElem?_range hj] at e
    cases e
    cases hz
    exact okB_self _
theorem out_non {m : List (List D)} {w : Nat} (r : Rect m w) {v : List D} (hl : v.length = m.length) (hv : ∀ y ∈ v, isNum y = true) {i : Nat} {ro : List D} (hi : m[i]? = some ro) (hy : v[i]? = some .non) : dot ro (plain m w v) = .non := by
  have := plain_le r hl hv hi hy
  have n := most_num (List.zipWith addD ro (plain m w v))
  cases e : dot ro (plain m w v) <;> first
    | rfl
    | (rw [e] at this; cases this; done)
    | (unfold dot at e; rw [e] at n; cases n)
end TB

end

section
set_option Elab.async false
set_option linter.all false
set_option maxRecDepth 100000
set_option maxHeartbeats 1000000
namespace TB
open PySem
/-! ### equality of numbers and rows of numbers -/
def pyN (d : D) : PyData := match d with
  | .int i => .int i
  | _ => .none
theorem py_num {d : D} (h : isNum d = true) : d.py = some (pyN d) := by cases d <;> first | rfl | cases h
theorem pys_num : ∀ {ds : List D}, (∀ d ∈ ds, isNum d = true) → pys ds = some (ds.map pyN)
  | [], _ => rfl
  | d :: ds, h => by
    show d.py.bind (fun p => (pys ds).map (p :: ·)) = _
    rw [py_num (h d List.mem_cons_self)]
    show (pys ds).map _ = _
    rw [pys_num fun x hx => h x (List.mem_cons_of_mem _ hx)]
    rfl
theorem lay_nums : ∀ ds : List D, PyData.canLayAll0 (ds.map pyN) = true
  | [] => by simp [PyData.canLayAll0]
  | d :: ds => by
    have : (pyN d).canLay0 = true := by cases d <;> simp [pyN, PyData.canLay0]
    simp [PyData.canLayAll0, this, lay_nums ds]
theorem depth_nums : ∀ ds : List D, PyData.depthAll (ds.map pyN) = 0
  | [] => rfl
  | d :: ds => by
    have : (pyN d).depth = 0 := by cases d <;> rfl
    show max (pyN d).depth (PyData.depthAll (ds.map pyN)) = 0
    rw [this, depth_nums ds]; rfl
theorem eqv_num (x y : D) : PyData.eqv (pyN x) (pyN y) = decide (d2o x = d2o y) := by
  cases x <;> cases y <;> first
    | rfl
    | skip
  rename_i i j
  show (i == j) = decide (some i = some j)
  by_cases h : i = j
  · rw [h]; simp
  · rw [decide_eq_false (fun e => h (Option.some.inj e))]
    exact beq_eq_false_iff_ne.mpr h
theorem eqv_nums : ∀ a b : List D, PyData.eqvAll (a.map pyN) (b.map pyN) = decide (a.map d2o = b.map d2o)
  | [], [] => rfl
  | [], _ :: _ => rfl
  | _ :: _, [] => rfl
  | x :: a, y :: b => by
    show (PyData.eqv (pyN x) (pyN y) && PyData.eqvAll (a.map pyN) (b.map pyN)) = decide (d2o x :: a.map d2o = d2o y :: b.map d2o)
    rw [eqv_num, eqv_nums a b]
    by_cases h1 : d2o x = d2o y
    · by_cases h2 : a.map d2o = b.map d2o
      · simp [h1, h2]
      · simp [h1, h2]
    · simp [h1]
theorem eq_lists (h : Lh) {a b : List D} (ha : ∀ d ∈ a, isNum d = true) (hb : ∀ d ∈ b, isNum d = true) (hl : a.length = b.length) : cop h .eq (.lst a) (.lst b) = some (decide (a.map d2o = b.map d2o)) := by
  have nr : ∀ {c : List D}, (∀ d ∈ c, isNum d = true) → (D.lst c).nref = true := fun {c} hc => sms_nref _ (sms_of fun d hd => num_sm (hc d hd))
  have u : unlike h (.lst a) (.lst b) = false := by
    show (a.length != b.length) = false
    rw [hl]; simp
  have sh : ∀ c : List D, SeqAt.shaped (.list (c.map pyN)) = true := fun c => by
    unfold SeqAt.shaped
    have e1 : (PyData.list (c.map pyN)).canLay0 = true := by simp [PyData.canLay0, lay_nums c]
    have e2 : (PyData.list (c.map pyN)).depth = 1 := by
      show PyData.depthAll (c.map pyN) + 1 = 1
      rw [depth_nums]
    rw [e1, e2]; rfl
  show eqD h (.lst a) (.lst b) = _
  have pa : (D.lst a).py = some (.list (a.map pyN)) := by
    show (pys a).map _ = _
    rw [pys_num ha]; rfl
  have pb : (D.lst b).py = some (.list (b.map pyN)) := by
    show (pys b).map _ = _
    rw [pys_num hb]; rfl
  unfold eqD
  rw [u, thaw_nref (nr ha), thaw_nref (nr hb), if_neg (by decide)]
  dsimp only
  rw [pa, pb]
  dsimp only
  rw [sh, sh, if_pos (by rfl)]
  show some (PyData.eqvAll _ _) = _
  rw [eqv_nums]
theorem eq_num (h : Lh) {x y : D} (hx : isNum x = true) (hy : isNum y = true) : cop h .eq x y = some (decide (d2o x = d2o y)) := by
  cases x <;> first
    | (cases hx; done)
    | skip
  · cases y <;> first
      | (cases hy; done)
      | rfl
  · cases y <;> first
      | (cases hy; done)
      | skip
    · rfl
    · rw [eq_int]
      congr 1
      simp [d2o]
theorem ne_num (h : Lh) {x y : D} (hx : isNum x = true) (hy : isNum y = true) : cop h .ne x y = some (!decide (d2o x = d2o y)) := by
  have e : cop h .ne x y = (cop h .eq x y).map (!·) := rfl
  rw [e, eq_num h hx hy]; rfl
theorem d2o_inj {x y : D} (hx : isNum x = true) (hy : isNum y = true) (h : d2o x = d2o y) : x = y := by
  rw [← o2d_d2o hx, ← o2d_d2o hy, h]
theorem map_d2o_inj : ∀ {a b : List D}, (∀ d ∈ a, isNum d = true) → (∀ d ∈ b, isNum d = true) → a.map d2o = b.map d2o → a = b
  | [], [], _, _, _ => rfl
  | [], _ :: _, _, _, h => by cases h
  | _ :: _, [], _, _, h => by cases h
  | x :: a, y :: b, ha, hb, h => by
    rw [List.map_cons, List.map_cons] at h
    injection h with h1 h2
    rw [d2o_inj (ha x List.mem_cons_self) (hb y List.mem_cons_self) h1, map_d2o_inj (fun d hd => ha d (List.mem_cons_of_mem _ hd)) (fun d hd => hb d (List.mem_cons_of_mem _ hd)) h2]
/-- None in a list of numbers -/
theorem in_non (h : Lh) {ds : List D} (hn : ∀ d ∈ ds, isNum d = true) : cop h .in_ .non (.lst ds) = some (ds.any isNon) := by
  have fl : ds.all flat = true := List.all_eq_true.mpr fun d hd => by
    have := hn d hd
    cases d <;> first | rfl | cases this
  have e : inD h .non (.lst ds) = if flat .non && ds.all flat then some (ds.any fun z => eqS z .non) else none := rfl
  show inD h .non (.lst ds) = _
  rw [e, fl, if_pos (by rfl)]
  congr 1
  congr 1
  funext z
  cases z <;> rfl
theorem nin_non (h : Lh) {ds : List D} (hn : ∀ d ∈ ds, isNum d = true) : cop h .nin .non (.lst ds) = some (!ds.any isNon) := by
  have e : cop h .nin .non (.lst ds) = (cop h .in_ .non (.lst ds)).map (!·) := rfl
  rw [e, in_non h hn]; rfl
/-! ### comprehensions over what is no source of items_ok; tuple targets -/
theorem comp_ev2 {cx : Cx} {env : Env} {fz : Bool} {own : List Nat} {t : Tg} {it : It} {c : Eo} {e : E} {h : Lh} {src : Sr} {ds : List D} (f : D → List D) (hi : it.ev cx env h = .ok src h) (k1 : src.len h = some ds.length) (k2 : ∀ i, src.at h i = ds[i]? ∨ ds.length ≤ i) (hl : ds.length ≤ lim)
    (hs : ∀ d ∈ ds, ∀ acc, compStep cx env own t c e d acc h = .ok (acc ++ f d) h) : (E.comp fz own t it c e).ev cx env h = fin fz (some (.l (ds.flatMap f))) h := by
  show (it.ev cx env h).bind (fun src h => match src.len h with
    | some n => if n ≤ lim then (turns src (compStep cx env own t c e) n n [] h).bind fun ds h => fin fz (some (.l ds)) h else .stuck
    | none => .stuck) = _
  rw [hi]
  show (match src.len h with
    | some n => if n ≤ lim then (turns src (compStep cx env own t c e) n n [] h).bind fun ds h => fin fz (some (.l ds)) h else .stuck
    | none => .stuck) = _
  rw [k1]
  dsimp only
  rw [if_pos hl, turns_all k1 k2 hs]
  rfl
theorem step_mapT {cx : Cx} {env env2 : Env} {own : List Nat} {t : Tg} {e : E} {h : Lh} {d v : D} (acc : List D) (ht : t.as cx (wipe env own) d h = .ok env2 h) (he : e.ev cx env2 h = .ok v h) : compStep cx env own t .no e d acc h = .ok (acc ++ [v]) h := by
  unfold compStep
  rw [ht]
  show noexc ((e.ev cx env2 h).bind fun x h => .ok (acc ++ [x]) h) = _
  rw [he]; rfl
def enuD (ds : List D) : List D := (List.range ds.length).map fun i => .tup [.int (i : Nat), (ds[i]?).getD .non]
theorem enuD_len (ds : List D) : (enuD ds).length = ds.length := by simp [enuD]
theorem enu_len' (h : Lh) (ds : List D) : (Sr.enu (.lst ds)).len h = some (enuD ds).length := by rw [enuD_len]; rfl
theorem enu_at' (h : Lh) (ds : List D) (i : Nat) (hi : i < (enuD ds).length) : (Sr.enu (.lst ds)).at h i = (enuD ds)[i]? := by
  rw [enuD_len] at hi
  unfold enuD
  rw [List.getElem?_map, List.getElem?_range hi]
  show (ds[i]?).map (fun x => D.tup [.int i, x]) = some (D.tup [.int i, (ds[i]?).getD .non])
  rw [List.getElem?_eq_getElem hi]; rfl
theorem enu_get {ds : List D} {i : Nat} {d : D} (h : (enuD ds)[i]? = some d) : ∃ x, ds[i]? = some x ∧ d = .tup [.int (i : Nat), x] := by
  have hi : i < ds.length := by
    have := (List.getElem?_eq_some_iff.mp h).1
    rwa [enuD_len] at this
  unfold enuD at h
  rw [List.getElem?_map, List.getElem?_range hi] at h
  replace h : some (D.tup [.int (i : Nat), (ds[i]?).getD .non]) = some d := h
  rw [List.getElem?_eq_getElem hi] at h
  cases h
  exact ⟨_, List.getElem?_eq_getElem hi, rfl⟩
/-! ### greatest, known ones -/
theorem known_flat : ∀ {ds : List D}, (∀ d ∈ ds, isNum d = true) → (ds.flatMap fun x => if (!isNon x) = true then [x] else []) = (known ds).map .int
  | [], _ => rfl
  | d :: ds, h => by
    have ih := known_flat (ds := ds) fun x hx => h x (List.mem_cons_of_mem _ hx)
    have hd := h d List.mem_cons_self
    rw [List.flatMap_cons, ih]
    cases d <;> first
      | (cases hd; done)
      | rfl
theorem bfn_max (h : Lh) (is : List Int) : bfn h .max [.lst (is.map .int)] = maxF is := by
  show (match intsOf (is.map .int) with
    | some is => maxF is
    | none => none) = _
  rw [intsOf_map]
theorem bfn_min (h : Lh) (is : List Int) : bfn h .min [.lst (is.map .int)] = minF is := by
  show (match intsOf (is.map .int) with
    | some is => minF is
    | none => none) = _
  rw [intsOf_map]
def addP : D → D
  | .tup [x, y] => addD x y
  | _ => .non
def zipD' (xs ys : List D) : List D := (xs.zip ys).map fun (p : D × D) => D.tup [p.1, p.2]
theorem zip_add : ∀ xs ys : List D, (zipD' xs ys).map addP = List.zipWith addD xs ys
  | [], _ => rfl
  | _ :: _, [] => rfl
  | x :: xs, y :: ys => by
    show addD x y :: (zipD' xs ys).map addP = addD x y :: List.zipWith addD xs ys
    rw [zip_add xs ys]
theorem zipWith_num (xs ys : List D) : ∀ x ∈ List.zipWith addD xs ys, isNum x = true := fun x hx => by
  obtain ⟨_, a, b, _, _, rfl⟩ := zipWith_mem hx
  exact addD_num a b
end TB

end

section
set_option Elab.async false
namespace TB
namespace K02
open PySem
/-- is_integer: value -/
def b_is_integer : Ss := (.cons (.ret (.and (.isi [.int] (.var 0)) (.not (.isi [.bool] (.var 0))))) .nil)
def f_is_integer : Fd := ⟨1, 1, b_is_integer⟩
abbrev i_is_integer : Nat := 0
/-- is_between: value least greatest -/
def b_is_between : Ss := (.cons (.ret (.and (.call .pure 0 (.cons (.var 0) .nil) [0]) (.chn .le .le (.var 1) (.var 0) (.var 2)))) .nil)
def f_is_between : Fd := ⟨3, 3, b_is_between⟩
abbrev i_is_between : Nat := 1
/-- is_list: value -/
def b_is_list : Ss := (.cons (.ret (.isi [.list, .tuple] (.var 0))) .nil)
def f_is_list : Fd := ⟨1, 1, b_is_list⟩
abbrev i_is_list : Nat := 2
/-- is_number_value: value -/
def b_is_number_value : Ss := (.cons (.ret (.or (.cmp .is (.var 0) (.cst .non)) (.call .pure 0 (.cons (.var 0) .nil) [0]))) .nil)
def f_is_number_value : Fd := ⟨1, 1, b_is_number_value⟩
abbrev i_is_number_value : Nat := 3
/-- are_numbers: value item -/
def b_are_numbers : Ss := (.cons (.ret (.and (.call .pure 2 (.cons (.var 0) .nil) [0]) (.bi .all true (.cons (.comp true [1] (.nm 1) (.ex (.var 0)) .no (.call .pure 3 (.cons (.var 1) .nil) [0])) .nil)))) .nil)
def f_are_numbers : Fd := ⟨1, 2, b_are_numbers⟩
abbrev i_are_numbers : Nat := 4
/-- is_vector_of: value many -/
def b_is_vector_of : Ss := (.cons (.ret (.and (.call .pure 4 (.cons (.var 0) .nil) [0]) (.cmp .eq (.bi .len true (.cons (.var 0) .nil)) (.var 1)))) .nil)
def f_is_vector_of : Fd := ⟨2, 2, b_is_vector_of⟩
abbrev i_is_vector_of : Nat := 5
/-- is_matrix_value: value many row -/
def b_is_matrix_value : Ss := (.cons (.ite (.or (.not (.call .pure 2 (.cons (.var 0) .nil) [0])) (.or (.not (.chn .le .le (.cst (.int 1)) (.bi .len true (.cons (.var 0) .nil)) (.cst (.int 20)))) (.not (.bi .all true (.cons (.comp true [2] (.nm 2) (.ex (.var 0)) .no (.call .pure 2 (.cons (.var 2) .nil) [0])) .nil))))) (.cons (.ret (.cst (.bl false))) .nil) .nil) (.cons (.asg (.nm 1) (.bi .len true (.cons (.ix (.var 0) (.cst (.int 0))) .nil))) (.cons (.ret (.and (.chn .le .le (.cst (.int 1)) (.var 1) (.cst (.int 20))) (.bi .all true (.cons (.comp true [2] (.nm 2) (.ex (.var 0)) .no (.call .pure 5 (.cons (.var 2) (.cons (.var 1) .nil)) [0, 1])) .nil)))) .nil)))
def f_is_matrix_value : Fd := ⟨1, 3, b_is_matrix_value⟩
abbrev i_is_matrix_value : Nat := 6
/-- is_square_value: value -/
def b_is_square_value : Ss := (.cons (.ret (.and (.call .pure 6 (.cons (.var 0) .nil) [0]) (.cmp .eq (.bi .len true (.cons (.var 0) .nil)) (.bi .len true (.cons (.ix (.var 0) (.cst (.int 0))) .nil))))) .nil)
def f_is_square_value : Fd := ⟨1, 1, b_is_square_value⟩
abbrev i_is_square_value : Nat := 7
/-- summed: one other -/
def b_summed : Ss := (.cons (.ret (.ite (.or (.cmp .is (.var 0) (.cst .non)) (.cmp .is (.var 1) (.cst .non))) (.cst .non) (.bin .add true (.var 0) (.var 1)))) .nil)
def f_summed : Fd := ⟨2, 2, b_summed⟩
abbrev i_summed : Nat := 8
/-- greatest: numbers known number -/
def b_greatest : Ss := (.cons (.asg (.nm 1) (.comp true [2] (.nm 2) (.ex (.var 0)) (.so (.cmp .isn (.var 2) (.cst .non))) (.var 2))) (.cons (.ret (.ite (.cmp .ne (.var 1) (.lst true .nil)) (.bi .max true (.cons (.var 1) .nil)) (.cst .non))) .nil))
def f_greatest : Fd := ⟨1, 3, b_greatest⟩
abbrev i_greatest : Nat := 9
/-- check_matrix: matrix -/
def b_check_matrix : Ss := (.cons (.ite (.not (.call .pure 6 (.cons (.var 0) .nil) [0])) (.cons (.rse 2 (.cons (.var 0) .nil)) .nil) .nil) .nil)
def f_check_matrix : Fd := ⟨1, 1, b_check_matrix⟩
abbrev i_check_matrix : Nat := 10
/-- check_square: matrix -/
def b_check_square : Ss := (.cons (.ite (.not (.call .pure 7 (.cons (.var 0) .nil) [0])) (.cons (.rse 2 (.cons (.var 0) .nil)) .nil) .nil) .nil)
def f_check_square : Fd := ⟨1, 1, b_check_square⟩
abbrev i_check_square : Nat := 11
/-- check_vector: vector many -/
def b_check_vector : Ss := (.cons (.ite (.not (.call .pure 5 (.cons (.var 0) (.cons (.var 1) .nil)) [0, 1])) (.cons (.rse 4 (.cons (.var 0) .nil)) .nil) .nil) .nil)
def f_check_vector : Fd := ⟨2, 2, b_check_vector⟩
abbrev i_check_vector : Nat := 12
/-- check_same_size: one other -/
def b_check_same_size : Ss := (.cons (.ex (.call .pure 10 (.cons (.var 0) .nil) [0])) (.cons (.ite (.or (.not (.call .pure 6 (.cons (.var 1) .nil) [0])) (.or (.cmp .ne (.bi .len true (.cons (.var 1) .nil)) (.bi .len true (.cons (.var 0) .nil))) (.cmp .ne (.bi .len true (.cons (.ix (.var 1) (.cst (.int 0))) .nil)) (.bi .len true (.cons (.ix (.var 0) (.cst (.int 0))) .nil))))) (.cons (.rse 2 (.cons (.var 1) .nil)) .nil) .nil) .nil))
def f_check_same_size : Fd := ⟨2, 2, b_check_same_size⟩
abbrev i_check_same_size : Nat := 13
/-- as_rows: matrix row -/
def b_as_rows : Ss := (.cons (.ret (.comp true [1] (.nm 1) (.ex (.var 0)) .no (.bi .list true (.cons (.var 1) .nil)))) .nil)
def f_as_rows : Fd := ⟨1, 2, b_as_rows⟩
abbrev i_as_rows : Nat := 14
/-- unit_of: size i j -/
def b_unit_of : Ss := (.cons (.ret (.comp false [1] (.nm 1) (.r1 (.var 0)) .no (.comp false [2] (.nm 2) (.r1 (.var 0)) .no (.ite (.cmp .eq (.var 1) (.var 2)) (.cst (.int 0)) (.cst .non))))) .nil)
def f_unit_of : Fd := ⟨1, 3, b_unit_of⟩
abbrev i_unit_of : Nat := 15
/-- flipped_of: matrix j row -/
def b_flipped_of : Ss := (.cons (.ret (.comp true [1] (.nm 1) (.r1 (.bi .len true (.cons (.ix (.var 0) (.cst (.int 0))) .nil))) .no (.comp true [2] (.nm 2) (.ex (.var 0)) .no (.ix (.var 2) (.var 1))))) .nil)
def f_flipped_of : Fd := ⟨1, 3, b_flipped_of⟩
abbrev i_flipped_of : Nat := 16
/-- row_times: row column one other -/
def b_row_times : Ss := (.cons (.ret (.call .pure 9 (.cons (.comp true [2, 3] (.tp (.cons (.nm 2) (.cons (.nm 3) .nil))) (.zip (.var 0) (.var 1)) .no (.call .pure 8 (.cons (.var 2) (.cons (.var 3) .nil)) [0, 1])) .nil) [0])) .nil)
def f_row_times : Fd := ⟨2, 4, b_row_times⟩
abbrev i_row_times : Nat := 17
/-- applied_to: matrix vector row -/
def b_applied_to : Ss := (.cons (.ret (.comp false [2] (.nm 2) (.ex (.var 0)) .no (.call .pure 17 (.cons (.var 2) (.cons (.var 1) .nil)) [0, 1]))) .nil)
def f_applied_to : Fd := ⟨2, 3, b_applied_to⟩
abbrev i_applied_to : Nat := 18
/-- product_of: one other columns row column -/
def b_product_of : Ss := (.cons (.asg (.nm 2) (.call .inl 16 (.cons (.var 1) .nil) [0])) (.cons (.ret (.comp false [3] (.nm 3) (.ex (.var 0)) .no (.comp false [4] (.nm 4) (.ex (.var 2)) .no (.call .pure 17 (.cons (.var 3) (.cons (.var 4) .nil)) [0, 1])))) .nil))
def f_product_of : Fd := ⟨2, 5, b_product_of⟩
abbrev i_product_of : Nat := 19
/-- united_of: one other row more pair -/
def b_united_of : Ss := (.cons (.ret (.comp false [2, 3] (.tp (.cons (.nm 2) (.cons (.nm 3) .nil))) (.zip (.var 0) (.var 1)) .no (.comp false [4] (.nm 4) (.zip (.var 2) (.var 3)) .no (.call .pure 9 (.cons (.var 4) .nil) [0])))) .nil)
def f_united_of : Fd := ⟨2, 5, b_united_of⟩
abbrev i_united_of : Nat := 20
/-- shifted_of: matrix number row item -/
def b_shifted_of : Ss := (.cons (.ret (.comp false [2] (.nm 2) (.ex (.var 0)) .no (.comp false [3] (.nm 3) (.ex (.var 2)) .no (.call .pure 8 (.cons (.var 3) (.cons (.var 1) .nil)) [0, 1])))) .nil)
def f_shifted_of : Fd := ⟨2, 4, b_shifted_of⟩
abbrev i_shifted_of : Nat := 21
/-- power_of: matrix many found square -/
def b_power_of : Ss := (.cons (.par [2, 3] (.cons (.call .inl 15 (.cons (.bi .len true (.cons (.var 0) .nil)) .nil) [0]) (.cons (.call .pure 14 (.cons (.var 0) .nil) [0]) .nil))) (.cons (.whl (.cmp .gt (.var 1) (.cst (.int 0))) (.cons (.ite (.cmp .eq (.bin .mod true (.var 1) (.cst (.int 2))) (.cst (.int 1))) (.cons (.asg (.nm 2) (.call .inl 19 (.cons (.var 3) (.cons (.var 2) .nil)) [0, 1])) .nil) .nil) (.cons (.asg (.nm 1) (.bin .fdiv true (.var 1) (.cst (.int 2)))) (.cons (.asg (.nm 3) (.ite (.cmp .gt (.var 1) (.cst (.int 0))) (.call .pure 19 (.cons (.var 3) (.cons (.var 3) .nil)) [0, 1]) (.var 3))) .nil)))) (.cons (.ret (.var 2)) .nil)))
def f_power_of : Fd := ⟨2, 4, b_power_of⟩
abbrev i_power_of : Nat := 22
/-- times: one other -/
def b_times : Ss := (.cons (.ex (.call .pure 10 (.cons (.var 0) .nil) [0])) (.cons (.ite (.or (.not (.call .pure 6 (.cons (.var 1) .nil) [0])) (.cmp .ne (.bi .len true (.cons (.var 1) .nil)) (.bi .len true (.cons (.ix (.var 0) (.cst (.int 0))) .nil)))) (.cons (.rse 2 (.cons (.var 1) .nil)) .nil) .nil) (.cons (.ret (.call .inl 19 (.cons (.var 0) (.cons (.var 1) .nil)) [0, 1])) .nil)))
def f_times : Fd := ⟨2, 2, b_times⟩
abbrev i_times : Nat := 23
/-- applied: matrix vector -/
def b_applied : Ss := (.cons (.ex (.call .pure 10 (.cons (.var 0) .nil) [0])) (.cons (.ex (.call .pure 12 (.cons (.var 1) (.cons (.bi .len true (.cons (.ix (.var 0) (.cst (.int 0))) .nil)) .nil)) [0, 1])) (.cons (.ret (.call .inl 18 (.cons (.var 0) (.cons (.var 1) .nil)) [0, 1])) .nil)))
def f_applied : Fd := ⟨2, 2, b_applied⟩
abbrev i_applied : Nat := 24
/-- united: one other -/
def b_united : Ss := (.cons (.ex (.call .pure 13 (.cons (.var 0) (.cons (.var 1) .nil)) [0, 1])) (.cons (.ret (.call .inl 20 (.cons (.var 0) (.cons (.var 1) .nil)) [0, 1])) .nil))
def f_united : Fd := ⟨2, 2, b_united⟩
abbrev i_united : Nat := 25
/-- shifted: matrix number -/
def b_shifted : Ss := (.cons (.ex (.call .pure 10 (.cons (.var 0) .nil) [0])) (.cons (.ite (.not (.call .pure 3 (.cons (.var 1) .nil) [0])) (.cons (.rse 3 (.cons (.var 1) .nil)) .nil) .nil) (.cons (.ret (.call .inl 21 (.cons (.var 0) (.cons (.var 1) .nil)) [0, 1])) .nil)))
def f_shifted : Fd := ⟨2, 2, b_shifted⟩
abbrev i_shifted : Nat := 26
/-- power: matrix many -/
def b_power : Ss := (.cons (.ex (.call .pure 11 (.cons (.var 0) .nil) [0])) (.cons (.ite (.not (.call .pure 1 (.cons (.var 1) (.cons (.cst (.int 0)) (.cons (.cst (.int 200)) .nil))) [0, 1, 2])) (.cons (.rse 1 (.cons (.var 1) .nil)) .nil) .nil) (.cons (.ret (.call .inl 22 (.cons (.var 0) (.cons (.var 1) .nil)) [0, 1])) .nil)))
def f_power : Fd := ⟨2, 2, b_power⟩
abbrev i_power : Nat := 27
/-- _law_cell: script k -/
def b__law_cell : Ss := (.cons (.ret (.ite (.cmp .lt (.var 1) (.bi .len true (.cons (.var 0) .nil))) (.ix (.var 0) (.var 1)) (.bin .add true (.bin .mul true (.cst (.int 6089)) (.var 1)) (.bin .mod true (.bi .sum true (.cons (.slc true (.var 0) .no (.so (.cst (.int 1)))) .nil)) (.cst (.int 1000033)))))) .nil)
def f__law_cell : Fd := ⟨2, 2, b__law_cell⟩
abbrev i__law_cell : Nat := 28
/-- _law_box: great -/
def b__law_box : Ss := (.cons (.ret (.lst false (.cons (.bi .abs false (.cons (.var 0) .nil)) (.cons (.cmp .ge (.bi .abs false (.cons (.var 0) .nil)) (.bin .pow false (.cst (.int 10)) (.cst (.int 18)))) (.cons (.bin .mod false (.bi .int true (.cons (.bi .abs false (.cons (.var 0) .nil)) .nil)) (.cst (.int 2147483629))) (.cons (.cst (.int 0)) .nil)))))) .nil)
def f__law_box : Fd := ⟨1, 1, b__law_box⟩
abbrev i__law_box : Nat := 29
/-- _law_take: box many mixed digit -/
def b__law_take : Ss := (.cons (.ite (.and (.ix (.var 0) (.cst (.int 1))) (.cmp .gt (.ix (.var 0) (.cst (.int 0))) (.cst (.int 0)))) (.cons (.asg (.nm 3) (.bin .mod true (.bi .int true (.cons (.ix (.var 0) (.cst (.int 0))) .nil)) (.var 1))) (.cons (.asg (.sub (.var 0) (.cst (.int 0))) (.bin .fdiv true (.ix (.var 0) (.cst (.int 0))) (.var 1))) (.cons (.ret (.var 3)) .nil))) .nil) (.cons (.asg (.sub (.var 0) (.cst (.int 3))) (.bin .add true (.ix (.var 0) (.cst (.int 3))) (.cst (.int 1)))) (.cons (.asg (.nm 2) (.bin .mod true (.bi .int true (.cons (.bin .pow true (.bin .add true (.bin .add true (.ix (.var 0) (.cst (.int 2))) (.bin .mul true (.cst (.int 15485863)) (.ix (.var 0) (.cst (.int 3))))) (.cst (.int 179424673))) (.cst (.int 5))) .nil)) (.cst (.int 2147483647)))) (.cons (.ret (.bin .mod true (.bin .fdiv true (.bin .mod true (.bi .int true (.cons (.bin .pow true (.bin .add true (.bin .mul true (.var 2) (.cst (.int 48271))) (.bin .mul true (.cst (.int 104729)) (.ix (.var 0) (.cst (.int 3))))) (.cst (.int 3))) .nil)) (.cst (.int 2147483587))) (.cst (.int 64))) (.var 1))) .nil))))
def f__law_take : Fd := ⟨2, 4, b__law_take⟩
abbrev i__law_take : Nat := 30
/-- _law_same: told due key k -/
def b__law_same : Ss := (.cons (.ite (.or (.cmp .is (.var 1) (.cst .non)) (.isi [.bool] (.var 1))) (.cons (.ret (.ite (.cmp .is (.var 1) (.cst .non)) (.cmp .is (.var 0) (.cst .non)) (.and (.isi [.bool] (.var 0)) (.cmp .eq (.cmp .is (.var 0) (.cst (.bl true))) (.cmp .is (.var 1) (.cst (.bl true))))))) .nil) .nil) (.cons (.ite (.isi [.int] (.var 1)) (.cons (.ret (.and (.isi [.int] (.var 0)) (.and (.not (.isi [.bool] (.var 0))) (.cmp .eq (.var 0) (.var 1))))) .nil) .nil) (.cons (.ite (.isi [.str] (.var 1)) (.cons (.ret (.and (.isi [.str] (.var 0)) (.cmp .eq (.var 0) (.var 1)))) .nil) .nil) (.cons (.ite (.isi [.dict] (.var 1)) (.cons (.ite (.or (.not (.isi [.dict] (.var 0))) (.cmp .ne (.bi .len true (.cons (.var 0) .nil)) (.bi .len true (.cons (.var 1) .nil)))) (.cons (.ret (.cst (.bl false))) .nil) .nil) (.cons (.ret (.cmp .eq (.comp true [2] (.nm 2) (.ks 1) (.so (.or (.cmp .nin (.var 2) (.var 0)) (.not (.call .pure 31 (.cons (.ix (.var 0) (.var 2)) (.cons (.ix (.var 1) (.var 2)) .nil)) [0, 1])))) (.var 2)) (.lst true .nil))) .nil)) .nil) (.cons (.ite (.isi [.list, .tuple] (.var 1)) (.cons (.ite (.or (.not (.isi [.list, .tuple] (.var 0))) (.or (.cmp .ne (.isi [.list] (.var 0)) (.isi [.list] (.var 1))) (.cmp .ne (.bi .len true (.cons (.var 0) .nil)) (.bi .len true (.cons (.var 1) .nil))))) (.cons (.ret (.cst (.bl false))) .nil) .nil) (.cons (.ret (.cmp .eq (.comp true [3] (.nm 3) (.r1 (.bi .len true (.cons (.var 1) .nil))) (.so (.not (.call .pure 31 (.cons (.ix (.var 0) (.var 3)) (.cons (.ix (.var 1) (.var 3)) .nil)) [0, 1]))) (.var 3)) (.lst true .nil))) .nil)) .nil) (.cons (.ret (.and (.cmp .isn (.var 0) (.cst .non)) (.not (.isi [.int, .str, .list, .tuple, .dict] (.var 0))))) .nil))))))
def f__law_same : Fd := ⟨2, 4, b__law_same⟩
abbrev i__law_same : Nat := 31
/-- _law_sum: one other -/
def b__law_sum : Ss := (.cons (.ret (.ite (.or (.cmp .is (.var 0) (.cst .non)) (.cmp .is (.var 1) (.cst .non))) (.cst .non) (.bin .add true (.var 0) (.var 1)))) .nil)
def f__law_sum : Fd := ⟨2, 2, b__law_sum⟩
abbrev i__law_sum : Nat := 32
/-- _law_most: numbers found number -/
def b__law_most : Ss := (.cons (.asg (.nm 1) (.comp true [2] (.nm 2) (.ex (.var 0)) (.so (.cmp .isn (.var 2) (.cst .non))) (.var 2))) (.cons (.ret (.ite (.cmp .ne (.var 1) (.lst true .nil)) (.bi .max true (.cons (.var 1) .nil)) (.cst .non))) .nil))
def f__law_most : Fd := ⟨1, 3, b__law_most⟩
abbrev i__law_most : Nat := 33
/-- _law_applied: rows vector row j -/
def b__law_applied : Ss := (.cons (.ret (.comp true [2] (.nm 2) (.ex (.var 0)) .no (.call .pure 33 (.cons (.comp true [3] (.nm 3) (.r1 (.bi .len true (.cons (.var 1) .nil))) .no (.call .pure 32 (.cons (.ix (.var 2) (.var 3)) (.cons (.ix (.var 1) (.var 3)) .nil)) [0, 1])) .nil) [0]))) .nil)
def f__law_applied : Fd := ⟨2, 4, b__law_applied⟩
abbrev i__law_applied : Nat := 34
/-- _law_matrix: box rows columns wide found i j -/
def b__law_matrix : Ss := (.cons (.asg (.nm 4) (.lst false .nil)) (.cons (.fr (.nm 5) (.r1 (.var 1)) (.cons (.ex (.me .append (.var 4) (.cons (.comp true [6] (.nm 6) (.r1 (.var 2)) .no (.ite (.cmp .eq (.call .box 30 (.cons (.var 0) (.cons (.cst (.int 4)) .nil)) [0, 1]) (.cst (.int 0))) (.cst .non) (.bin .sub true (.call .box 30 (.cons (.var 0) (.cons (.bin .add true (.bin .mul true (.cst (.int 2)) (.var 3)) (.cst (.int 1))) .nil)) [0, 1]) (.var 3)))) .nil))) .nil)) (.cons (.ret (.var 4)) .nil)))
def f__law_matrix : Fd := ⟨4, 7, b__law_matrix⟩
abbrev i__law_matrix : Nat := 35
/-- _law_vector: box many wide k -/
def b__law_vector : Ss := (.cons (.ret (.comp true [3] (.nm 3) (.r1 (.var 1)) .no (.ite (.cmp .eq (.call .box 30 (.cons (.var 0) (.cons (.cst (.int 5)) .nil)) [0, 1]) (.cst (.int 0))) (.cst .non) (.bin .sub true (.call .box 30 (.cons (.var 0) (.cons (.bin .add true (.bin .mul true (.cst (.int 2)) (.var 2)) (.cst (.int 1))) .nil)) [0, 1]) (.var 2))))) .nil)
def f__law_vector : Fd := ⟨3, 4, b__law_vector⟩
abbrev i__law_vector : Nat := 36
/-- _law_wide: box -/
def b__law_wide : Ss := (.cons (.ret (.ix (.lst true (.cons (.cst (.int 1)) (.cons (.cst (.int 3)) (.cons (.cst (.int 9)) (.cons (.bin .pow true (.cst (.int 10)) (.cst (.int 19))) .nil))))) (.ix (.lst true (.cons (.cst (.int 0)) (.cons (.cst (.int 0)) (.cons (.cst (.int 1)) (.cons (.cst (.int 1)) (.cons (.cst (.int 1)) (.cons (.cst (.int 2)) (.cons (.cst (.int 2)) (.cons (.cst (.int 3)) .nil))))))))) (.call .box 30 (.cons (.var 0) (.cons (.cst (.int 8)) .nil)) [0, 1])))) .nil)
def f__law_wide : Fd := ⟨1, 1, b__law_wide⟩
abbrev i__law_wide : Nat := 37
/-- _law_turned: value row -/
def b__law_turned : Ss := (.cons (.ret (.bi .tuple true (.cons (.comp true [1] (.nm 1) (.ex (.var 0)) .no (.ite (.isi [.list] (.var 1)) (.bi .tuple true (.cons (.var 1) .nil)) (.var 1))) .nil))) .nil)
def f__law_turned : Fd := ⟨1, 2, b__law_turned⟩
abbrev i__law_turned : Nat := 38
/-- _law_no_matrix: box odd -/
def b__law_no_matrix : Ss := (.cons (.asg (.nm 1) (.lst true (.cons (.cst .non) (.cons (.lst true .nil) (.cons (.lst true (.cons (.lst true .nil) .nil)) (.cons (.lst true (.cons (.lst true (.cons (.cst (.int 1)) .nil)) (.cons (.lst true (.cons (.cst (.int 1)) (.cons (.cst (.int 2)) .nil))) .nil))) (.cons (.lst true (.cons (.lst true (.cons (.cst (.bl true)) .nil)) .nil)) (.cons (.lst true (.cons (.lst true (.cons (.cst (.str "1")) .nil)) .nil)) (.cons (.cst (.str "1")) (.cons (.dct true [] .nil) (.cons (.bin .mul true (.lst true (.cons (.lst true (.cons (.cst (.int 1)) .nil)) .nil)) (.cst (.int 21))) (.cons (.lst true (.cons (.bin .mul true (.lst true (.cons (.cst (.int 1)) .nil)) (.cst (.int 21))) .nil)) (.cons (.lst true (.cons (.cst (.int 1)) (.cons (.cst (.int 2)) .nil))) (.cons (.cst (.int 5)) (.cons (.tup (.cons (.lst true (.cons (.cst (.int 1)) .nil)) (.cons (.cst (.int 2)) .nil))) (.cons (.lst true (.cons (.cst .non) .nil)) (.cons (.lst true (.cons (.lst true (.cons (.cst (.int 1)) .nil)) (.cons (.cst .non) .nil))) (.cons (.dct true [.inr "a"] (.cons (.lst true (.cons (.cst (.int 1)) .nil)) .nil)) (.cons (.lst true (.cons (.lst true (.cons (.tup (.cons (.cst (.int 1)) .nil)) .nil)) .nil)) (.cons (.tup (.cons (.tup .nil) .nil)) .nil)))))))))))))))))))) (.cons (.ret (.ix (.var 1) (.call .box 30 (.cons (.var 0) (.cons (.bi .len true (.cons (.var 1) .nil)) .nil)) [0, 1]))) .nil))
def f__law_no_matrix : Fd := ⟨1, 2, b__law_no_matrix⟩
abbrev i__law_no_matrix : Nat := 39
/-- _law_no_square: box -/
def b__law_no_square : Ss := (.cons (.ret (.ite (.cmp .gt (.call .box 30 (.cons (.var 0) (.cons (.cst (.int 3)) .nil)) [0, 1]) (.cst (.int 0))) (.call .box 39 (.cons (.var 0) .nil) [0]) (.ix (.lst true (.cons (.lst true (.cons (.lst true (.cons (.cst (.int 1)) (.cons (.cst (.int 2)) .nil))) .nil)) (.cons (.lst true (.cons (.lst true (.cons (.cst (.int 1)) .nil)) (.cons (.lst true (.cons (.cst (.int 2)) .nil)) .nil))) (.cons (.lst true (.cons (.lst true (.cons (.cst (.int 1)) (.cons (.cst (.int 2)) (.cons (.cst (.int 3)) .nil)))) (.cons (.lst true (.cons (.cst (.int 4)) (.cons (.cst (.int 5)) (.cons (.cst (.int 6)) .nil)))) .nil))) (.cons (.tup (.cons (.lst true (.cons (.cst .non) (.cons (.cst (.int 0)) .nil))) .nil)) .nil))))) (.call .box 30 (.cons (.var 0) (.cons (.cst (.int 4)) .nil)) [0, 1])))) .nil)
def f__law_no_square : Fd := ⟨1, 1, b__law_no_square⟩
abbrev i__law_no_square : Nat := 40
/-- _law_no_vector: box many odd -/
def b__law_no_vector : Ss := (.cons (.asg (.nm 2) (.lst true (.cons (.cst .non) (.cons (.bin .mul true (.lst true (.cons (.cst (.int 1)) .nil)) (.bin .add true (.var 1) (.cst (.int 1)))) (.cons (.bin .mul true (.lst true (.cons (.cst (.int 1)) .nil)) (.bin .sub true (.var 1) (.cst (.int 1)))) (.cons (.bin .mul true (.lst true (.cons (.cst (.bl true)) .nil)) (.var 1)) (.cons (.bin .mul true (.lst true (.cons (.cst (.str "1")) .nil)) (.var 1)) (.cons (.bin .mul true (.cst (.str "1")) (.var 1)) (.cons (.dct true [] .nil) (.cons (.cst (.int 5)) (.cons (.bin .mul true (.lst true (.cons (.lst true (.cons (.cst (.int 1)) .nil)) .nil)) (.var 1)) (.cons (.bin .mul true (.lst true (.cons (.tup (.cons (.cst (.int 1)) .nil)) .nil)) (.var 1)) (.cons (.dct true [.inr "a"] (.cons (.cst (.int 1)) .nil)) .nil))))))))))))) (.cons (.ret (.ix (.var 2) (.call .box 30 (.cons (.var 0) (.cons (.bi .len true (.cons (.var 2) .nil)) .nil)) [0, 1]))) .nil))
def f__law_no_vector : Fd := ⟨2, 3, b__law_no_vector⟩
abbrev i__law_no_vector : Nat := 41
/-- _law_met: which one other by_name e -/
def b__law_met : Ss := (.cons (.tr (.cons (.ite (.cmp .eq (.var 0) (.cst (.int 0))) (.cons (.ret (.lst false (.cons (.cst (.str "told")) (.cons (.ite (.var 3) (.call .inl 23 (.cons (.var 2) (.cons (.var 1) .nil)) [1, 0]) (.call .inl 23 (.cons (.var 1) (.cons (.var 2) .nil)) [0, 1])) .nil)))) .nil) .nil) (.cons (.ite (.cmp .eq (.var 0) (.cst (.int 1))) (.cons (.ret (.lst false (.cons (.cst (.str "told")) (.cons (.ite (.var 3) (.call .inl 24 (.cons (.var 2) (.cons (.var 1) .nil)) [1, 0]) (.call .inl 24 (.cons (.var 1) (.cons (.var 2) .nil)) [0, 1])) .nil)))) .nil) .nil) (.cons (.ite (.cmp .eq (.var 0) (.cst (.int 2))) (.cons (.ret (.lst false (.cons (.cst (.str "told")) (.cons (.ite (.var 3) (.call .inl 25 (.cons (.var 2) (.cons (.var 1) .nil)) [1, 0]) (.call .inl 25 (.cons (.var 1) (.cons (.var 2) .nil)) [0, 1])) .nil)))) .nil) .nil) (.cons (.ite (.cmp .eq (.var 0) (.cst (.int 3))) (.cons (.ret (.lst false (.cons (.cst (.str "told")) (.cons (.ite (.var 3) (.call .inl 26 (.cons (.var 2) (.cons (.var 1) .nil)) [1, 0]) (.call .inl 26 (.cons (.var 1) (.cons (.var 2) .nil)) [0, 1])) .nil)))) .nil) .nil) (.cons (.ret (.lst false (.cons (.cst (.str "told")) (.cons (.ite (.var 3) (.call .inl 27 (.cons (.var 2) (.cons (.var 1) .nil)) [1, 0]) (.call .inl 27 (.cons (.var 1) (.cons (.var 2) .nil)) [0, 1])) .nil)))) .nil))))) (.cons 2 (some 4) (.cons (.ret (.lst false (.cons (.cst (.str "matrix")) (.cons (.fld 4 0) (.cons (.isx 4 0) .nil))))) .nil) (.cons 4 (some 4) (.cons (.ret (.lst false (.cons (.cst (.str "vector")) (.cons (.fld 4 0) (.cons (.isx 4 0) .nil))))) .nil) (.cons 3 (some 4) (.cons (.ret (.lst false (.cons (.cst (.str "number")) (.cons (.fld 4 0) (.cons (.isx 4 0) .nil))))) .nil) (.cons 1 (some 4) (.cons (.ret (.lst false (.cons (.cst (.str "many")) (.cons (.fld 4 0) (.cons (.isx 4 0) .nil))))) .nil) .nil))))) .nil)
def f__law_met : Fd := ⟨4, 5, b__law_met⟩
abbrev i__law_met : Nat := 42
/-- _law_product: one other columns j i column row -/
def b__law_product : Ss := (.cons (.asg (.nm 2) (.comp true [3] (.nm 3) (.r1 (.bi .len true (.cons (.ix (.var 1) (.cst (.int 0))) .nil))) .no (.call .pure 34 (.cons (.var 0) (.cons (.comp true [6] (.nm 6) (.ex (.var 1)) .no (.ix (.var 6) (.var 3))) .nil)) [0, 1]))) (.cons (.ret (.comp true [4] (.nm 4) (.r1 (.bi .len true (.cons (.var 0) .nil))) .no (.comp true [5] (.nm 5) (.ex (.var 2)) .no (.ix (.var 5) (.var 4))))) .nil))
def f__law_product : Fd := ⟨2, 7, b__law_product⟩
abbrev i__law_product : Nat := 43
/-- _law_great: rows many found square k i j -/
def b__law_great : Ss := (.cons (.par [2, 3] (.cons (.comp true [5] (.nm 5) (.r1 (.bi .len true (.cons (.var 0) .nil))) .no (.comp true [6] (.nm 6) (.r1 (.bi .len true (.cons (.var 0) .nil))) .no (.ite (.cmp .eq (.var 5) (.var 6)) (.cst (.int 0)) (.cst .non)))) (.cons (.var 0) .nil))) (.cons (.fr (.nm 4) (.r1 (.cst (.int 8))) (.cons (.ite (.bin .band true (.bin .shr true (.var 1) (.var 4)) (.cst (.int 1))) (.cons (.asg (.nm 2) (.call .pure 43 (.cons (.var 2) (.cons (.var 3) .nil)) [0, 1])) .nil) .nil) (.cons (.asg (.nm 3) (.call .pure 43 (.cons (.var 3) (.cons (.var 3) .nil)) [0, 1])) .nil))) (.cons (.ret (.var 2)) .nil)))
def f__law_great : Fd := ⟨2, 7, b__law_great⟩
abbrev i__law_great : Nat := 44
/-- _law_told: which one other due by_name kept turn first second told row -/
def b__law_told : Ss := (.cons (.asg (.nm 5) (.lst true (.cons (.comp true [10] (.nm 10) (.ex (.var 1)) .no (.bi .list true (.cons (.var 10) .nil))) (.cons (.ite (.and (.isi [.list] (.var 2)) (.cmp .eq (.var 0) (.cst (.int 1)))) (.bi .list true (.cons (.var 2) .nil)) (.var 2)) .nil)))) (.cons (.fr (.nm 6) (.r1 (.cst (.int 2))) (.cons (.asg (.nm 7) (.ite (.cmp .eq (.var 6) (.cst (.int 0))) (.var 1) (.call .pure 38 (.cons (.var 1) .nil) [0]))) (.cons (.asg (.nm 8) (.ite (.and (.cmp .eq (.var 6) (.cst (.int 1))) (.isi [.list] (.var 2))) (.call .pure 38 (.cons (.var 2) .nil) [0]) (.var 2))) (.cons (.asg (.nm 9) (.call .inl 42 (.cons (.var 0) (.cons (.var 7) (.cons (.var 8) (.cons (.var 4) .nil)))) [0, 1, 2, 3])) (.cons (.ite (.or (.not (.call .snap 31 (.cons (.var 9) (.cons (.lst true (.cons (.cst (.str "told")) (.cons (.var 3) .nil))) .nil)) [0, 1])) (.not (.call .pure 31 (.cons (.comp true [10] (.nm 10) (.ex (.var 7)) .no (.bi .list true (.cons (.var 10) .nil))) (.cons (.ix (.var 5) (.cst (.int 0))) .nil)) [0, 1]))) (.cons (.ret (.cst (.bl false))) .nil) .nil) (.cons (.ite (.cmp .ne (.var 0) (.cst (.int 1))) (.cons (.ex (.me .append (.ix (.ix (.var 9) (.cst (.int 1))) (.cst (.int 0))) (.cons (.cst (.int 0)) .nil))) .nil) .nil) (.cons (.ex (.me .append (.ix (.var 9) (.cst (.int 1))) (.cons (.cst (.int 0)) .nil))) (.cons (.asg (.nm 4) (.not (.var 4))) .nil)))))))) (.cons (.ret (.cst (.bl true))) .nil)))
def f__law_told : Fd := ⟨5, 11, b__law_told⟩
abbrev i__law_told : Nat := 45
/-- _law_powers_right: box by_name size wide rows far found many great i j -/
def b__law_powers_right : Ss := (.cons (.asg (.tp (.cons (.nm 2) (.cons (.nm 3) .nil))) (.tup (.cons (.bin .add true (.cst (.int 1)) (.call .box 30 (.cons (.var 0) (.cons (.cst (.int 4)) .nil)) [0, 1])) (.cons (.ix (.lst true (.cons (.cst (.int 1)) (.cons (.cst (.int 3)) (.cons (.bin .pow true (.cst (.int 10)) (.cst (.int 18))) .nil)))) (.call .box 30 (.cons (.var 0) (.cons (.cst (.int 3)) .nil)) [0, 1])) .nil)))) (.cons (.par [4, 5] (.cons (.call .box 35 (.cons (.var 0) (.cons (.var 2) (.cons (.var 2) (.cons (.var 3) .nil)))) [0, 1, 2, 3]) (.cons (.bin .add true (.cst (.int 1)) (.call .box 30 (.cons (.var 0) (.cons (.cst (.int 9)) .nil)) [0, 1])) .nil))) (.cons (.asg (.nm 6) (.comp true [9] (.nm 9) (.r1 (.var 2)) .no (.comp true [10] (.nm 10) (.r1 (.var 2)) .no (.ite (.cmp .eq (.var 9) (.var 10)) (.cst (.int 0)) (.cst .non))))) (.cons (.fr (.nm 7) (.r1 (.bin .add true (.var 5) (.cst (.int 1)))) (.cons (.ite (.not (.call .pure 45 (.cons (.cst (.int 4)) (.cons (.var 4) (.cons (.var 7) (.cons (.var 6) (.cons (.var 1) .nil))))) [0, 1, 2, 3, 4])) (.cons (.ret (.cst (.bl false))) .nil) .nil) (.cons (.par [1, 6] (.cons (.not (.var 1)) (.cons (.call .pure 43 (.cons (.var 4) (.cons (.var 6) .nil)) [0, 1]) .nil))) .nil))) (.cons (.asg (.nm 8) (.ix (.lst true (.cons (.cst (.int 200)) (.cons (.cst (.int 199)) (.cons (.bin .add true (.cst (.int 100)) (.call .box 30 (.cons (.var 0) (.cons (.cst (.int 100)) .nil)) [0, 1])) .nil)))) (.call .box 30 (.cons (.var 0) (.cons (.cst (.int 3)) .nil)) [0, 1]))) (.cons (.ret (.call .pure 45 (.cons (.cst (.int 4)) (.cons (.var 4) (.cons (.var 8) (.cons (.call .pure 44 (.cons (.var 4) (.cons (.var 8) .nil)) [0, 1]) (.cons (.var 1) .nil))))) [0, 1, 2, 3, 4])) .nil))))))
def f__law_powers_right : Fd := ⟨2, 11, b__law_powers_right⟩
abbrev i__law_powers_right : Nat := 46
/-- _law_right: box by_name rows columns more wide one other same vector number best more_rows i row j x -/
def b__law_right : Ss := (.cons (.asg (.tp (.cons (.nm 2) (.cons (.nm 3) (.cons (.nm 4) .nil)))) (.tup (.cons (.bin .add true (.cst (.int 1)) (.call .box 30 (.cons (.var 0) (.cons (.cst (.int 4)) .nil)) [0, 1])) (.cons (.bin .add true (.cst (.int 1)) (.call .box 30 (.cons (.var 0) (.cons (.cst (.int 4)) .nil)) [0, 1])) (.cons (.bin .add true (.cst (.int 1)) (.call .box 30 (.cons (.var 0) (.cons (.cst (.int 4)) .nil)) [0, 1])) .nil))))) (.cons (.ite (.cmp .eq (.call .box 30 (.cons (.var 0) (.cons (.cst (.int 8)) .nil)) [0, 1]) (.cst (.int 0))) (.cons (.asg (.tp (.cons (.nm 2) (.cons (.nm 3) (.cons (.nm 4) .nil)))) (.tup (.cons (.ix (.lst true (.cons (.cst (.int 20)) (.cons (.cst (.int 7)) (.cons (.cst (.int 3)) .nil)))) (.call .box 30 (.cons (.var 0) (.cons (.cst (.int 3)) .nil)) [0, 1])) (.cons (.cst (.int 20)) (.cons (.ix (.lst true (.cons (.cst (.int 20)) (.cons (.cst (.int 1)) .nil))) (.call .box 30 (.cons (.var 0) (.cons (.cst (.int 2)) .nil)) [0, 1])) .nil))))) .nil) .nil) (.cons (.asg (.nm 5) (.call .box 37 (.cons (.var 0) .nil) [0])) (.cons (.asg (.tp (.cons (.nm 6) (.cons (.nm 7) .nil))) (.tup (.cons (.call .box 35 (.cons (.var 0) (.cons (.var 2) (.cons (.var 3) (.cons (.var 5) .nil)))) [0, 1, 2, 3]) (.cons (.call .box 35 (.cons (.var 0) (.cons (.var 3) (.cons (.var 4) (.cons (.var 5) .nil)))) [0, 1, 2, 3]) .nil)))) (.cons (.asg (.tp (.cons (.nm 8) (.cons (.nm 9) .nil))) (.tup (.cons (.call .box 35 (.cons (.var 0) (.cons (.var 2) (.cons (.var 3) (.cons (.var 5) .nil)))) [0, 1, 2, 3]) (.cons (.call .box 36 (.cons (.var 0) (.cons (.var 3) (.cons (.var 5) .nil))) [0, 1, 2]) .nil)))) (.cons (.asg (.nm 10) (.ix (.lst true (.cons (.cst .non) (.cons (.cst (.int 0)) (.cons (.bin .sub true (.call .box 30 (.cons (.var 0) (.cons (.bin .add true (.bin .mul true (.cst (.int 2)) (.var 5)) (.cst (.int 1))) .nil)) [0, 1]) (.var 5)) .nil)))) (.call .box 30 (.cons (.var 0) (.cons (.cst (.int 3)) .nil)) [0, 1]))) (.cons (.asg (.nm 11) (.comp true [13] (.nm 13) (.r1 (.var 2)) .no (.comp true [15] (.nm 15) (.r1 (.var 3)) .no (.call .pure 33 (.cons (.lst true (.cons (.ix (.ix (.var 6) (.var 13)) (.var 15)) (.cons (.ix (.ix (.var 8) (.var 13)) (.var 15)) .nil))) .nil) [0])))) (.cons (.asg (.nm 12) (.comp true [14] (.nm 14) (.ex (.var 6)) .no (.comp true [16] (.nm 16) (.ex (.var 14)) .no (.call .pure 32 (.cons (.var 16) (.cons (.var 10) .nil)) [0, 1])))) (.cons (.ite (.or (.not (.call .pure 45 (.cons (.cst (.int 0)) (.cons (.var 6) (.cons (.var 7) (.cons (.call .pure 43 (.cons (.var 6) (.cons (.var 7) .nil)) [0, 1]) (.cons (.var 1) .nil))))) [0, 1, 2, 3, 4])) (.not (.call .pure 45 (.cons (.cst (.int 1)) (.cons (.var 6) (.cons (.var 9) (.cons (.call .pure 34 (.cons (.var 6) (.cons (.var 9) .nil)) [0, 1]) (.cons (.not (.var 1)) .nil))))) [0, 1, 2, 3, 4]))) (.cons (.ret (.cst (.bl false))) .nil) .nil) (.cons (.ret (.and (.call .pure 45 (.cons (.cst (.int 2)) (.cons (.var 6) (.cons (.var 8) (.cons (.var 11) (.cons (.var 1) .nil))))) [0, 1, 2, 3, 4]) (.call .pure 45 (.cons (.cst (.int 3)) (.cons (.var 6) (.cons (.var 10) (.cons (.var 12) (.cons (.not (.var 1)) .nil))))) [0, 1, 2, 3, 4]))) .nil))))))))))
def f__law_right : Fd := ⟨2, 17, b__law_right⟩
abbrev i__law_right : Nat := 47
/-- _law_refused: box by_name rows columns one bad odd which apart wide vector number told square many none x -/
def b__law_refused : Ss := (.cons (.par [2, 3] (.cons (.bin .add true (.cst (.int 1)) (.call .box 30 (.cons (.var 0) (.cons (.cst (.int 3)) .nil)) [0, 1])) (.cons (.bin .add true (.cst (.int 1)) (.call .box 30 (.cons (.var 0) (.cons (.cst (.int 3)) .nil)) [0, 1])) .nil))) (.cons (.par [4, 5, 6] (.cons (.call .box 35 (.cons (.var 0) (.cons (.var 2) (.cons (.var 3) (.cons (.cst (.int 3)) .nil)))) [0, 1, 2, 3]) (.cons (.call .box 39 (.cons (.var 0) .nil) [0]) (.cons (.call .box 39 (.cons (.var 0) .nil) [0]) .nil)))) (.cons (.fr (.nm 7) (.r1 (.cst (.int 5))) (.cons (.ite (.not (.call .pure 31 (.cons (.call .pure 42 (.cons (.var 7) (.cons (.var 5) (.cons (.var 6) (.cons (.var 1) .nil)))) [0, 1, 2, 3]) (.cons (.lst true (.cons (.cst (.str "matrix")) (.cons (.var 5) (.cons (.cst (.bl true)) .nil)))) .nil)) [0, 1])) (.cons (.ret (.cst (.bl false))) .nil) .nil) .nil)) (.cons (.asg (.nm 8) (.ix (.lst true (.cons (.call .box 35 (.cons (.var 0) (.cons (.bin .add true (.var 3) (.cst (.int 1))) (.cons (.var 2) (.cons (.cst (.int 3)) .nil)))) [0, 1, 2, 3]) (.cons (.call .box 35 (.cons (.var 0) (.cons (.bin .add true (.var 3) (.cst (.int 1))) (.cons (.cst (.int 1)) (.cons (.cst (.int 2)) .nil)))) [0, 1, 2, 3]) .nil))) (.call .box 30 (.cons (.var 0) (.cons (.cst (.int 2)) .nil)) [0, 1]))) (.cons (.asg (.nm 9) (.ix (.lst true (.cons (.call .box 35 (.cons (.var 0) (.cons (.bin .add true (.var 2) (.cst (.int 1))) (.cons (.var 3) (.cons (.cst (.int 3)) .nil)))) [0, 1, 2, 3]) (.cons (.call .box 35 (.cons (.var 0) (.cons (.var 2) (.cons (.bin .add true (.var 3) (.cst (.int 1))) (.cons (.cst (.int 3)) .nil)))) [0, 1, 2, 3]) .nil))) (.call .box 30 (.cons (.var 0) (.cons (.cst (.int 2)) .nil)) [0, 1]))) (.cons (.par [10, 11] (.cons (.call .box 41 (.cons (.var 0) (.cons (.var 3) .nil)) [0, 1]) (.cons (.ix (.lst true (.cons (.cst (.bl true)) (.cons (.cst (.str "1")) (.cons (.tup (.cons (.cst (.int 1)) .nil)) (.cons (.lst true (.cons (.cst (.int 1)) .nil)) (.cons (.dct true [] .nil) (.cons (.cst (.bl false)) (.cons (.cst (.str ".")) .nil)))))))) (.call .box 30 (.cons (.var 0) (.cons (.cst (.int 7)) .nil)) [0, 1])) .nil))) (.cons (.asg (.nm 12) (.lst true (.cons (.call .pure 42 (.cons (.cst (.int 0)) (.cons (.var 4) (.cons (.var 6) (.cons (.var 1) .nil)))) [0, 1, 2, 3]) (.cons (.call .pure 42 (.cons (.cst (.int 0)) (.cons (.var 4) (.cons (.var 8) (.cons (.not (.var 1)) .nil)))) [0, 1, 2, 3]) (.cons (.call .pure 42 (.cons (.cst (.int 2)) (.cons (.var 4) (.cons (.var 6) (.cons (.var 1) .nil)))) [0, 1, 2, 3]) (.cons (.call .pure 42 (.cons (.cst (.int 2)) (.cons (.var 4) (.cons (.var 9) (.cons (.not (.var 1)) .nil)))) [0, 1, 2, 3]) .nil)))))) (.cons (.ite (.not (.call .pure 31 (.cons (.var 12) (.cons (.comp true [16] (.nm 16) (.ex (.lst true (.cons (.var 6) (.cons (.var 8) (.cons (.var 6) (.cons (.var 9) .nil)))))) .no (.lst true (.cons (.cst (.str "matrix")) (.cons (.var 16) (.cons (.cst (.bl true)) .nil))))) .nil)) [0, 1])) (.cons (.ret (.cst (.bl false))) .nil) .nil) (.cons (.ite (.not (.call .pure 31 (.cons (.lst true (.cons (.call .pure 42 (.cons (.cst (.int 1)) (.cons (.var 4) (.cons (.var 10) (.cons (.var 1) .nil)))) [0, 1, 2, 3]) (.cons (.call .pure 42 (.cons (.cst (.int 3)) (.cons (.var 4) (.cons (.var 11) (.cons (.var 1) .nil)))) [0, 1, 2, 3]) .nil))) (.cons (.lst true (.cons (.lst true (.cons (.cst (.str "vector")) (.cons (.var 10) (.cons (.cst (.bl true)) .nil)))) (.cons (.lst true (.cons (.cst (.str "number")) (.cons (.var 11) (.cons (.cst (.bl true)) .nil)))) .nil))) .nil)) [0, 1])) (.cons (.ret (.cst (.bl false))) .nil) .nil) (.cons (.par [13, 14] (.cons (.call .box 35 (.cons (.var 0) (.cons (.var 2) (.cons (.var 2) (.cons (.cst (.int 3)) .nil)))) [0, 1, 2, 3]) (.cons (.ix (.lst true (.cons (.neg (.cst (.int 1))) (.cons (.cst (.int 201)) (.cons (.cst .non) (.cons (.cst (.bl true)) (.cons (.cst (.str "2")) (.cons (.tup (.cons (.cst (.int 2)) .nil)) (.cons (.dct true [] .nil) (.cons (.bin .pow true (.cst (.int 10)) (.cst (.int 20))) .nil))))))))) (.call .box 30 (.cons (.var 0) (.cons (.cst (.int 8)) .nil)) [0, 1])) .nil))) (.cons (.asg (.nm 15) (.call .box 40 (.cons (.var 0) .nil) [0])) (.cons (.ret (.call .pure 31 (.cons (.lst true (.cons (.call .pure 42 (.cons (.cst (.int 4)) (.cons (.var 15) (.cons (.var 14) (.cons (.var 1) .nil)))) [0, 1, 2, 3]) (.cons (.call .pure 42 (.cons (.cst (.int 4)) (.cons (.var 13) (.cons (.var 14) (.cons (.not (.var 1)) .nil)))) [0, 1, 2, 3]) .nil))) (.cons (.lst true (.cons (.lst true (.cons (.cst (.str "matrix")) (.cons (.var 15) (.cons (.cst (.bl true)) .nil)))) (.cons (.lst true (.cons (.cst (.str "many")) (.cons (.var 14) (.cons (.cst (.bl true)) .nil)))) .nil))) .nil)) [0, 1])) .nil))))))))))))
def f__law_refused : Fd := ⟨2, 17, b__law_refused⟩
abbrev i__law_refused : Nat := 48
/-- law: script k box by_name -/
def b_law : Ss := (.cons (.fr (.nm 1) (.r1 (.cst (.int 3))) (.cons (.asg (.nm 2) (.call .inl 29 (.cons (.call .inl 28 (.cons (.var 0) (.cons (.var 1) .nil)) [0, 1]) .nil) [0])) (.cons (.asg (.nm 3) (.cmp .eq (.call .box 30 (.cons (.var 2) (.cons (.cst (.int 2)) .nil)) [0, 1]) (.cst (.int 1)))) (.cons (.ite (.or (.not (.call .box 47 (.cons (.var 2) (.cons (.var 3) .nil)) [0, 1])) (.or (.not (.call .box 46 (.cons (.var 2) (.cons (.not (.var 3)) .nil)) [0, 1])) (.or (.not (.call .box 48 (.cons (.var 2) (.cons (.var 3) .nil)) [0, 1])) (.not (.call .box 48 (.cons (.var 2) (.cons (.not (.var 3)) .nil)) [0, 1]))))) (.cons (.ret (.cst (.bl false))) .nil) .nil) .nil)))) (.cons (.ret (.cst (.bl true))) .nil))
def f_law : Fd := ⟨1, 4, b_law⟩
abbrev i_law : Nat := 49
def supers : List (List Nat) := [[0], [1, 0], [2, 0], [3, 0], [4, 0]]
def prog : Pg := ⟨[f_is_integer, f_is_between, f_is_list, f_is_number_value, f_are_numbers, f_is_vector_of, f_is_matrix_value, f_is_square_value, f_summed, f_greatest, f_check_matrix, f_check_square, f_check_vector, f_check_same_size, f_as_rows, f_unit_of, f_flipped_of, f_row_times, f_applied_to, f_product_of, f_united_of, f_shifted_of, f_power_of, f_times, f_applied, f_united, f_shifted, f_power, f__law_cell, f__law_box, f__law_take, f__law_same, f__law_sum, f__law_most, f__law_applied, f__law_matrix, f__law_vector, f__law_wide, f__law_turned, f__law_no_matrix, f__law_no_square, f__law_no_vector, f__law_met, f__law_product, f__law_great, f__law_told, f__law_powers_right, f__law_right, f__law_refused, f_law], 1000000, subOf supers⟩
end K02
end TB

end

section
set_option Elab.async false
set_option linter.all false
set_option maxRecDepth 100000
set_option maxHeartbeats 0
namespace TB
namespace K02
open PySem PySem.Spec L2
abbrev pw : Program := PySem.Challenge.pw_tropicbench_k02_products_and_powers
abbrev rw_ : PySem.W.OpenLaw := PySem.Challenge.rw_tropicbench_k02_products_and_powers
def top (i : Nat) : Stmt := pw.main.body.getD i (.Pass ⟨0, 0, 0, 0⟩)
def t_is_integer : FnT := ⟨"is_integer", "is_integer", top 8, ["value"], ["value"]⟩
def t_is_between : FnT := ⟨"is_between", "is_between", top 9, ["value", "least", "greatest"], ["value", "least", "greatest"]⟩
def t_is_list : FnT := ⟨"is_list", "is_list", top 10, ["value"], ["value"]⟩
def t_is_number_value : FnT := ⟨"is_number_value", "is_number_value", top 11, ["value"], ["value"]⟩
def t_are_numbers : FnT := ⟨"are_numbers", "are_numbers", top 12, ["value"], ["value", "item"]⟩
def t_is_vector_of : FnT := ⟨"is_vector_of", "is_vector_of", top 13, ["value", "many"], ["value", "many"]⟩
def t_is_matrix_value : FnT := ⟨"is_matrix_value", "is_matrix_value", top 14, ["value"], ["value", "many", "row"]⟩
def t_is_square_value : FnT := ⟨"is_square_value", "is_square_value", top 15, ["value"], ["value"]⟩
def t_summed : FnT := ⟨"summed", "summed", top 16, ["one", "other"], ["one", "other"]⟩
def t_greatest : FnT := ⟨"greatest", "greatest", top 17, ["numbers"], ["numbers", "known", "number"]⟩
def t_check_matrix : FnT := ⟨"check_matrix", "check_matrix", top 20, ["matrix"], ["matrix"]⟩
def t_check_square : FnT := ⟨"check_square", "check_square", top 21, ["matrix"], ["matrix"]⟩
def t_check_vector : FnT := ⟨"check_vector", "check_vector", top 22, ["vector", "many"], ["vector", "many"]⟩
def t_check_same_size : FnT := ⟨"check_same_size", "check_same_size", top 23, ["one", "other"], ["one", "other"]⟩
def t_as_rows : FnT := ⟨"as_rows", "as_rows", top 24, ["matrix"], ["matrix", "row"]⟩
def t_unit_of : FnT := ⟨"unit_of", "unit_of", top 25, ["size"], ["size", "i", "j"]⟩
def t_flipped_of : FnT := ⟨"flipped_of", "flipped_of", top 26, ["matrix"], ["matrix", "j", "row"]⟩
def t_row_times : FnT := ⟨"row_times", "row_times", top 27, ["row", "column"], ["row", "column", "one", "other"]⟩
def t_applied_to : FnT := ⟨"applied_to", "applied_to", top 28, ["matrix", "vector"], ["matrix", "vector", "row"]⟩
def t_product_of : FnT := ⟨"product_of", "product_of", top 29, ["one", "other"], ["one", "other", "columns", "row", "column"]⟩
def t_united_of : FnT := ⟨"united_of", "united_of", top 30, ["one", "other"], ["one", "other", "row", "more", "pair"]⟩
def t_shifted_of : FnT := ⟨"shifted_of", "shifted_of", top 31, ["matrix", "number"], ["matrix", "number", "row", "item"]⟩
def t_power_of : FnT := ⟨"power_of", "power_of", top 32, ["matrix", "many"], ["matrix", "many", "found", "square"]⟩
def t_times : FnT := ⟨"times", "times", top 33, ["one", "other"], ["one", "other"]⟩
def t_applied : FnT := ⟨"applied", "applied", top 34, ["matrix", "vector"], ["matrix", "vector"]⟩
def t_united : FnT := ⟨"united", "united", top 35, ["one", "other"], ["one", "other"]⟩
def t_shifted : FnT := ⟨"shifted", "shifted", top 36, ["matrix", "number"], ["matrix", "number"]⟩
def t_power : FnT := ⟨"power", "power", top 37, ["matrix", "many"], ["matrix", "many"]⟩
def t__law_cell : FnT := ⟨"_law_cell", "_law_cell", top 39, ["script", "k"], ["script", "k"]⟩
def t__law_box : FnT := ⟨"_law_box", "_law_box", top 40, ["great"], ["great"]⟩
def t__law_take : FnT := ⟨"_law_take", "_law_take", top 41, ["box", "many"], ["box", "many", "mixed", "digit"]⟩
def t__law_same : FnT := ⟨"_law_same", "_law_same", top 42, ["told", "due"], ["told", "due", "key", "k"]⟩
def t__law_sum : FnT := ⟨"_law_sum", "_law_sum", top 43, ["one", "other"], ["one", "other"]⟩
def t__law_most : FnT := ⟨"_law_most", "_law_most", top 44, ["numbers"], ["numbers", "found", "number"]⟩
def t__law_applied : FnT := ⟨"_law_applied", "_law_applied", top 45, ["rows", "vector"], ["rows", "vector", "row", "j"]⟩
def t__law_matrix : FnT := ⟨"_law_matrix", "_law_matrix", top 46, ["box", "rows", "columns", "wide"], ["box", "rows", "columns", "wide", "found", "i", "j"]⟩
def t__law_vector : FnT := ⟨"_law_vector", "_law_vector", top 47, ["box", "many", "wide"], ["box", "many", "wide", "k"]⟩
def t__law_wide : FnT := ⟨"_law_wide", "_law_wide", top 48, ["box"], ["box"]⟩
def t__law_turned : FnT := ⟨"_law_turned", "_law_turned", top 49, ["value"], ["value", "row"]⟩
def t__law_no_matrix : FnT := ⟨"_law_no_matrix", "_law_no_matrix", top 50, ["box"], ["box", "odd"]⟩
def t__law_no_square : FnT := ⟨"_law_no_square", "_law_no_square", top 51, ["box"], ["box"]⟩
def t__law_no_vector : FnT := ⟨"_law_no_vector", "_law_no_vector", top 52, ["box", "many"], ["box", "many", "odd"]⟩
def t__law_met : FnT := ⟨"_law_met", "_law_met", top 53, ["which", "one", "other", "by_name"], ["which", "one", "other", "by_name", "e"]⟩
def t__law_product : FnT := ⟨"_law_product", "_law_product", top 54, ["one", "other"], ["one", "other", "columns", "j", "i", "column", "row"]⟩
def t__law_great : FnT := ⟨"_law_great", "_law_great", top 55, ["rows", "many"], ["rows", "many", "found", "square", "k", "i", "j"]⟩
def t__law_told : FnT := ⟨"_law_told", "_law_told", top 56, ["which", "one", "other", "due", "by_name"], ["which", "one", "other", "due", "by_name", "kept", "turn", "first", "second", "told", "row"]⟩
def t__law_powers_right : FnT := ⟨"_law_powers_right", "_law_powers_right", top 57, ["box", "by_name"], ["box", "by_name", "size", "wide", "rows", "far", "found", "many", "great", "i", "j"]⟩
def t__law_right : FnT := ⟨"_law_right", "_law_right", top 58, ["box", "by_name"], ["box", "by_name", "rows", "columns", "more", "wide", "one", "other", "same", "vector", "number", "best", "more_rows", "i", "row", "j", "x"]⟩
def t__law_refused : FnT := ⟨"_law_refused", "_law_refused", top 59, ["box", "by_name"], ["box", "by_name", "rows", "columns", "one", "bad", "odd", "which", "apart", "wide", "vector", "number", "told", "square", "many", "none", "x"]⟩
def t_law : FnT := ⟨"law", "law", top 60, ["script"], ["script", "k", "box", "by_name"]⟩
def tab : Tab := ⟨[t_is_integer, t_is_between, t_is_list, t_is_number_value, t_are_numbers, t_is_vector_of, t_is_matrix_value, t_is_square_value, t_summed, t_greatest, t_check_matrix, t_check_square, t_check_vector, t_check_same_size, t_as_rows, t_unit_of, t_flipped_of, t_row_times, t_applied_to, t_product_of, t_united_of, t_shifted_of, t_power_of, t_times, t_applied, t_united, t_shifted, t_power, t__law_cell, t__law_box, t__law_take, t__law_same, t__law_sum, t__law_most, t__law_applied, t__law_matrix, t__law_vector, t__law_wide, t__law_turned, t__law_no_matrix, t__law_no_square, t__law_no_vector, t__law_met, t__law_product, t__law_great, t__law_told, t__law_powers_right, t__law_right, t__law_refused, t_law], [⟨"TropicError", []⟩, ⟨"InvalidMany", ["given"]⟩, ⟨"InvalidMatrix", ["given"]⟩, ⟨"InvalidNumber", ["given"]⟩, ⟨"InvalidVector", ["given"]⟩], [("MOST_SIDE", 20), ("MOST_POWER", 200)], [], ["len", "isinstance", "range", "all", "sum", "abs", "list", "tuple", "int", "str", "bool", "dict", "max", "zip"], [], [(0, 1, ([] : List Str), [0]), (2, 1, ([] : List Str), [0]), (3, 1, ([] : List Str), [0]), (4, 1, ([] : List Str), [0]), (5, 2, ([] : List Str), [0, 1]), (6, 1, ([] : List Str), [0]), (7, 1, ([] : List Str), [0]), (10, 1, ([] : List Str), [0]), (9, 1, ([] : List Str), [0]), (8, 2, ([] : List Str), [0, 1]), (17, 2, ([] : List Str), [0, 1]), (16, 1, ([] : List Str), [0]), (15, 1, ([] : List Str), [0]), (14, 1, ([] : List Str), [0]), (19, 2, ([] : List Str), [0, 1]), (12, 2, ([] : List Str), [0, 1]), (18, 2, ([] : List Str), [0, 1]), (13, 2, ([] : List Str), [0, 1]), (20, 2, ([] : List Str), [0, 1]), (21, 2, ([] : List Str), [0, 1]), (11, 1, ([] : List Str), [0]), (22, 2, ([] : List Str), [0, 1]), (1, 3, ([] : List Str), [0, 1, 2]), (31, 2, ([] : List Str), [0, 1]), (33, 1, ([] : List Str), [0]), (32, 2, ([] : List Str), [0, 1]), (30, 2, ([] : List Str), [0, 1]), (39, 1, ([] : List Str), [0]), (27, 0, (["many", "matrix"] : List Str), [1, 0]), (27, 2, ([] : List Str), [0, 1]), (23, 0, (["other", "one"] : List Str), [1, 0]), (23, 2, ([] : List Str), [0, 1]), (24, 0, (["vector", "matrix"] : List Str), [1, 0]), (24, 2, ([] : List Str), [0, 1]), (25, 0, (["other", "one"] : List Str), [1, 0]), (25, 2, ([] : List Str), [0, 1]), (26, 0, (["number", "matrix"] : List Str), [1, 0]), (26, 2, ([] : List Str), [0, 1]), (34, 2, ([] : List Str), [0, 1]), (43, 2, ([] : List Str), [0, 1]), (42, 4, ([] : List Str), [0, 1, 2, 3]), (38, 1, ([] : List Str), [0]), (45, 5, ([] : List Str), [0, 1, 2, 3, 4]), (35, 4, ([] : List Str), [0, 1, 2, 3]), (44, 2, ([] : List Str), [0, 1]), (37, 1, ([] : List Str), [0]), (36, 3, ([] : List Str), [0, 1, 2]), (40, 1, ([] : List Str), [0]), (41, 2, ([] : List Str), [0, 1]), (29, 1, ([] : List Str), [0]), (28, 2, ([] : List Str), [0, 1]), (47, 2, ([] : List Str), [0, 1]), (46, 2, ([] : List Str), [0, 1]), (48, 2, ([] : List Str), [0, 1]), (49, 1, ([] : List Str), [0])], subOf supers⟩
def ini0 : InT := ⟨"InvalidMany", "InvalidMany.__init__", inClass (top 2) 0, "self", ["given"]⟩
def ini1 : InT := ⟨"InvalidMatrix", "InvalidMatrix.__init__", inClass (top 3) 0, "self", ["given"]⟩
def ini2 : InT := ⟨"InvalidNumber", "InvalidNumber.__init__", inClass (top 4) 0, "self", ["given"]⟩
def ini3 : InT := ⟨"InvalidVector", "InvalidVector.__init__", inClass (top 5) 0, "self", ["given"]⟩
def inis : List InT := [ini0, ini1, ini2, ini3]
theorem kb0 : KB t_is_integer.x t_is_integer.qual t_is_integer.st t_is_integer.ps 1 [] [0] := ⟨rfl, fun _ _ _ _ _ _ us ws h1 h2 => match us, ws, h1, h2 with | [_], [], _, _ => by kernel_rfl⟩
theorem kb1 : KB t_is_list.x t_is_list.qual t_is_list.st t_is_list.ps 1 [] [0] := ⟨rfl, fun _ _ _ _ _ _ us ws h1 h2 => match us, ws, h1, h2 with | [_], [], _, _ => by kernel_rfl⟩
theorem kb2 : KB t_is_number_value.x t_is_number_value.qual t_is_number_value.st t_is_number_value.ps 1 [] [0] := ⟨rfl, fun _ _ _ _ _ _ us ws h1 h2 => match us, ws, h1, h2 with | [_], [], _, _ => by kernel_rfl⟩
theorem kb3 : KB t_are_numbers.x t_are_numbers.qual t_are_numbers.st t_are_numbers.ps 1 [] [0] := ⟨rfl, fun _ _ _ _ _ _ us ws h1 h2 => match us, ws, h1, h2 with | [_], [], _, _ => by kernel_rfl⟩
theorem kb4 : KB t_is_vector_of.x t_is_vector_of.qual t_is_vector_of.st t_is_vector_of.ps 2 [] [0, 1] := ⟨rfl, fun _ _ _ _ _ _ us ws h1 h2 => match us, ws, h1, h2 with | [_, _], [], _, _ => by kernel_rfl⟩
theorem kb5 : KB t_is_matrix_value.x t_is_matrix_value.qual t_is_matrix_value.st t_is_matrix_value.ps 1 [] [0] := ⟨rfl, fun _ _ _ _ _ _ us ws h1 h2 => match us, ws, h1, h2 with | [_], [], _, _ => by kernel_rfl⟩
theorem kb6 : KB t_is_square_value.x t_is_square_value.qual t_is_square_value.st t_is_square_value.ps 1 [] [0] := ⟨rfl, fun _ _ _ _ _ _ us ws h1 h2 => match us, ws, h1, h2 with | [_], [], _, _ => by kernel_rfl⟩
theorem kb7 : KB t_check_matrix.x t_check_matrix.qual t_check_matrix.st t_check_matrix.ps 1 [] [0] := ⟨rfl, fun _ _ _ _ _ _ us ws h1 h2 => match us, ws, h1, h2 with | [_], [], _, _ => by kernel_rfl⟩
theorem kb8 : KB t_greatest.x t_greatest.qual t_greatest.st t_greatest.ps 1 [] [0] := ⟨rfl, fun _ _ _ _ _ _ us ws h1 h2 => match us, ws, h1, h2 with | [_], [], _, _ => by kernel_rfl⟩
theorem kb9 : KB t_summed.x t_summed.qual t_summed.st t_summed.ps 2 [] [0, 1] := ⟨rfl, fun _ _ _ _ _ _ us ws h1 h2 => match us, ws, h1, h2 with | [_, _], [], _, _ => by kernel_rfl⟩
theorem kb10 : KB t_row_times.x t_row_times.qual t_row_times.st t_row_times.ps 2 [] [0, 1] := ⟨rfl, fun _ _ _ _ _ _ us ws h1 h2 => match us, ws, h1, h2 with | [_, _], [], _, _ => by kernel_rfl⟩
theorem kb11 : KB t_flipped_of.x t_flipped_of.qual t_flipped_of.st t_flipped_of.ps 1 [] [0] := ⟨rfl, fun _ _ _ _ _ _ us ws h1 h2 => match us, ws, h1, h2 with | [_], [], _, _ => by kernel_rfl⟩
theorem kb12 : KB t_unit_of.x t_unit_of.qual t_unit_of.st t_unit_of.ps 1 [] [0] := ⟨rfl, fun _ _ _ _ _ _ us ws h1 h2 => match us, ws, h1, h2 with | [_], [], _, _ => by kernel_rfl⟩
theorem kb13 : KB t_as_rows.x t_as_rows.qual t_as_rows.st t_as_rows.ps 1 [] [0] := ⟨rfl, fun _ _ _ _ _ _ us ws h1 h2 => match us, ws, h1, h2 with | [_], [], _, _ => by kernel_rfl⟩
theorem kb14 : KB t_product_of.x t_product_of.qual t_product_of.st t_product_of.ps 2 [] [0, 1] := ⟨rfl, fun _ _ _ _ _ _ us ws h1 h2 => match us, ws, h1, h2 with | [_, _], [], _, _ => by kernel_rfl⟩
theorem kb15 : KB t_check_vector.x t_check_vector.qual t_check_vector.st t_check_vector.ps 2 [] [0, 1] := ⟨rfl, fun _ _ _ _ _ _ us ws h1 h2 => match us, ws, h1, h2 with | [_, _], [], _, _ => by kernel_rfl⟩
theorem kb16 : KB t_applied_to.x t_applied_to.qual t_applied_to.st t_applied_to.ps 2 [] [0, 1] := ⟨rfl, fun _ _ _ _ _ _ us ws h1 h2 => match us, ws, h1, h2 with | [_, _], [], _, _ => by kernel_rfl⟩
theorem kb17 : KB t_check_same_size.x t_check_same_size.qual t_check_same_size.st t_check_same_size.ps 2 [] [0, 1] := ⟨rfl, fun _ _ _ _ _ _ us ws h1 h2 => match us, ws, h1, h2 with | [_, _], [], _, _ => by kernel_rfl⟩
theorem kb18 : KB t_united_of.x t_united_of.qual t_united_of.st t_united_of.ps 2 [] [0, 1] := ⟨rfl, fun _ _ _ _ _ _ us ws h1 h2 => match us, ws, h1, h2 with | [_, _], [], _, _ => by kernel_rfl⟩
theorem kb19 : KB t_shifted_of.x t_shifted_of.qual t_shifted_of.st t_shifted_of.ps 2 [] [0, 1] := ⟨rfl, fun _ _ _ _ _ _ us ws h1 h2 => match us, ws, h1, h2 with | [_, _], [], _, _ => by kernel_rfl⟩
theorem kb20 : KB t_check_square.x t_check_square.qual t_check_square.st t_check_square.ps 1 [] [0] := ⟨rfl, fun _ _ _ _ _ _ us ws h1 h2 => match us, ws, h1, h2 with | [_], [], _, _ => by kernel_rfl⟩
theorem kb21 : KB t_power_of.x t_power_of.qual t_power_of.st t_power_of.ps 2 [] [0, 1] := ⟨rfl, fun _ _ _ _ _ _ us ws h1 h2 => match us, ws, h1, h2 with | [_, _], [], _, _ => by kernel_rfl⟩
theorem kb22 : KB t_is_between.x t_is_between.qual t_is_between.st t_is_between.ps 3 [] [0, 1, 2] := ⟨rfl, fun _ _ _ _ _ _ us ws h1 h2 => match us, ws, h1, h2 with | [_, _, _], [], _, _ => by kernel_rfl⟩
theorem kb23 : KB t__law_same.x t__law_same.qual t__law_same.st t__law_same.ps 2 [] [0, 1] := ⟨rfl, fun _ _ _ _ _ _ us ws h1 h2 => match us, ws, h1, h2 with | [_, _], [], _, _ => by kernel_rfl⟩
theorem kb24 : KB t__law_most.x t__law_most.qual t__law_most.st t__law_most.ps 1 [] [0] := ⟨rfl, fun _ _ _ _ _ _ us ws h1 h2 => match us, ws, h1, h2 with | [_], [], _, _ => by kernel_rfl⟩
theorem kb25 : KB t__law_sum.x t__law_sum.qual t__law_sum.st t__law_sum.ps 2 [] [0, 1] := ⟨rfl, fun _ _ _ _ _ _ us ws h1 h2 => match us, ws, h1, h2 with | [_, _], [], _, _ => by kernel_rfl⟩
theorem kb26 : KB t__law_take.x t__law_take.qual t__law_take.st t__law_take.ps 2 [] [0, 1] := ⟨rfl, fun _ _ _ _ _ _ us ws h1 h2 => match us, ws, h1, h2 with | [_, _], [], _, _ => by kernel_rfl⟩
theorem kb27 : KB t__law_no_matrix.x t__law_no_matrix.qual t__law_no_matrix.st t__law_no_matrix.ps 1 [] [0] := ⟨rfl, fun _ _ _ _ _ _ us ws h1 h2 => match us, ws, h1, h2 with | [_], [], _, _ => by kernel_rfl⟩
theorem kb28 : KB t_power.x t_power.qual t_power.st t_power.ps 0 ["many", "matrix"] [1, 0] := ⟨rfl, fun _ _ _ _ _ _ us ws h1 h2 => match us, ws, h1, h2 with | [], [_, _], _, _ => by kernel_rfl⟩
theorem kb29 : KB t_power.x t_power.qual t_power.st t_power.ps 2 [] [0, 1] := ⟨rfl, fun _ _ _ _ _ _ us ws h1 h2 => match us, ws, h1, h2 with | [_, _], [], _, _ => by kernel_rfl⟩
theorem kb30 : KB t_times.x t_times.qual t_times.st t_times.ps 0 ["other", "one"] [1, 0] := ⟨rfl, fun _ _ _ _ _ _ us ws h1 h2 => match us, ws, h1, h2 with | [], [_, _], _, _ => by kernel_rfl⟩
theorem kb31 : KB t_times.x t_times.qual t_times.st t_times.ps 2 [] [0, 1] := ⟨rfl, fun _ _ _ _ _ _ us ws h1 h2 => match us, ws, h1, h2 with | [_, _], [], _, _ => by kernel_rfl⟩
theorem kb32 : KB t_applied.x t_applied.qual t_applied.st t_applied.ps 0 ["vector", "matrix"] [1, 0] := ⟨rfl, fun _ _ _ _ _ _ us ws h1 h2 => match us, ws, h1, h2 with | [], [_, _], _, _ => by kernel_rfl⟩
theorem kb33 : KB t_applied.x t_applied.qual t_applied.st t_applied.ps 2 [] [0, 1] := ⟨rfl, fun _ _ _ _ _ _ us ws h1 h2 => match us, ws, h1, h2 with | [_, _], [], _, _ => by kernel_rfl⟩
theorem kb34 : KB t_united.x t_united.qual t_united.st t_united.ps 0 ["other", "one"] [1, 0] := ⟨rfl, fun _ _ _ _ _ _ us ws h1 h2 => match us, ws, h1, h2 with | [], [_, _], _, _ => by kernel_rfl⟩
theorem kb35 : KB t_united.x t_united.qual t_united.st t_united.ps 2 [] [0, 1] := ⟨rfl, fun _ _ _ _ _ _ us ws h1 h2 => match us, ws, h1, h2 with | [_, _], [], _, _ => by kernel_rfl⟩
theorem kb36 : KB t_shifted.x t_shifted.qual t_shifted.st t_shifted.ps 0 ["number", "matrix"] [1, 0] := ⟨rfl, fun _ _ _ _ _ _ us ws h1 h2 => match us, ws, h1, h2 with | [], [_, _], _, _ => by kernel_rfl⟩
theorem kb37 : KB t_shifted.x t_shifted.qual t_shifted.st t_shifted.ps 2 [] [0, 1] := ⟨rfl, fun _ _ _ _ _ _ us ws h1 h2 => match us, ws, h1, h2 with | [_, _], [], _, _ => by kernel_rfl⟩
theorem kb38 : KB t__law_applied.x t__law_applied.qual t__law_applied.st t__law_applied.ps 2 [] [0, 1] := ⟨rfl, fun _ _ _ _ _ _ us ws h1 h2 => match us, ws, h1, h2 with | [_, _], [], _, _ => by kernel_rfl⟩
theorem kb39 : KB t__law_product.x t__law_product.qual t__law_product.st t__law_product.ps 2 [] [0, 1] := ⟨rfl, fun _ _ _ _ _ _ us ws h1 h2 => match us, ws, h1, h2 with | [_, _], [], _, _ => by kernel_rfl⟩
theorem kb40 : KB t__law_met.x t__law_met.qual t__law_met.st t__law_met.ps 4 [] [0, 1, 2, 3] := ⟨rfl, fun _ _ _ _ _ _ us ws h1 h2 => match us, ws, h1, h2 with | [_, _, _, _], [], _, _ => by kernel_rfl⟩
theorem kb41 : KB t__law_turned.x t__law_turned.qual t__law_turned.st t__law_turned.ps 1 [] [0] := ⟨rfl, fun _ _ _ _ _ _ us ws h1 h2 => match us, ws, h1, h2 with | [_], [], _, _ => by kernel_rfl⟩
theorem kb42 : KB t__law_told.x t__law_told.qual t__law_told.st t__law_told.ps 5 [] [0, 1, 2, 3, 4] := ⟨rfl, fun _ _ _ _ _ _ us ws h1 h2 => match us, ws, h1, h2 with | [_, _, _, _, _], [], _, _ => by kernel_rfl⟩
theorem kb43 : KB t__law_matrix.x t__law_matrix.qual t__law_matrix.st t__law_matrix.ps 4 [] [0, 1, 2, 3] := ⟨rfl, fun _ _ _ _ _ _ us ws h1 h2 => match us, ws, h1, h2 with | [_, _, _, _], [], _, _ => by kernel_rfl⟩
theorem kb44 : KB t__law_great.x t__law_great.qual t__law_great.st t__law_great.ps 2 [] [0, 1] := ⟨rfl, fun _ _ _ _ _ _ us ws h1 h2 => match us, ws, h1, h2 with | [_, _], [], _, _ => by kernel_rfl⟩
theorem kb45 : KB t__law_wide.x t__law_wide.qual t__law_wide.st t__law_wide.ps 1 [] [0] := ⟨rfl, fun _ _ _ _ _ _ us ws h1 h2 => match us, ws, h1, h2 with | [_], [], _, _ => by kernel_rfl⟩
theorem kb46 : KB t__law_vector.x t__law_vector.qual t__law_vector.st t__law_vector.ps 3 [] [0, 1, 2] := ⟨rfl, fun _ _ _ _ _ _ us ws h1 h2 => match us, ws, h1, h2 with | [_, _, _], [], _, _ => by kernel_rfl⟩
theorem kb47 : KB t__law_no_square.x t__law_no_square.qual t__law_no_square.st t__law_no_square.ps 1 [] [0] := ⟨rfl, fun _ _ _ _ _ _ us ws h1 h2 => match us, ws, h1, h2 with | [_], [], _, _ => by kernel_rfl⟩
theorem kb48 : KB t__law_no_vector.x t__law_no_vector.qual t__law_no_vector.st t__law_no_vector.ps 2 [] [0, 1] := ⟨rfl, fun _ _ _ _ _ _ us ws h1 h2 => match us, ws, h1, h2 with | [_, _], [], _, _ => by kernel_rfl⟩
theorem kb49 : KB t__law_box.x t__law_box.qual t__law_box.st t__law_box.ps 1 [] [0] := ⟨rfl, fun _ _ _ _ _ _ us ws h1 h2 => match us, ws, h1, h2 with | [_], [], _, _ => by kernel_rfl⟩
theorem kb50 : KB t__law_cell.x t__law_cell.qual t__law_cell.st t__law_cell.ps 2 [] [0, 1] := ⟨rfl, fun _ _ _ _ _ _ us ws h1 h2 => match us, ws, h1, h2 with | [_, _], [], _, _ => by kernel_rfl⟩
theorem kb51 : KB t__law_right.x t__law_right.qual t__law_right.st t__law_right.ps 2 [] [0, 1] := ⟨rfl, fun _ _ _ _ _ _ us ws h1 h2 => match us, ws, h1, h2 with | [_, _], [], _, _ => by kernel_rfl⟩
theorem kb52 : KB t__law_powers_right.x t__law_powers_right.qual t__law_powers_right.st t__law_powers_right.ps 2 [] [0, 1] := ⟨rfl, fun _ _ _ _ _ _ us ws h1 h2 => match us, ws, h1, h2 with | [_, _], [], _, _ => by kernel_rfl⟩
theorem kb53 : KB t__law_refused.x t__law_refused.qual t__law_refused.st t__law_refused.ps 2 [] [0, 1] := ⟨rfl, fun _ _ _ _ _ _ us ws h1 h2 => match us, ws, h1, h2 with | [_, _], [], _, _ => by kernel_rfl⟩
theorem kb54 : KB t_law.x t_law.qual t_law.st t_law.ps 1 [] [0] := ⟨rfl, fun _ _ _ _ _ _ us ws h1 h2 => match us, ws, h1, h2 with | [_], [], _, _ => by kernel_rfl⟩
theorem kbs_ok : KbsOk tab := by
  refine kbs_of ?_
  intro q hq
  simp only [tab, List.mem_cons, List.not_mem_nil, or_false] at hq
  rcases hq with rfl | rfl | rfl | rfl | rfl | rfl | rfl | rfl | rfl | rfl | rfl | rfl | rfl | rfl | rfl | rfl | rfl | rfl | rfl | rfl | rfl | rfl | rfl | rfl | rfl | rfl | rfl | rfl | rfl | rfl | rfl | rfl | rfl | rfl | rfl | rfl | rfl | rfl | rfl | rfl | rfl | rfl | rfl | rfl | rfl | rfl | rfl | rfl | rfl | rfl | rfl | rfl | rfl | rfl | rfl
  · exact ⟨_, rfl, kb0⟩
  · exact ⟨_, rfl, kb1⟩
  · exact ⟨_, rfl, kb2⟩
  · exact ⟨_, rfl, kb3⟩
  · exact ⟨_, rfl, kb4⟩
  · exact ⟨_, rfl, kb5⟩
  · exact ⟨_, rfl, kb6⟩
  · exact ⟨_, rfl, kb7⟩
  · exact ⟨_, rfl, kb8⟩
  · exact ⟨_, rfl, kb9⟩
  · exact ⟨_, rfl, kb10⟩
  · exact ⟨_, rfl, kb11⟩
  · exact ⟨_, rfl, kb12⟩
  · exact ⟨_, rfl, kb13⟩
  · exact ⟨_, rfl, kb14⟩
  · exact ⟨_, rfl, kb15⟩
  · exact ⟨_, rfl, kb16⟩
  · exact ⟨_, rfl, kb17⟩
  · exact ⟨_, rfl, kb18⟩
  · exact ⟨_, rfl, kb19⟩
  · exact ⟨_, rfl, kb20⟩
  · exact ⟨_, rfl, kb21⟩
  · exact ⟨_, rfl, kb22⟩
  · exact ⟨_, rfl, kb23⟩
  · exact ⟨_, rfl, kb24⟩
  · exact ⟨_, rfl, kb25⟩
  · exact ⟨_, rfl, kb26⟩
  · exact ⟨_, rfl, kb27⟩
  · exact ⟨_, rfl, kb28⟩
  · exact ⟨_, rfl, kb29⟩
  · exact ⟨_, rfl, kb30⟩
  · exact ⟨_, rfl, kb31⟩
  · exact ⟨_, rfl, kb32⟩
  · exact ⟨_, rfl, kb33⟩
  · exact ⟨_, rfl, kb34⟩
  · exact ⟨_, rfl, kb35⟩
  · exact ⟨_, rfl, kb36⟩
  · exact ⟨_, rfl, kb37⟩
  · exact ⟨_, rfl, kb38⟩
  · exact ⟨_, rfl, kb39⟩
  · exact ⟨_, rfl, kb40⟩
  · exact ⟨_, rfl, kb41⟩
  · exact ⟨_, rfl, kb42⟩
  · exact ⟨_, rfl, kb43⟩
  · exact ⟨_, rfl, kb44⟩
  · exact ⟨_, rfl, kb45⟩
  · exact ⟨_, rfl, kb46⟩
  · exact ⟨_, rfl, kb47⟩
  · exact ⟨_, rfl, kb48⟩
  · exact ⟨_, rfl, kb49⟩
  · exact ⟨_, rfl, kb50⟩
  · exact ⟨_, rfl, kb51⟩
  · exact ⟨_, rfl, kb52⟩
  · exact ⟨_, rfl, kb53⟩
  · exact ⟨_, rfl, kb54⟩
theorem ck_ok : textB tab prog = true := by decide +kernel
theorem text : Text tab prog := text_of ck_ok rfl kbs_ok
theorem ini_ok : Inits tab inis := by
  refine inits_of (by decide +kernel) ?_
  intro i hi
  simp only [inis, List.mem_cons, List.not_mem_nil, or_false] at hi
  rcases hi with rfl | rfl | rfl | rfl
  · exact fun _ _ _ _ _ _ us h => match us, h with | [_, _], _ => by kernel_rfl
  · exact fun _ _ _ _ _ _ us h => match us, h with | [_, _], _ => by kernel_rfl
  · exact fun _ _ _ _ _ _ us h => match us, h with | [_, _], _ => by kernel_rfl
  · exact fun _ _ _ _ _ _ us h => match us, h with | [_, _], _ => by kernel_rfl
def loose0 : List PySem.Str := ["TropicError", "InvalidMany", "InvalidMatrix", "InvalidNumber", "InvalidVector", "MOST_SIDE", "is_integer", "is_between", "is_list", "is_number_value", "are_numbers", "is_vector_of", "is_matrix_value", "is_square_value", "summed", "greatest", "MOST_POWER", "check_matrix", "check_square", "check_vector", "check_same_size", "as_rows", "unit_of", "flipped_of", "row_times", "applied_to", "product_of", "united_of", "shifted_of", "power_of"]
def loose1 : List PySem.Str := ["times", "applied", "united", "shifted", "power", "_law_cell", "_law_box", "_law_take", "_law_same", "_law_sum", "_law_most", "_law_applied", "_law_matrix", "_law_vector", "_law_wide", "_law_turned", "_law_no_matrix", "_law_no_square", "_law_no_vector", "_law_met", "_law_product", "_law_great", "_law_told", "_law_powers_right", "_law_right", "_law_refused"]
def names : List PySem.Str := loose0 ++ loose1
abbrev R : PySem.W.OpenRow := PySem.W.OpenLaw.row rw_
abbrev hk : PySem.W.Hook := hookX 5 tab.facts (tab.defs inis) (tabB tab)
def ob (s : PySem.W.SharedT) : Al := obsXG 5 tab.facts (tab.defs inis) (tabB tab) (HandSHeadRun.getT s)
theorem ob_eq (s : PySem.W.SharedT) : ob s = hk.obs s.abs := obsXG_eq (HandSHeadRun.getT_eq s)
theorem run_ok (w : World) : HandSHeadRun.RunEq R (PySem.W.view R.prog [60]) hk ob 8000 names w := by
  intro os
  kernel_rfl
def lawAt : Nat := 60
end K02
end TB

end

section
set_option Elab.async false
set_option linter.all false
set_option maxRecDepth 100000
set_option maxHeartbeats 1000000
namespace TB
namespace K02
open PySem
theorem r_is_integer (n : Nat) {d : D} (hs : d.sm = true) (h : Lh) : run prog (n + 1) i_is_integer [d] h = .ok (.bl (isInt d)) h := by
  rw [run_succ (fd := f_is_integer) rfl rfl]
  cases d <;> first
    | (cases hs; done)
    | rfl
theorem r_is_list (n : Nat) {d : D} (hs : d.sm = true) (h : Lh) : run prog (n + 1) i_is_list [d] h = .ok (.bl (isSeq d)) h := by
  rw [run_succ (fd := f_is_list) rfl rfl]
  cases d <;> first
    | (cases hs; done)
    | rfl
theorem r_is_number_value (n : Nat) {d : D} (hs : d.sm = true) (h : Lh) : run prog (n + 2) i_is_number_value [d] h = .ok (.bl (isNum d)) h := by
  rw [run_succ (fd := f_is_number_value) rfl rfl]
  have hc : callPure (run prog (n + 1)) 0 [d] h = .ok (.bl (isInt d)) h := pure_ok (by show (d.nref && true) = true; rw [D.sm_nref d hs]; rfl) (r_is_integer n hs []) rfl
  have hv : getV (startE 1 [d]) 0 = some d := by cases d <;> first | rfl | cases hs
  cases d <;> first
    | (cases hs; done)
    | (simp only [f_is_number_value, b_is_number_value, Ss.ev, S.ev, E.ev, Es.ev, arrange, callM, Rs.bind, Rs.at, rsO, hv, Option.bind, Option.map, List.getElem?_cons_zero, hc, cop, isD, isNon, truth_bl, Rf.then, Rf.res, isInt, isNum]; done)
def isNums (d : D) : Bool := match seqD d with
  | some ds => ds.all isNum
  | none => false
theorem sm1 {d : D} (hs : d.sm = true) : nrefs [d] = true := by show (d.nref && true) = true; rw [D.sm_nref d hs]; rfl
theorem sm2 {d e : D} (hs : d.sm = true) (he : e.sm = true) : nrefs [d, e] = true := by show (d.nref && (e.nref && true)) = true; rw [D.sm_nref d hs, D.sm_nref e he]; rfl
theorem getV_start {d : D} {ns : Nat} {as : List D} (hs : d.sm = true) : getV (startE ns (d :: as)) 0 = some d := by cases d <;> first | rfl | cases hs
theorem r_are_numbers (n : Nat) {d : D} (hs : d.sm = true) (h : Lh) : run prog (n + 3) i_are_numbers [d] h = .ok (.bl (isNums d)) h := by
  rw [run_succ (fd := f_are_numbers) rfl rfl]
  have hc : callPure (run prog (n + 2)) 2 [d] h = .ok (.bl (isSeq d)) h := pure_ok (sm1 hs) (r_is_list (n + 1) hs []) rfl
  have hv := getV_start (ns := 2) (as := []) hs
  cases e : seqD d with
  | none =>
    have e2 : isSeq d = false := by unfold isSeq; rw [e]; rfl
    simp only [f_are_numbers, b_are_numbers, Ss.ev, S.ev, E.ev, Es.ev, arrange, callM, Rs.bind, Rs.at, rsO, hv, Option.bind, Option.map, List.getElem?_cons_zero, hc, truth_bl, e2, Rf.then, Rf.res, isNums, e]
  | some ds =>
    have e2 : isSeq d = true := by unfold isSeq; rw [e]; rfl
    obtain ⟨hl, hm⟩ := seq_sm hs e
    have hcomp : (E.comp true [1] (.nm 1) (.ex (.var 0)) .no (.call .pure 3 (.cons (.var 1) .nil) [0])).ev ⟨run prog (n + 2), prog.loop, prog.sub⟩ (startE 2 [d]) h = .ok (.lst (ds.map fun d => .bl (isNum d))) h := by
      rw [comp_ev (src := .seq d) (ds := ds) (fun d => [.bl (isNum d)]) (by simp only [It.ev, E.ev, rsO, hv, Rs.bind]) (items_seq e) (by unfold lim; omega) fun x hx acc => step_map acc ?_, map_of]
      · rfl
      · have hx := sm_mem hm x hx
        have hv2 : getV ((wipe (startE 2 [d]) [1]).set 1 (some x)) 1 = some x := by cases x <;> first | rfl | cases hx
        simp only [E.ev, Es.ev, arrange, callM, Rs.bind, rsO, hv2, Option.bind, Option.map, List.getElem?_cons_zero]
        exact pure_ok (sm1 hx) (r_is_number_value n hx []) rfl
    simp only [f_are_numbers, b_are_numbers]
    generalize E.comp true [1] (.nm 1) (.ex (.var 0)) .no (.call .pure 3 (.cons (.var 1) .nil) [0]) = C at hcomp ⊢
    simp only [Ss.ev, S.ev, E.ev, Es.ev, arrange, callM, Rs.bind, Rs.at, rsO, hv, Option.bind, Option.map, List.getElem?_cons_zero, hc, truth_bl, e2, hcomp, bfn_all, fin, P.put, Rf.then, Rf.res, isNums, e]
def isVec (m : Int) (d : D) : Bool := match seqD d with
  | some ds => ds.all isNum && decide ((ds.length : Int) = m)
  | none => false
theorem nref_int (d : D) (m : Int) (hs : d.sm = true) : nrefs [d, .int m] = true := sm2 hs rfl
theorem r_is_vector_of (n : Nat) {d : D} (hs : d.sm = true) (m : Int) (h : Lh) : run prog (n + 4) i_is_vector_of [d, .int m] h = .ok (.bl (isVec m d)) h := by
  rw [run_succ (fd := f_is_vector_of) rfl rfl]
  have hc : callPure (run prog (n + 3)) 4 [d] h = .ok (.bl (isNums d)) h := pure_ok (sm1 hs) (r_are_numbers n hs []) rfl
  have hv := getV_start (ns := 2) (as := [.int m]) hs
  have hv1 : getV (startE 2 [d, .int m]) 1 = some (.int m) := rfl
  cases e : seqD d with
  | none =>
    have e2 : isNums d = false := by unfold isNums; rw [e]
    simp only [f_is_vector_of, b_is_vector_of, Ss.ev, S.ev, E.ev, Es.ev, arrange, callM, Rs.bind, Rs.at, rsO, hv, Option.bind, Option.map, List.getElem?_cons_zero, hc, truth_bl, e2, Rf.then, Rf.res, isVec, e]
  | some ds =>
    have e2 : isNums d = ds.all isNum := by unfold isNums; rw [e]
    have hlen := len_seq (h := h) e
    cases e3 : ds.all isNum with
    | false => simp only [f_is_vector_of, b_is_vector_of, Ss.ev, S.ev, E.ev, Es.ev, arrange, callM, Rs.bind, Rs.at, rsO, hv, Option.bind, Option.map, List.getElem?_cons_zero, hc, truth_bl, e2, e3, Rf.then, Rf.res, isVec, e, Bool.false_and]
    | true => simp only [f_is_vector_of, b_is_vector_of, Ss.ev, S.ev, E.ev, Es.ev, arrange, callM, Rs.bind, Rs.at, rsO, hv, hv1, Option.bind, Option.map, List.getElem?_cons_zero, hc, truth_bl, e2, e3, hlen, fin, P.put, eq_int, Rf.then, Rf.res, isVec, e, Bool.true_and]
def isMat (d : D) : Bool := match seqD d with
  | none => false
  | some rs => decide (1 ≤ (rs.length : Int)) && decide ((rs.length : Int) ≤ 20) && (rs.all isSeq && match rs with
    | [] => false
    | r :: _ => match seqD r with
      | none => false
      | some xs => decide (1 ≤ (xs.length : Int)) && decide ((xs.length : Int) ≤ 20) && rs.all (isVec xs.length))
theorem r_is_matrix_value (n : Nat) {d : D} (hs : d.sm = true) (h : Lh) : run prog (n + 5) i_is_matrix_value [d] h = .ok (.bl (isMat d)) h := by
  rw [run_succ (fd := f_is_matrix_value) rfl rfl]
  have hc : callPure (run prog (n + 4)) 2 [d] h = .ok (.bl (isSeq d)) h := pure_ok (sm1 hs) (r_is_list (n + 3) hs []) rfl
  have hv := getV_start (ns := 3) (as := []) hs
  cases e : seqD d with
  | none =>
    have e2 : isSeq d = false := by unfold isSeq; rw [e]; rfl
    simp only [f_is_matrix_value, b_is_matrix_value, Ss.ev, S.ev, E.ev, Es.ev, arrange, callM, Rs.bind, Rs.at, rsO, hv, Option.bind, Option.map, List.getElem?_cons_zero, hc, truth_bl, e2, Bool.not_false, Rf.then, Rf.res, isMat, e]
  | some rs =>
    have e2 : isSeq d = true := by unfold isSeq; rw [e]; rfl
    obtain ⟨hl, hm⟩ := seq_sm hs e
    have hlen := len_seq (h := h) e
    have comp1 : (E.comp true [2] (.nm 2) (.ex (.var 0)) .no (.call .pure 2 (.cons (.var 2) .nil) [0])).ev ⟨run prog (n + 4), prog.loop, prog.sub⟩ (startE 3 [d]) h = .ok (.lst (rs.map fun d => .bl (isSeq d))) h := by
      rw [comp_ev (src := .seq d) (ds := rs) (fun d => [.bl (isSeq d)]) (by simp only [It.ev, E.ev, rsO, hv, Rs.bind]) (items_seq e) (by unfold lim; omega) fun x hx acc => step_map acc ?_, map_of]
      · rfl
      · have hx := sm_mem hm x hx
        have hv2 : getV ((wipe (startE 3 [d]) [2]).set 2 (some x)) 2 = some x := by cases x <;> first | rfl | cases hx
        simp only [E.ev, Es.ev, arrange, callM, Rs.bind, rsO, hv2, Option.bind, Option.map, List.getElem?_cons_zero]
        exact pure_ok (sm1 hx) (r_is_list (n + 3) hx []) rfl
    simp only [f_is_matrix_value, b_is_matrix_value]
    generalize E.comp true [2] (.nm 2) (.ex (.var 0)) .no (.call .pure 2 (.cons (.var 2) .nil) [0]) = C at comp1 ⊢
    cases p1 : decide (1 ≤ (rs.length : Int)) with
    | false => simp only [Ss.ev, S.ev, E.ev, Es.ev, arrange, callM, Rs.bind, Rs.at, rsO, hv, Option.bind, Option.map, List.getElem?_cons_zero, hc, truth_bl, e2, Bool.not_true, hlen, fin, P.put, cop_le, p1, Bool.not_false, Rf.then, Rf.res, isMat, e, Bool.false_and]
    | true =>
    cases p2 : decide ((rs.length : Int) ≤ 20) with
    | false => simp only [Ss.ev, S.ev, E.ev, Es.ev, arrange, callM, Rs.bind, Rs.at, rsO, hv, Option.bind, Option.map, List.getElem?_cons_zero, hc, truth_bl, e2, Bool.not_true, hlen, fin, P.put, cop_le, p1, p2, Bool.not_false, Rf.then, Rf.res, isMat, e, Bool.false_and, Bool.and_false]
    | true =>
    cases p3 : rs.all isSeq with
    | false => simp only [Ss.ev, S.ev, E.ev, Es.ev, arrange, callM, Rs.bind, Rs.at, rsO, hv, Option.bind, Option.map, List.getElem?_cons_zero, hc, truth_bl, e2, Bool.not_true, hlen, fin, P.put, cop_le, p1, p2, comp1, bfn_all, p3, Bool.not_false, Rf.then, Rf.res, isMat, e, Bool.false_and, Bool.and_false]
    | true =>
    cases rs with
    | nil => simp at p1
    | cons r rr =>
    obtain ⟨xs, hx⟩ : ∃ xs, seqD r = some xs := Option.isSome_iff_exists.mp (List.all_eq_true.mp p3 r List.mem_cons_self)
    have hr := sm_mem hm r List.mem_cons_self
    have i0 : item h d (.int 0) = some r := by
      rw [item_seq (k := 0) e (by decide) (by unfold place; rw [if_pos (by decide), if_pos (by simp)]; rfl)]; rfl
    have hlx := len_seq (h := h) hx
    have hv3 : getV ((startE 3 [d]).set 1 (some (.int xs.length))) 0 = some d := by cases d <;> first | rfl | cases hs
    have hv4 : getV ((startE 3 [d]).set 1 (some (.int xs.length))) 1 = some (.int xs.length) := rfl
    have comp2 : (E.comp true [2] (.nm 2) (.ex (.var 0)) .no (.call .pure 5 (.cons (.var 2) (.cons (.var 1) .nil)) [0, 1])).ev ⟨run prog (n + 4), prog.loop, prog.sub⟩ ((startE 3 [d]).set 1 (some (.int xs.length))) h = .ok (.lst ((r :: rr).map fun d => .bl (isVec xs.length d))) h := by
      rw [comp_ev (src := .seq d) (ds := r :: rr) (fun d => [.bl (isVec xs.length d)]) (by simp only [It.ev, E.ev, rsO, hv3, Rs.bind]) (items_seq e) (by unfold lim; omega) fun x hx acc => step_map acc ?_, map_of]
      · rfl
      · have hx := sm_mem hm x hx
        have hv5 : getV ((wipe ((startE 3 [d]).set 1 (some (.int xs.length))) [2]).set 2 (some x)) 2 = some x := by cases x <;> first | rfl | cases hx
        have hv6 : getV ((wipe ((startE 3 [d]).set 1 (some (.int xs.length))) [2]).set 2 (some x)) 1 = some (.int xs.length) := rfl
        simp only [E.ev, Es.ev, arrange, callM, Rs.bind, rsO, hv5, hv6, Option.bind, Option.map, List.getElem?_cons_zero, List.getElem?_cons_succ]
        exact pure_ok (nref_int _ _ hx) (r_is_vector_of n hx _ []) rfl
    generalize E.comp true [2] (.nm 2) (.ex (.var 0)) .no (.call .pure 5 (.cons (.var 2) (.cons (.var 1) .nil)) [0, 1]) = C2 at comp2 ⊢
    cases q1 : decide (1 ≤ (xs.length : Int)) with
    | false => simp only [Ss.ev, S.ev, E.ev, Es.ev, arrange, callM, Rs.bind, Rs.at, rsO, hv, Option.bind, Option.map, List.getElem?_cons_zero, hc, truth_bl, e2, Bool.not_true, hlen, fin, P.put, cop_le, p1, p2, comp1, bfn_all, p3, i0, hlx, Tg.as, noexc, hv4, q1, Bool.not_false, Rf.then, Rf.res, isMat, e, hx, Bool.false_and, Bool.and_false]
    | true =>
    cases q2 : decide ((xs.length : Int) ≤ 20) with
    | false => simp only [Ss.ev, S.ev, E.ev, Es.ev, arrange, callM, Rs.bind, Rs.at, rsO, hv, Option.bind, Option.map, List.getElem?_cons_zero, hc, truth_bl, e2, Bool.not_true, hlen, fin, P.put, cop_le, p1, p2, comp1, bfn_all, p3, i0, hlx, Tg.as, noexc, hv4, q1, q2, Bool.not_false, Rf.then, Rf.res, isMat, e, hx, Bool.false_and, Bool.and_false]
    | true => simp only [Ss.ev, S.ev, E.ev, Es.ev, arrange, callM, Rs.bind, Rs.at, rsO, hv, Option.bind, Option.map, List.getElem?_cons_zero, hc, truth_bl, e2, Bool.not_true, hlen, fin, P.put, cop_le, p1, p2, comp1, comp2, bfn_all, p3, i0, hlx, Tg.as, noexc, hv4, q1, q2, Bool.not_false, Rf.then, Rf.res, isMat, e, hx, Bool.true_and]
theorem flat_if (p : D → Bool) : ∀ ds : List D, ((ds.flatMap fun d => if (!p d) = true then [d] else []).isEmpty) = ds.all p
  | [] => rfl
  | d :: ds => by
    rw [List.flatMap_cons, List.all_cons, ← flat_if p ds]
    cases p d <;> simp
theorem r_check_matrix (n : Nat) {d : D} (hs : d.sm = true) (h : Lh) : run prog (n + 6) i_check_matrix [d] h = if isMat d = true then .ok .non h else .exc 2 [d] h := by
  rw [run_succ (fd := f_check_matrix) rfl rfl]
  have hc : callPure (run prog (n + 5)) 6 [d] h = .ok (.bl (isMat d)) h := pure_ok (sm1 hs) (r_is_matrix_value n hs []) rfl
  have hv := getV_start (ns := 1) (as := []) hs
  cases e : isMat d with
  | true => simp only [f_check_matrix, b_check_matrix, Ss.ev, S.ev, E.ev, Es.ev, arrange, callM, Rs.bind, Rs.at, rsO, hv, Option.bind, Option.map, List.getElem?_cons_zero, hc, e, truth_bl, Bool.not_true, Rf.then, Rf.res, if_true]
  | false =>
    simp only [f_check_matrix, b_check_matrix, Ss.ev, S.ev, E.ev, Es.ev, arrange, callM, Rs.bind, Rs.at, rsO, hv, Option.bind, Option.map, List.getElem?_cons_zero, hc, e, truth_bl, Bool.not_false, Rf.then, Rf.res]
    rfl
theorem r_law_box (n : Nat) (x : Int) (h : Lh) : ∃ ds, BoxAt 0 ds ∧ run prog (n + 1) i__law_box [.int x] h = .ok (.ref h.length) (h ++ [.lst ds]) := by
  generalize hy : (if x < 0 then -x else x) = y
  have y0 : 0 ≤ y := by rw [← hy]; split <;> omega
  have ab : ∀ h : Lh, bfn h .abs [.int x] = some (.v (.int y)) := fun h => by rw [← hy]; rfl
  have q1 : okPow 10 18 = true := by decide
  refine ⟨bx (decide ((10 : Int) ^ (18 : Int).toNat ≤ y)) y (y.fmod 2147483629) 0, ⟨_, _, _, _, rfl, y0, Int.fmod_nonneg_of_pos _ (by decide), Int.fmod_lt_of_pos _ (by decide), Int.le_refl _, Int.le_refl _⟩, ?_⟩
  rw [run_succ (fd := f__law_box) rfl rfl]
  have hv : getV (startE 1 [.int x]) 0 = some (.int x) := rfl
  have nz : (2147483629 : Int) ≠ 0 := by decide
  simp only [f__law_box, b__law_box, Ss.ev, S.ev, E.ev, Es.ev, Rs.bind, Rs.at, rsO, hv, ab, fin, P.put, bop_pow _ _ _ q1, cop_ge, Option.map, bfn_int, bop_mod _ _ _ nz, List.length_cons, List.length_nil, lim, Nat.reduceAdd, Nat.reduceLeDiff, if_true, Rf.then, Rf.res, bx]
  rfl
theorem isVec_sq (k : Bool) {r : List D} {w : Nat} (h : r.length = w ∧ ∀ x ∈ r, isNum x = true) : isVec w (sq k r) = true := by
  unfold isVec
  rw [seq_sq]
  dsimp only
  rw [h.1, decide_eq_true rfl, List.all_eq_true.mpr h.2]; rfl
theorem isMat_mat (k : Bool) {m : List (List D)} {w : Nat} (r : Rect m w) : isMat (mat k m) = true := by
  have l1 := r.l1
  have l2 := r.l2
  have w1 := r.w1
  have w2 := r.w2
  unfold isMat mat
  rw [seq_sq]
  dsimp only
  rw [List.length_map, decide_eq_true (by omega), decide_eq_true (by omega), List.all_eq_true.mpr (by
    intro x hx
    obtain ⟨y, hy, rfl⟩ := List.mem_map.mp hx
    exact isSeq_sq k y)]
  cases m with
  | nil => cases l1
  | cons y ys =>
    show (match seqD (sq k y) with
      | none => false
      | some xs => decide (1 ≤ (xs.length : Int)) && decide ((xs.length : Int) ≤ 20) && ((y :: ys).map (sq k)).all (isVec xs.length)) = true
    rw [seq_sq]
    have hy := r.hr y List.mem_cons_self
    dsimp only
    rw [hy.1, decide_eq_true (by omega), decide_eq_true (by omega), List.all_eq_true.mpr (by
      intro x hx
      obtain ⟨z, hz, rfl⟩ := List.mem_map.mp hx
      exact isVec_sq k (r.hr z hz))]
    rfl
def flip (m : List (List D)) (w : Nat) : List (List D) := (List.range w).map fun j => m.map fun r => (r[j]?).getD .non
theorem mat_items (k : Bool) (m : List (List D)) {h : Lh} : (Sr.seq (mat k m)).items h = some (m.map (sq k)) := items_seq (seq_sq k _)
theorem map_map_sq (k : Bool) (m : List (List D)) (f : List D → D) (g : D → D) (hf : ∀ r ∈ m, g (sq k r) = f r) : (m.map (sq k)).map g = m.map f := by
  rw [List.map_map]
  exact List.map_congr_left hf
theorem col_ev {cx : Cx} {fz : Bool} {k : Bool} {m : List (List D)} {w j : Nat} (r : Rect m w) (hj : j < w) (h : Lh) {own : List Nat} {t : Nat} {env : Env} {ma jv : Nat} (h0 : getV env ma = some (mat k m)) (h1 : ∀ x, getV ((wipe env own).set t (some (sq k x))) t = some (sq k x)) (h2 : ∀ x, getV ((wipe env own).set t (some (sq k x))) jv = some (.int j)) :
    (E.comp fz own (.nm t) (.ex (.var ma)) .no (.ix (.var t) (.var jv))).ev cx env h = fin fz (some (.l (m.map fun r => (r[j]?).getD .non))) h := by
  rw [comp_ev (src := .seq (mat k m)) (ds := m.map (sq k)) (fun d => [((row d)[j]?).getD .non]) (by simp only [It.ev, E.ev, rsO, h0, Rs.bind]) (mat_items k m) (by have := r.l2; rw [List.length_map]; unfold lim; omega) fun x hx acc => step_map acc ?_, map_of, map_map_sq k m fun r => (r[j]?).getD .non]
  · intro r _; rw [row_sq]
  · obtain ⟨y, hy, rfl⟩ := List.mem_map.mp hx
    have hl := (r.hr y hy).1
    simp only [E.ev, Rs.bind, rsO, h1, h2]
    rw [item_sq k (by omega) (by have := r.w2; omega), row_sq, List.getElem?_eq_getElem (by omega)]
    rfl
theorem rng_map {cx : Cx} {env : Env} {fz : Bool} {own : List Nat} {i : Nat} {it : It} {e : E} {h : Lh} {w : Nat} (F : Nat → D) (hi : it.ev cx env h = .ok (.rng 0 1 w) h) (hw : w ≤ 1000)
    (hs : ∀ j < w, e.ev cx ((wipe env own).set i (some (.int j))) h = .ok (F j) h) : (E.comp fz own (.nm i) it .no e).ev cx env h = fin fz (some (.l ((List.range w).map F))) h := by
  rw [comp_ev (src := .rng 0 1 w) (ds := iotaD w) (fun d => [F (natD d)]) hi (by
    show some _ = some _
    unfold iotaD
    congr 2
    funext i
    congr 1; omega) (by rw [iota_len]; unfold lim; omega) fun x hx acc => step_map acc ?_, map_of]
  · unfold iotaD
    rw [List.map_map]
    rfl
  · obtain ⟨j, hj, rfl⟩ := List.mem_map.mp hx
    exact hs j (List.mem_range.mp hj)
theorem r1_ev {cx : Cx} {env : Env} {a : E} {h : Lh} {w : Nat} (hw : w ≤ 1000) (e : a.ev cx env h = .ok (.int w) h) : (It.r1 a).ev cx env h = .ok (.rng 0 1 w) h := by
  have : okRng (w : Int) = true := decide_eq_true (by omega)
  simp only [It.ev, e, Rs.bind, this, if_true, Int.toNat_natCast]
def zipD (xs ys : List D) : List D := (xs.zip ys).map fun p => D.tup [p.1, p.2]
theorem zip_items {h : Lh} {k k' : Bool} {xs ys : List D} (hl : xs.length = ys.length) : (Sr.zip (sq k xs) (sq k' ys)).items h = some (zipD xs ys) := by
  show (match vw h (sq k xs), vw h (sq k' ys) with
    | some (_, xs), some (_, ys) => if xs.length = ys.length then some ((xs.zip ys).map fun (p : D × D) => D.tup [p.1, p.2]) else none
    | _, _ => none) = _
  rw [vw_sq, vw_sq]
  dsimp only
  rw [if_pos hl]
  rfl
theorem c_matrix_ok (n : Nat) {k : Bool} {m : List (List D)} {w : Nat} (r : Rect m w) (h : Lh) : callPure (run prog (n + 6)) 10 [mat k m] h = .ok .non h := pure_ok (sm1 (r.sm k)) ((r_check_matrix n (r.sm k) []).trans (if_pos (isMat_mat k r))) rfl
theorem c_matrix_no (n : Nat) {d : D} (hs : d.sm = true) (hb : isMat d = false) (h : Lh) : callPure (run prog (n + 6)) 10 [d] h = .exc 2 [d] h := pure_exc (sm1 hs) ((r_check_matrix n hs []).trans (by rw [hb]; rfl)) (sm1 hs)
theorem eq_t (h : Lh) (i j : Int) (e : i = j) : cop h .eq (.int i) (.int j) = some true := by rw [eq_int, decide_eq_true e]
theorem eq_f (h : Lh) (i j : Int) (e : i ≠ j) : cop h .eq (.int i) (.int j) = some false := by rw [eq_int, decide_eq_false e]
def tupD : D → D
  | .lst ds => .tup ds
  | d => d
def turnD : D → D
  | .lst ds => .tup (ds.map tupD)
  | d => d
def isLst : D → Bool
  | .lst _ => true
  | _ => false
theorem isTys_lst {h : Lh} {d : D} (hs : d.sm = true) : isTys h [.list] d = some (isLst d) := by
  cases d <;> first | rfl | cases hs
theorem bfn_tuple_lst (h : Lh) (ds : List D) : bfn h .tuple [.lst ds] = some (.v (.tup ds)) := rfl
theorem sms_map {f : D → D} (hf : ∀ d, d.sm = true → (f d).sm = true) {ds : List D} (h : sms ds = true) : sms (ds.map f) = true := sms_of fun d hd => by
  obtain ⟨x, hx, rfl⟩ := List.mem_map.mp hd
  exact hf x (sm_mem h x hx)
theorem tupD_sm (d : D) (h : d.sm = true) : (tupD d).sm = true := by cases d <;> exact h
theorem turnD_sm (d : D) (h : d.sm = true) : (turnD d).sm = true := by
  cases d <;> first
    | exact h
    | skip
  rename_i ds
  obtain ⟨h1, h2⟩ := sp2 h
  show (decide ((ds.map tupD).length ≤ 100000) && sms (ds.map tupD)) = true
  rw [List.length_map, h1, sms_map tupD_sm h2]; rfl
theorem r_turned (n : Nat) {ds : List D} (hs : (D.lst ds).sm = true) (h : Lh) : run prog (n + 1) i__law_turned [.lst ds] h = .ok (.tup (ds.map tupD)) h := by
  rw [run_env (fd := f__law_turned) (env := [some (.lst ds), none]) rfl rfl rfl]
  obtain ⟨hl, hm⟩ := seq_sm hs (rfl : seqD (.lst ds) = some ds)
  have comp : (E.comp true [1] (.nm 1) (.ex (.var 0)) .no (.ite (.isi [.list] (.var 1)) (.bi .tuple true (.cons (.var 1) .nil)) (.var 1))).ev ⟨run prog n, prog.loop, prog.sub⟩ [some (.lst ds), none] h = .ok (.lst (ds.map tupD)) h := by
    rw [comp_ev (src := .seq (.lst ds)) (ds := ds) (fun d => [tupD d]) rfl rfl (by unfold lim; omega) fun x hx acc => step_map acc ?_, map_of]
    · rfl
    · have hx := sm_mem hm x hx
      have hn := sm_nx hx
      have hv : getV ((wipe [some (.lst ds), none] [1]).set 1 (some x)) 1 = some x := getV_z (s := []) hn
      simp only [E.ev, Es.ev, rsO, hv, Rs.bind, isTys_lst hx, Option.map, truth_bl]
      cases x <;> first
        | rfl
        | cases hx
  show (b__law_turned.ev _ _ _).res = _
  simp only [b__law_turned]
  generalize E.comp true [1] (.nm 1) (.ex (.var 0)) .no (.ite (.isi [.list] (.var 1)) (.bi .tuple true (.cons (.var 1) .nil)) (.var 1)) = C at comp ⊢
  simp only [wipe, Ss.ev, S.ev, E.ev, Es.ev, Eo.ev, It.ev, Tg.as, Tgs.as, arrange, callM, Rs.bind, Rs.at, rsO, Option.bind, Option.map, getV_z, getV_s, gv_int, gv_bl, gv_str, gv_ref, gv_lst, gv_tup, gv_dct, gv_non, startE, List.map, List.set_cons_zero, List.set_cons_succ, List.replicate, List.cons_append, List.nil_append, List.getElem?_cons_zero, List.getElem?_cons_succ, truth_bl, Bool.not_true, Bool.not_false, fin, P.put, lim, List.length_nil, List.length_cons, Nat.reduceAdd, Nat.reduceSub, Nat.reduceLeDiff, if_true, Rf.then, Rf.res, noexc, setAll, isn_non, isD_non, cop_lt, cop_le, cop_gt, cop_ge, eq_int, ne_int, bop_add, bop_sub, bound, comp, bfn_tuple_lst]
theorem deps_num {r : List D} (h : ∀ x ∈ r, isNum x = true) : deps r = 0 := by
  induction r with
  | nil => rfl
  | cons y ys ih =>
    show max y.dep (deps ys) = 0
    rw [ih fun z hz => h z (List.mem_cons_of_mem _ hz)]
    have := h y List.mem_cons_self
    cases y <;> first | rfl | cases this
theorem deps_rows {rs : List (List D)} (h : ∀ r ∈ rs, ∀ x ∈ r, isNum x = true) : deps (rs.map .lst) ≤ 1 := by
  induction rs with
  | nil => exact Nat.zero_le _
  | cons x xs ih =>
    show max (deps x + 1) (deps (xs.map .lst)) ≤ 1
    rw [deps_num (h x List.mem_cons_self)]
    have := ih fun z hz => h z (List.mem_cons_of_mem _ hz)
    omega
theorem same28 : prog.fds[31]? = some ⟨2, 4, smB 31⟩ := rfl
theorem item_vw {h : Lh} {g a : D} {gs : List D} {k : Nat} (hk : gs[k]? = some a) (hb : k ≤ 1000) (h1 : vw h g = some (false, gs)) (h2 : vd h g = none) : item h g (.int k) = some a := by
  have hl := (List.getElem?_eq_some_iff.mp hk).1
  unfold item
  rw [h2]
  dsimp only
  rw [if_pos (show okIx (k : Int) = true from decide_eq_true (by omega)), h1]
  dsimp only
  rw [place_nat hl]
  exact hk
theorem turn_mat {m : List (List D)} {w : Nat} (r : Rect m w) : turnD (mat false m) = mat true m := by
  show D.tup ((m.map (sq false)).map tupD) = D.tup (m.map (sq true))
  rw [List.map_map]
  rfl
theorem getD_num {r : List D} (h : ∀ x ∈ r, isNum x = true) (j : Nat) : isNum ((r[j]?).getD .non) = true := by
  cases e : r[j]? with
  | none => rfl
  | some x => exact h x (List.mem_of_getElem? e)
theorem repl_len (x : D) : ∀ n, (repl [x] n).length = n
  | 0 => rfl
  | n + 1 => by
    show (x :: repl [x] n).length = _
    rw [List.length_cons, repl_len x n]
theorem repl_mem {x y : D} : ∀ {n}, y ∈ repl [x] n → y = x
  | 0, h => by cases h
  | n + 1, h => by
    rcases List.mem_cons.mp (show y ∈ x :: repl [x] n from h) with h | h
    · exact h
    · exact repl_mem h
theorem r_law_cell (n : Nat) {ns : List Int} (hl : ns.length ≤ 63) (k : Nat) (hk : k < 3) {h : Lh} (hh : h[0]? = some (.ro (ns.map .int))) : ∃ x : Int, run prog (n + 1) i__law_cell [.ref 0, .int k] h = .ok (.int x) h := by
  rw [run_env (fd := f__law_cell) (env := [some (.ref 0), some (.int k)]) rfl rfl rfl]
  have v0 : vw h (.ref 0) = some (false, ns.map .int) := by simp only [vw, hh]
  have d0 : vd h (.ref 0) = none := by simp only [vd, hh]
  have ln : bfn h .len [.ref 0] = some (.v (.int ns.length)) := by
    show lenF h (.ref 0) = _
    unfold lenF
    rw [v0]
    dsimp only
    rw [List.length_map]
  show ∃ x : Int, (b__law_cell.ev _ _ _).res = _
  cases p : decide ((k : Int) < ns.length) with
  | true =>
    have hk2 : k < ns.length := by have := of_decide_eq_true p; omega
    have it : item h (.ref 0) (.int k) = some (.int ns[k]) := item_vw (k := k) (by rw [List.getElem?_map, List.getElem?_eq_getElem hk2]; rfl) (by omega) v0 d0
    exact ⟨ns[k], by simp only [b__law_cell, wipe, Ss.ev, S.ev, E.ev, Es.ev, Eo.ev, It.ev, Tg.as, Tgs.as, arrange, callM, Rs.bind, Rs.at, rsO, Option.bind, Option.map, getV_z, getV_s, gv_int, gv_bl, gv_str, gv_ref, gv_lst, gv_tup, gv_dct, gv_non, startE, List.map, List.set_cons_zero, List.set_cons_succ, List.replicate, List.cons_append, List.nil_append, List.getElem?_cons_zero, List.getElem?_cons_succ, truth_bl, Bool.not_true, Bool.not_false, fin, P.put, lim, List.length_nil, List.length_cons, Nat.reduceAdd, Nat.reduceSub, Nat.reduceLeDiff, if_true, Rf.then, Rf.res, noexc, setAll, isn_non, isD_non, cop_lt, cop_le, cop_gt, cop_ge, eq_int, ne_int, bop_add, bop_sub, bound, ln, p, it]⟩
  | false =>
    have m1 : bop h .mul (.int 6089) (.int k) = some (.v (.int (6089 * k))) := bop_mul _ _ _ (okMul_l (by decide) _)
    have sl : slice h (.ref 0) none (some 1) = some (.l ((cutL ns none (some 1)).map .int)) := by
      unfold slice
      rw [v0]
      dsimp only
      rw [cut_map]
    have sm : bfn h .sum [.lst ((cutL ns none (some 1)).map .int)] = some (.v (.int (cutL ns none (some 1)).sum)) := by
      show (match intsOf ((cutL ns none (some 1)).map .int) with
        | some is => some (P.v (.int is.sum))
        | none => none) = _
      rw [intsOf_map]
    have m2 : bop h .mod (.int (cutL ns none (some 1)).sum) (.int 1000033) = some (.v (.int ((cutL ns none (some 1)).sum.fmod 1000033))) := bop_mod _ _ _ (by decide)
    exact ⟨_, by simp only [b__law_cell, wipe, Ss.ev, S.ev, E.ev, Es.ev, Eo.ev, It.ev, Tg.as, Tgs.as, arrange, callM, Rs.bind, Rs.at, rsO, Option.bind, Option.map, getV_z, getV_s, gv_int, gv_bl, gv_str, gv_ref, gv_lst, gv_tup, gv_dct, gv_non, startE, List.map, List.set_cons_zero, List.set_cons_succ, List.replicate, List.cons_append, List.nil_append, List.getElem?_cons_zero, List.getElem?_cons_succ, truth_bl, Bool.not_true, Bool.not_false, fin, P.put, lim, List.length_nil, List.length_cons, Nat.reduceAdd, Nat.reduceSub, Nat.reduceLeDiff, if_true, Rf.then, Rf.res, noexc, setAll, isn_non, isD_non, cop_lt, cop_le, cop_gt, cop_ge, eq_int, ne_int, bop_add, bop_sub, bound, ln, p, m1, sl, sm, m2]; rfl⟩
def addN (x : D) (y : Int) : D := match x with
  | .int i => .int (i + y)
  | _ => .non
theorem r_law_sum (n : Nat) {x : D} (hx : isNum x = true) (y : Int) (h : Lh) : run prog (n + 1) i__law_sum [x, .int y] h = .ok (addN x y) h := by
  rw [run_env (fd := f__law_sum) (env := [some x, some (.int y)]) rfl rfl rfl]
  cases x <;> first
    | (cases hx; done)
    | rfl
theorem c_take {n : Nat} {ds : List D} {N : Int} {H : Lh} (hb : BoxAt N ds) (hN : N < 999999999) {many : Int} (h1 : 1 ≤ many) (h2 : okDiv many = true) :
    ∃ (d : Int) (ds' : List D), 0 ≤ d ∧ d < many ∧ BoxAt (N + 1) ds' ∧ callBox (run prog (n + 1)) 30 [.ref 0, .int many] (.lst ds :: H) = .ok (.int d) (.lst ds' :: H) := by
  obtain ⟨d, ds', a, b, c, e⟩ := box_take (p := prog) (tk := 30) rfl n (h := .lst ds :: H) (k := 0) rfl hb hN h1 h2
  exact ⟨d, ds', a, b, c, e⟩
theorem okDiv_n {k : Nat} (h1 : 1 ≤ k) (h2 : k ≤ 1000000) : okDiv (k : Int) = true := okDiv_s (by omega) (by omega)
def matB : Ss := match b__law_matrix with
  | .cons _ (.cons (.fr _ _ b) _) => b
  | _ => .nil
theorem mat_row {n : Nat} {ds : List D} {N : Int} {found : List D} (hb : BoxAt N ds) (hN : N + 2000 < 999999999) {a w : Int} {c : Nat} (hc : c ≤ 20) (hw : 1 ≤ w) (ho : okDiv (2 * w + 1) = true) (ho2 : okMul 2 w = true) (v5 v6 : Option D) :
    ∃ (r : List D) (ds' : List D), r.length = c ∧ (∀ x ∈ r, isNum x = true) ∧ BoxAt (N + 40) ds' ∧ (E.comp true [6] (.nm 6) (.r1 (.var 2)) .no (.ite (.cmp .eq (.call .box 30 (.cons (.var 0) (.cons (.cst (.int 4)) .nil)) [0, 1]) (.cst (.int 0))) (.cst .non) (.bin .sub true (.call .box 30 (.cons (.var 0) (.cons (.bin .add true (.bin .mul true (.cst (.int 2)) (.var 3)) (.cst (.int 1))) .nil)) [0, 1]) (.var 3)))).ev ⟨run prog (n + 1), prog.loop, prog.sub⟩ [some (.ref 0), some (.int a), some (.int c), some (.int w), some (.ref 1), v5, v6] [.lst ds, .lst found] = .ok (.lst r) [.lst ds', .lst found] := by
  obtain ⟨vs, h', l, hV, ⟨ds', rfl, hb'⟩, e⟩ := comp_draws (cx := ⟨run prog (n + 1), prog.loop, prog.sub⟩) (env := [some (.ref 0), some (.int a), some (.int c), some (.int w), some (.ref 1), v5, v6]) (own := [6]) (t := 6) (it := .r1 (.var 2)) (e := .ite (.cmp .eq (.call .box 30 (.cons (.var 0) (.cons (.cst (.int 4)) .nil)) [0, 1]) (.cst (.int 0))) (.cst .non) (.bin .sub true (.call .box 30 (.cons (.var 0) (.cons (.bin .add true (.bin .mul true (.cst (.int 2)) (.var 3)) (.cst (.int 1))) .nil)) [0, 1]) (.var 3))) (h := [.lst ds, .lst found]) (src := .rng 0 1 c) (ds := iotaD c)
    (fun j h => ∃ ds', h = [.lst ds', .lst found] ∧ BoxAt (N + 2 * j) ds') (fun _ v => isNum v = true) (r1_ev (by omega) rfl) (fun h => by rw [iota_len]; rfl) (fun h i hi => rng_at (by rw [iota_len] at hi; exact hi)) (by rw [iota_len]; unfold lim; omega) ⟨ds, rfl, by simpa using hb⟩ (by
      rintro i d h hd ⟨ds1, rfl, hb1⟩
      obtain ⟨hi, rfl⟩ := iota_get hd
      obtain ⟨d1, ds2, a1, a2, hb2, e1⟩ := c_take (n := n) (H := [.lst found]) hb1 (by omega) (many := 4) (by decide) (by decide)
      obtain ⟨d2, ds3, a3, a4, hb3, e2⟩ := c_take (n := n) (H := [.lst found]) hb2 (by omega) (many := 2 * w + 1) (by omega) ho
      by_cases z : d1 = 0
      · have e0 := eq_t [.lst ds2, .lst found] d1 0 z
        exact ⟨.non, _, rfl, ⟨ds2, rfl, hb2.mono (by push_cast; omega)⟩, by simp only [wipe, Ss.ev, S.ev, E.ev, Es.ev, Eo.ev, It.ev, Tg.as, Tgs.as, arrange, callM, Rs.bind, Rs.at, rsO, Option.bind, Option.map, getV_z, getV_s, gv_int, gv_bl, gv_str, gv_ref, gv_lst, gv_tup, gv_dct, gv_non, startE, List.map, List.set_cons_zero, List.set_cons_succ, List.replicate, List.cons_append, List.nil_append, List.getElem?_cons_zero, List.getElem?_cons_succ, truth_bl, Bool.not_true, Bool.not_false, fin, P.put, lim, List.length_nil, List.length_cons, Nat.reduceAdd, Nat.reduceSub, Nat.reduceLeDiff, if_true, Rf.then, Rf.res, noexc, setAll, isn_non, isD_non, cop_lt, cop_le, cop_gt, cop_ge, bop_add, bop_sub, bound, e1, e0]⟩
      · have e0 := eq_f [.lst ds2, .lst found] d1 0 z
        have m1 : bop [.lst ds2, .lst found] .mul (.int 2) (.int w) = some (.v (.int (2 * w))) := bop_mul _ _ _ ho2
        exact ⟨.int (d2 - w), _, rfl, ⟨ds3, rfl, hb3.mono (by push_cast; omega)⟩, by simp only [wipe, Ss.ev, S.ev, E.ev, Es.ev, Eo.ev, It.ev, Tg.as, Tgs.as, arrange, callM, Rs.bind, Rs.at, rsO, Option.bind, Option.map, getV_z, getV_s, gv_int, gv_bl, gv_str, gv_ref, gv_lst, gv_tup, gv_dct, gv_non, startE, List.map, List.set_cons_zero, List.set_cons_succ, List.replicate, List.cons_append, List.nil_append, List.getElem?_cons_zero, List.getElem?_cons_succ, truth_bl, Bool.not_true, Bool.not_false, fin, P.put, lim, List.length_nil, List.length_cons, Nat.reduceAdd, Nat.reduceSub, Nat.reduceLeDiff, if_true, Rf.then, Rf.res, noexc, setAll, isn_non, isD_non, cop_lt, cop_le, cop_gt, cop_ge, bop_add, bop_sub, bound, e1, e0, m1, e2]⟩)
  rw [iota_len] at l hb'
  refine ⟨vs, ds', l, fun x hx => ?_, hb'.mono (by omega), e⟩
  obtain ⟨i, hi, rfl⟩ := List.getElem_of_mem hx
  exact hV i (.int i) _ (by unfold iotaD; rw [List.getElem?_map, List.getElem?_range (by omega)]; rfl) (List.getElem?_eq_getElem hi)
theorem r_law_matrix (n : Nat) {ds : List D} {N : Int} (hb : BoxAt N ds) (hN : N + 3000 < 999999999) {a c : Nat} {w : Int} (a1 : 1 ≤ a) (ha : a ≤ 20) (c1 : 1 ≤ c) (hc : c ≤ 20) (hw : 1 ≤ w) (ho : okDiv (2 * w + 1) = true) (ho2 : okMul 2 w = true) :
    ∃ (m : List (List D)) (ds' : List D), Rect m c ∧ m.length = a ∧ BoxAt (N + 800) ds' ∧ run prog (n + 2) i__law_matrix [.ref 0, .int a, .int c, .int w] [.lst ds] = .ok (.ref 1) [.lst ds', .lst (m.map .lst)] := by
  rw [run_env (fd := f__law_matrix) (env := [some (.ref 0), some (.int a), some (.int c), some (.int w), none, none, none]) rfl rfl rfl]
  have lp := fr_inv (cx := ⟨run prog (n + 1), prog.loop, prog.sub⟩) (t := .nm 5) (it := .r1 (.var 1)) (b := matB) (s := [some (.ref 0), some (.int a), some (.int c), some (.int w), some (.ref 1), none, none]) (h := [.lst ds, .lst []]) (src := .rng 0 1 a) (ds := iotaD a)
    (Inv := fun i s h => ∃ (v5 : Option D) (m : List (List D)) (ds' : List D), s = [some (.ref 0), some (.int a), some (.int c), some (.int w), some (.ref 1), v5, none] ∧ h = [.lst ds', .lst (m.map .lst)] ∧ BoxAt (N + 40 * i) ds' ∧ m.length = i ∧ ∀ r ∈ m, r.length = c ∧ ∀ x ∈ r, isNum x = true)
    (r1_ev (by omega) rfl) (fun h => by rw [iota_len]; rfl) (fun h i hi => rng_at (by rw [iota_len] at hi; exact hi)) ⟨none, [], ds, rfl, rfl, by simpa using hb, rfl, fun r hr => by cases hr⟩ (by
      rintro i d s h hd ⟨v5, m, ds1, rfl, rfl, hb1, hl, hr⟩
      obtain ⟨hi, rfl⟩ := iota_get hd
      obtain ⟨r, ds2, l2, n2, hb2, e⟩ := mat_row (n := n) (found := m.map .lst) (a := a) hb1 (by omega) hc hw ho ho2 (some (.int i)) none
      refine ⟨_, _, ⟨some (.int i), m ++ [r], ds2, rfl, rfl, hb2.mono (by push_cast; omega), by simp [hl], fun x hx => ?_⟩, ?_⟩
      · rcases List.mem_append.mp hx with hx | hx
        · exact hr x hx
        · rw [List.mem_singleton.mp hx]; exact ⟨l2, n2⟩
      · have vm1 : vm [.lst ds1, .lst (m.map .lst)] (.ref 1) = some (false, m.map .lst) := rfl
        have m1 : met [.lst ds2, .lst (m.map .lst)] .append (.ref 1) [.lst r] = .ok .non [.lst ds2, .lst ((m ++ [r]).map .lst)] := by
          show (match (if (m.map D.lst).length < lim then some (D.non, m.map D.lst ++ [.lst r]) else none) with
            | some (d, ds') => Rs.ok d [.lst ds2, .lst ds']
            | none => .stuck) = _
          rw [if_pos (by rw [List.length_map]; unfold lim; omega), List.map_append]
          rfl
        show forStep _ _ _ _ _ _ = _
        unfold forStep
        simp only [matB, b__law_matrix]
        generalize E.comp true [6] (.nm 6) (.r1 (.var 2)) .no (.ite (.cmp .eq (.call .box 30 (.cons (.var 0) (.cons (.cst (.int 4)) .nil)) [0, 1]) (.cst (.int 0))) (.cst .non) (.bin .sub true (.call .box 30 (.cons (.var 0) (.cons (.bin .add true (.bin .mul true (.cst (.int 2)) (.var 3)) (.cst (.int 1))) .nil)) [0, 1]) (.var 3))) = C at e ⊢
        simp only [wipe, Ss.ev, S.ev, E.ev, Es.ev, Eo.ev, It.ev, Tg.as, Tgs.as, arrange, callM, Rs.bind, Rs.at, rsO, Option.bind, Option.map, getV_z, getV_s, gv_int, gv_bl, gv_str, gv_ref, gv_lst, gv_tup, gv_dct, gv_non, startE, List.map, List.set_cons_zero, List.set_cons_succ, List.replicate, List.cons_append, List.nil_append, List.getElem?_cons_zero, List.getElem?_cons_succ, truth_bl, Bool.not_true, Bool.not_false, fin, P.put, lim, List.length_nil, List.length_cons, Nat.reduceAdd, Nat.reduceSub, Nat.reduceLeDiff, if_true, Rf.then, Rf.res, noexc, setAll, isn_non, isD_non, cop_lt, cop_le, cop_gt, cop_ge, eq_int, ne_int, bop_add, bop_sub, bound, vm1, e, m1])
  obtain ⟨s', h', ⟨v5, m, ds', rfl, rfl, hb', hl, hr⟩, e⟩ := lp
  rw [iota_len] at hl hb'
  refine ⟨m, ds', ⟨by omega, by omega, c1, hc, hr⟩, hl, hb'.mono (by omega), ?_⟩
  show (Rf.then (Rf.ok (Fl.nx [some (.ref 0), some (.int a), some (.int c), some (.int w), some (.ref 1), none, none]) [.lst ds, .lst []]) fun s h => (S.ev ⟨run prog (n + 1), prog.loop, prog.sub⟩ (.fr (.nm 5) (.r1 (.var 1)) matB) s h).then fun s h => Ss.ev ⟨run prog (n + 1), prog.loop, prog.sub⟩ (.cons (.ret (.var 4)) .nil) s h).res = _
  show ((S.ev ⟨run prog (n + 1), prog.loop, prog.sub⟩ (.fr (.nm 5) (.r1 (.var 1)) matB) _ _).then _).res = _
  rw [e]
  rfl
theorem meL_pop {h : Lh} {ds : List D} {i : Int} {k : Nat} {x : D} (ok : okIx i = true) (pl : place i ds.length = some k) (g : ds[k]? = some x) : meL h .popAt ds [.int i] = some (x, ds.eraseIdx k) := by
  simp only [meL, ok, if_true, pl, g]
theorem meL_app {h : Lh} {ds : List D} {x : D} (l : ds.length < lim) : meL h .append ds [x] = some (.non, ds ++ [x]) := by
  simp only [meL, if_pos l]
theorem met_ok {h : Lh} {m : Me} {n : Nat} {as ds ds' : List D} {d : D} (e1 : h[n]? = some (.lst ds)) (e2 : meL h m ds as = some (d, ds')) : met h m (.ref n) as = .ok d (h.set n (.lst ds')) := by
  simp only [met, e1, e2]
def badE : E := match b__law_no_matrix with
  | .cons (.asg _ e) _ => e
  | _ => .cst .non
def rsGet : Rs D → List D
  | .ok (.lst ds) _ => ds
  | _ => []
def badL : List D := rsGet (badE.ev ⟨fun _ _ _ => .stuck, 0, fun _ _ => false⟩ [] [])
theorem bad_ok : badL.all (fun d => d.sm && (!isMat d && decide (d.dep ≤ 4))) = true := by decide +kernel
theorem bad_len : badL.length = 18 := by decide +kernel
theorem badE_ev (cx : Cx) (s : Env) (h : Lh) : badE.ev cx s h = .ok (.lst badL) h := rfl
theorem r_no_matrix (n : Nat) {ds : List D} {N : Int} (hb : BoxAt N ds) (hN : N < 999999999) : ∃ (d : D) (ds' : List D), d.sm = true ∧ isMat d = false ∧ d.dep ≤ 4 ∧ BoxAt (N + 1) ds' ∧ run prog (n + 2) i__law_no_matrix [.ref 0] [.lst ds] = .ok d [.lst ds'] := by
  rw [run_env (fd := f__law_no_matrix) (env := [some (.ref 0), none]) rfl rfl rfl]
  obtain ⟨d1, ds1, a1, a2, hb1, e1⟩ := c_take (n := n) (H := []) hb hN (many := 18) (by decide) (by decide)
  obtain ⟨d, hd, it⟩ := item_lst (h := [.lst ds1]) (ds := badL) a1 (by rw [bad_len]; exact a2) (by rw [bad_len]; decide)
  have ok := List.all_eq_true.mp bad_ok d hd
  obtain ⟨o1, o2⟩ := sp2 ok
  obtain ⟨o2, o3⟩ := sp2 o2
  refine ⟨d, ds1, o1, by simpa using o2, of_decide_eq_true o3, hb1, ?_⟩
  have ln : bfn [.lst ds] .len [.lst badL] = some (.v (.int 18)) := by
    rw [bfn_len_lst, bad_len]; rfl
  show (b__law_no_matrix.ev _ _ _).res = _
  rw [show b__law_no_matrix = .cons (.asg (.nm 1) badE) (.cons (.ret (.ix (.var 1) (.call .box 30 (.cons (.var 0) (.cons (.bi .len true (.cons (.var 1) .nil)) .nil)) [0, 1]))) .nil) from rfl]
  have hE : badE.ev ⟨run prog (n + 1), prog.loop, prog.sub⟩ [some (.ref 0), none] [.lst ds] = .ok (.lst badL) [.lst ds] := badE_ev _ _ _
  generalize badE = BE at hE ⊢
  generalize badL = BL at *
  simp only [wipe, Ss.ev, S.ev, E.ev, Es.ev, Eo.ev, It.ev, Tg.as, Tgs.as, arrange, callM, Rs.bind, Rs.at, rsO, Option.bind, Option.map, getV_z, getV_s, gv_int, gv_bl, gv_str, gv_ref, gv_lst, gv_tup, gv_dct, gv_non, startE, List.map, List.set_cons_zero, List.set_cons_succ, List.replicate, List.cons_append, List.nil_append, List.getElem?_cons_zero, List.getElem?_cons_succ, truth_bl, Bool.not_true, Bool.not_false, fin, P.put, lim, List.length_nil, List.length_cons, Nat.reduceAdd, Nat.reduceSub, Nat.reduceLeDiff, if_true, Rf.then, Rf.res, noexc, setAll, isn_non, isD_non, cop_lt, cop_le, cop_gt, cop_ge, eq_int, ne_int, bop_add, bop_sub, bound, hE, ln, e1, it]
theorem c_no_matrix (n : Nat) {ds : List D} {N : Int} (hb : BoxAt N ds) (hN : N < 999999999) (H : Lh) : ∃ (d : D) (ds' : List D), d.sm = true ∧ isMat d = false ∧ d.dep ≤ 4 ∧ BoxAt (N + 1) ds' ∧ callBox (run prog (n + 2)) 39 [.ref 0] (.lst ds :: H) = .ok d (.lst ds' :: H) := by
  obtain ⟨d, ds', o1, o2, o3, hb', e⟩ := r_no_matrix n hb hN
  exact ⟨d, ds', o1, o2, o3, hb', box_call (h := .lst ds :: H) (k := 0) rfl rfl hb.nref e hb'.nref (thaw_nref (D.sm_nref d o1))⟩
theorem sms_cut {xs : List D} (h : sms xs = true) (a b : Option Int) : sms (cutL xs a b) = true := cut_sms h
theorem repl_sms {ds : List D} (h : sms ds = true) : ∀ n, sms (repl ds n) = true
  | 0 => rfl
  | n + 1 => sms_app h (repl_sms h n)
theorem repl_lens (ds : List D) : ∀ n, (repl ds n).length = ds.length * n
  | 0 => rfl
  | n + 1 => by
    show (ds ++ repl ds n).length = _
    rw [List.length_append, repl_lens ds n, Nat.mul_succ, Nat.add_comm]
theorem bop_rep (h : Lh) {ds : List D} {k : Nat} (hl : ds.length ≤ 20) (hk : k ≤ 1000) : bop h .mul (.lst ds) (.int k) = some (.l (repl ds k)) := by
  have q : ds.length * k ≤ lim := by
    have : ds.length * k ≤ 20 * 1000 := Nat.mul_le_mul hl hk
    unfold lim
    omega
  show (if (decide (-1000000 ≤ (k : Int) ∧ (k : Int) ≤ 1000000)) then (if ds.length * (k : Int).toNat ≤ lim then some (P.l (repl ds (k : Int).toNat)) else none) else none) = _
  rw [if_pos (decide_eq_true (by omega)), Int.toNat_natCast, if_pos q]
theorem c_same (n : Nat) {d : D} (hs : d.sm = true) (hd : d.dep ≤ n) (h : Lh) : callPure (run prog (n + 1)) 31 [d, d] h = .ok (.bl true) h := pure_ok (sm2 hs hs) (same_ok same28 n d hs hd []) rfl
theorem cut_take {α : Type} (xs : List α) {v : Int} (h : 0 ≤ v) : cutL xs none (some v) = xs.take v.toNat := by
  have e1 : sIx xs.length xs.length (some v) = min v.toNat xs.length := if_neg (by omega)
  have e2 : sIx xs.length 0 none = 0 := rfl
  unfold cutL
  rw [e1, e2, List.drop_zero, Nat.sub_zero]
  by_cases c : v.toNat ≤ xs.length
  · rw [Nat.min_eq_left c]
  · rw [Nat.min_eq_right (by omega), List.take_of_length_le (Nat.le_refl _), List.take_of_length_le (by omega)]
theorem rng_tab {cx : Cx} {env : Env} {own : List Nat} {i : Nat} {it : It} {e : E} {h : Lh} {w : Nat} (F : Nat → List D) (hi : it.ev cx env h = .ok (.rng 0 1 w) h) (hw : w ≤ 1000)
    (hs : ∀ j < w, e.ev cx ((wipe env own).set i (some (.int j))) h = .ok (.lst (F j)) h) : (E.comp true own (.nm i) it .no e).ev cx env h = .ok (.lst (((List.range w).map F).map .lst)) h := by
  rw [rng_map (fun j => .lst (F j)) hi hw hs, List.map_map]
  rfl
theorem step_ifT {cx : Cx} {env env2 : Env} {own : List Nat} {t : Tg} {c e : E} {h : Lh} {d v b : D} {k : Bool} (acc : List D) (ht : t.as cx (wipe env own) d h = .ok env2 h) (hc : c.ev cx env2 h = .ok b h) (hb : truth h b = some k) (he : k = true → e.ev cx env2 h = .ok v h) :
    compStep cx env own t (.so c) e d acc h = .ok (acc ++ if k = true then [v] else []) h := by
  unfold compStep
  rw [ht]
  show noexc (((c.ev cx env2 h).bind fun x h => .ok (some x) h).bind fun b h => match b with
    | some b => (match truth h b with
      | some true => (e.ev cx env2 h).bind fun x h => .ok (acc ++ [x]) h
      | some false => .ok acc h
      | none => .stuck)
    | none => (e.ev cx env2 h).bind fun x h => .ok (acc ++ [x]) h) = _
  rw [hc]
  show noexc (match truth h b with
      | some true => (e.ev cx env2 h).bind fun x h => .ok (acc ++ [x]) h
      | some false => .ok acc h
      | none => .stuck) = _
  rw [hb]
  cases k with
  | true => dsimp only; rw [he rfl]; rfl
  | false => dsimp only; simp [noexc]
theorem flat_if2 (p : D → Bool) (f : D → D) : ∀ ds : List D, ((ds.flatMap fun d => if p d = true then [f d] else []).isEmpty) = ds.all fun d => !p d
  | [] => rfl
  | d :: ds => by
    rw [List.flatMap_cons, List.all_cons, ← flat_if2 p f ds]
    cases p d <;> simp
def fstD : D → D
  | .tup (x :: _) => x
  | _ => .non
theorem place_int {i : Int} {n : Nat} (h0 : 0 ≤ i) (h1 : i < n) : place i n = some i.toNat := by
  unfold place
  rw [if_pos h0, if_pos h1]
theorem okIx_int {i : Int} (h0 : 0 ≤ i) (h1 : i ≤ 1000) : okIx i = true := decide_eq_true (by omega)
theorem setIx_ok {h : Lh} {n : Nat} {ds : List D} {i : Int} {k : Nat} {v : D} (e : h[n]? = some (.lst ds)) (ok : okIx i = true) (pl : place i ds.length = some k) : setIx h (.ref n) (.int i) v = some (h.set n (.lst (ds.set k v))) := by
  simp only [setIx, e, ok, if_true, pl]
theorem item_ref {h : Lh} {n : Nat} {ds : List D} {i : Int} {k : Nat} {a : D} (e : h[n]? = some (.lst ds)) (ok : okIx i = true) (pl : place i ds.length = some k) (hk : ds[k]? = some a) : item h (.ref n) (.int i) = some a := by
  simp only [item, vd, vw, e, ok, if_true, pl, hk]
theorem str1_sm : (D.str "1").sm = true := by decide +kernel
theorem rect_dep {m : List (List D)} {k : Bool} (h : ∀ r ∈ m, ∀ x ∈ r, isNum x = true) : (mat k m).dep ≤ 2 := by
  have : deps (m.map (sq k)) ≤ 1 := by
    induction m with
    | nil => exact Nat.zero_le _
    | cons x xs ih =>
      have e : (sq k x).dep = deps x + 1 := by cases k <;> rfl
      show max (sq k x).dep (deps (xs.map (sq k))) ≤ 1
      rw [e, deps_num (h x List.mem_cons_self)]
      have := ih fun z hz => h z (List.mem_cons_of_mem _ hz)
      omega
  have e : (mat k m).dep = deps (m.map (sq k)) + 1 := by cases k <;> rfl
  omega
theorem end_call {c : Nat → List D → Lh → Rs D} {f : Nat} {rest ds ds' : List D} {d d' : D} {h1 : Lh} (h0 : Lh) (hr : nrefs rest = true) (n1 : nrefs ds = true) (e : c f (.ref 0 :: rest) [.lst ds] = .ok d (.lst ds' :: h1)) (n2 : nrefs ds' = true) (ht : thaw (.gone :: h1) deep d = some d') :
    callBox c f (.ref h0.length :: rest) (h0 ++ [.lst ds]) = .ok d' (h0 ++ [.lst ds']) := by
  have hh : (h0 ++ [O.lst ds])[h0.length]? = some (.lst ds) := by
    rw [List.getElem?_append_right (Nat.le_refl _), Nat.sub_self]; rfl
  rw [box_call hr hh n1 e n2 ht, List.set_append_right _ _ (Nat.le_refl _), Nat.sub_self]
  rfl
theorem end_take (n : Nat) {ds : List D} {N : Int} (h0 : Lh) (hb : BoxAt N ds) (hN : N < 999999999) {many : Int} (h1 : 1 ≤ many) (h2 : okDiv many = true) :
    ∃ (d : Int) (ds' : List D), 0 ≤ d ∧ d < many ∧ BoxAt (N + 1) ds' ∧ callBox (run prog (n + 1)) 30 [.ref h0.length, .int many] (h0 ++ [.lst ds]) = .ok (.int d) (h0 ++ [.lst ds']) := by
  have hh : (h0 ++ [O.lst ds])[h0.length]? = some (.lst ds) := by
    rw [List.getElem?_append_right (Nat.le_refl _), Nat.sub_self]; rfl
  obtain ⟨d, ds', a, b, c, e⟩ := box_take (p := prog) (tk := 30) rfl n hh hb hN h1 h2
  refine ⟨d, ds', a, b, c, e.trans ?_⟩
  rw [List.set_append_right _ _ (Nat.le_refl _), Nat.sub_self]
  rfl
theorem wide_ok {w : Int} (h : w = 1 ∨ w = 3 ∨ w = 9 ∨ w = 10 ^ 19) : 1 ≤ w ∧ okDiv (2 * w + 1) = true ∧ okMul 2 w = true := by
  rcases h with rfl | rfl | rfl | rfl <;> exact ⟨by decide, by decide, by decide⟩
theorem end_matrix (n : Nat) {ds : List D} {N : Int} (h0 : Lh) (hb : BoxAt N ds) (hN : N + 3000 < 999999999) {a c : Int} {w : Int} (a1 : 1 ≤ a) (ha : a ≤ 20) (c1 : 1 ≤ c) (hc : c ≤ 20) (hw : w = 1 ∨ w = 3 ∨ w = 9 ∨ w = 10 ^ 19) :
    ∃ (m : List (List D)) (ds' : List D), Rect m c.toNat ∧ BoxAt (N + 800) ds' ∧ callBox (run prog (n + 2)) 35 [.ref h0.length, .int a, .int c, .int w] (h0 ++ [.lst ds]) = .ok (mat false m) (h0 ++ [.lst ds']) := by
  obtain ⟨w1, w2, w3⟩ := wide_ok hw
  obtain ⟨m, ds', r, _, hb', e⟩ := r_law_matrix n hb hN (a := a.toNat) (c := c.toNat) (w := w) (by omega) (by omega) (by omega) (by omega) w1 w2 w3
  rw [Int.toNat_of_nonneg (by omega), Int.toNat_of_nonneg (by omega)] at e
  refine ⟨m, ds', r, hb', end_call h0 rfl hb.nref e hb'.nref (thawF_lst (H := [.gone, .lst (m.map .lst)]) (k := 1) rfl (binds_nref _ _ (sms_nref _ (sms_of fun d hd => ?_))))⟩
  obtain ⟨x, hx, rfl⟩ := List.mem_map.mp hd
  exact r.row_sm false x hx
def dropS : Nat → Ss → Ss
  | 0, s => s
  | n + 1, .cons _ s => dropS n s
  | _, s => s
theorem r_summed (n : Nat) {x y : D} (hx : isNum x = true) (hy : isNum y = true) (h : Lh) : run prog (n + 1) i_summed [x, y] h = .ok (addD x y) h := by
  rw [run_succ (fd := f_summed) rfl rfl]
  cases x <;> first
    | (cases hx; done)
    | (cases y <;> first | (cases hy; done) | rfl)
theorem r_lsum (n : Nat) {x y : D} (hx : isNum x = true) (hy : isNum y = true) (h : Lh) : run prog (n + 1) i__law_sum [x, y] h = .ok (addD x y) h := by
  rw [run_succ (fd := f__law_sum) rfl rfl]
  cases x <;> first
    | (cases hx; done)
    | (cases y <;> first | (cases hy; done) | rfl)
theorem c_summed (n : Nat) {x y : D} (hx : isNum x = true) (hy : isNum y = true) (h : Lh) : callPure (run prog (n + 1)) 8 [x, y] h = .ok (addD x y) h := pure_ok (sm2 (num_sm hx) (num_sm hy)) (r_summed n hx hy []) (D.sm_nref _ (num_sm (addD_num x y)))
theorem c_lsum (n : Nat) {x y : D} (hx : isNum x = true) (hy : isNum y = true) (h : Lh) : callPure (run prog (n + 1)) 32 [x, y] h = .ok (addD x y) h := pure_ok (sm2 (num_sm hx) (num_sm hy)) (r_lsum n hx hy []) (D.sm_nref _ (num_sm (addD_num x y)))
theorem most_ev {cx : Cx} {ds : List D} (hn : ∀ d ∈ ds, isNum d = true) (hl : ds.length ≤ 1000) (h : Lh) : (b_greatest.ev cx [some (.lst ds), none, none] h).res = .ok (most ds) h := by
  have comp : (E.comp true [2] (.nm 2) (.ex (.var 0)) (.so (.cmp .isn (.var 2) (.cst .non))) (.var 2)).ev cx [some (.lst ds), none, none] h = .ok (.lst ((known ds).map .int)) h := by
    rw [comp_ev (src := .seq (.lst ds)) (ds := ds) (fun x => if (!isNon x) = true then [x] else []) rfl rfl (by unfold lim; omega) fun x hx acc => ?_, known_flat hn]
    · rfl
    · have hv : getV ((wipe [some (.lst ds), none, none] [2]).set 2 (some x)) 2 = some x := getV_z (s := []) (num_nx (hn x hx))
      exact step_if (b := .bl (!isNon x)) acc (by simp only [E.ev, rsO, hv, Rs.bind, isn_non, Option.map]) rfl fun _ => by simp only [E.ev, rsO, hv]
  simp only [b_greatest]
  generalize E.comp true [2] (.nm 2) (.ex (.var 0)) (.so (.cmp .isn (.var 2) (.cst .non))) (.var 2) = C at comp ⊢
  unfold most
  cases e : known ds with
  | nil =>
    rw [e] at comp
    have q := ne_nil h []
    simp only [wipe, Ss.ev, S.ev, E.ev, Es.ev, Eo.ev, It.ev, Tg.as, Tgs.as, arrange, callM, Rs.bind, Rs.at, rsO, Option.bind, Option.map, getV_z, getV_s, gv_int, gv_bl, gv_str, gv_ref, gv_lst, gv_tup, gv_dct, gv_non, startE, List.map, List.set_cons_zero, List.set_cons_succ, List.replicate, List.cons_append, List.nil_append, List.getElem?_cons_zero, List.getElem?_cons_succ, truth_bl, Bool.not_true, Bool.not_false, fin, P.put, lim, List.length_nil, List.length_cons, Nat.reduceAdd, Nat.reduceSub, Nat.reduceLeDiff, if_true, Rf.then, Rf.res, noexc, setAll, isn_non, isD_non, cop_lt, cop_le, cop_gt, cop_ge, eq_int, ne_int, bop_add, bop_sub, bound, comp, List.map_nil, q, List.isEmpty_nil]
    rfl
  | cons i r =>
    rw [e] at comp
    have q := ne_nil h ((i :: r).map .int)
    have m := bfn_max h (i :: r)
    have em : ((i :: r).map D.int).isEmpty = false := rfl
    rw [em] at q
    generalize (i :: r).map D.int = L at *
    simp only [wipe, Ss.ev, S.ev, E.ev, Es.ev, Eo.ev, It.ev, Tg.as, Tgs.as, arrange, callM, Rs.bind, Rs.at, rsO, Option.bind, Option.map, getV_z, getV_s, gv_int, gv_bl, gv_str, gv_ref, gv_lst, gv_tup, gv_dct, gv_non, startE, List.map, List.set_cons_zero, List.set_cons_succ, List.replicate, List.cons_append, List.nil_append, List.getElem?_cons_zero, List.getElem?_cons_succ, truth_bl, Bool.not_true, Bool.not_false, fin, P.put, lim, List.length_nil, List.length_cons, Nat.reduceAdd, Nat.reduceSub, Nat.reduceLeDiff, if_true, Rf.then, Rf.res, noexc, setAll, isn_non, isD_non, cop_lt, cop_le, cop_gt, cop_ge, eq_int, ne_int, bop_add, bop_sub, bound, comp, q, m]
    rfl
theorem r_greatest (n : Nat) {ds : List D} (hn : ∀ d ∈ ds, isNum d = true) (hl : ds.length ≤ 1000) (h : Lh) : run prog (n + 1) i_greatest [.lst ds] h = .ok (most ds) h := by
  rw [run_env (fd := f_greatest) (env := [some (.lst ds), none, none]) rfl rfl rfl]
  exact most_ev hn hl h
theorem r_most (n : Nat) {ds : List D} (hn : ∀ d ∈ ds, isNum d = true) (hl : ds.length ≤ 1000) (h : Lh) : run prog (n + 1) i__law_most [.lst ds] h = .ok (most ds) h := by
  rw [run_env (fd := f__law_most) (env := [some (.lst ds), none, none]) rfl rfl rfl]
  exact most_ev hn hl h
theorem nums_nref {ds : List D} (hn : ∀ d ∈ ds, isNum d = true) : nrefs ds = true := sms_nref _ (sms_of fun d hd => num_sm (hn d hd))
theorem lst_nref {ds : List D} (hn : ∀ d ∈ ds, isNum d = true) : nrefs [.lst ds] = true := by show (nrefs ds && true) = true; rw [nums_nref hn]; rfl
theorem c_greatest (n : Nat) {ds : List D} (hn : ∀ d ∈ ds, isNum d = true) (hl : ds.length ≤ 1000) (h : Lh) : callPure (run prog (n + 1)) 9 [.lst ds] h = .ok (most ds) h := pure_ok (lst_nref hn) (r_greatest n hn hl []) (D.sm_nref _ (num_sm (most_num _)))
theorem c_most (n : Nat) {ds : List D} (hn : ∀ d ∈ ds, isNum d = true) (hl : ds.length ≤ 1000) (h : Lh) : callPure (run prog (n + 1)) 33 [.lst ds] h = .ok (most ds) h := pure_ok (lst_nref hn) (r_most n hn hl []) (D.sm_nref _ (num_sm (most_num _)))
theorem sq_nref (k : Bool) {ds : List D} (hn : ∀ d ∈ ds, isNum d = true) : (sq k ds).nref = true := by
  cases k <;> exact nums_nref hn
theorem r_row_times (n : Nat) {k k' : Bool} {rs cs : List D} (hr : ∀ d ∈ rs, isNum d = true) (hc : ∀ d ∈ cs, isNum d = true) (hl : rs.length = cs.length) (hb : rs.length ≤ 1000) (h : Lh) : run prog (n + 2) i_row_times [sq k rs, sq k' cs] h = .ok (dot rs cs) h := by
  rw [run_env (fd := f_row_times) (env := [some (sq k rs), some (sq k' cs), none, none]) rfl rfl rfl]
  have v0 : getV [some (sq k rs), some (sq k' cs), none, none] 0 = some (sq k rs) := getV_z (s := []) (nx_sq k _)
  have v1 : getV [some (sq k rs), some (sq k' cs), none, none] 1 = some (sq k' cs) := getV_z (s := []) (nx_sq k' _)
  have comp : (E.comp true [2, 3] (.tp (.cons (.nm 2) (.cons (.nm 3) .nil))) (.zip (.var 0) (.var 1)) .no (.call .pure 8 (.cons (.var 2) (.cons (.var 3) .nil)) [0, 1])).ev ⟨run prog (n + 1), prog.loop, prog.sub⟩ [some (sq k rs), some (sq k' cs), none, none] h = .ok (.lst (List.zipWith addD rs cs)) h := by
    rw [comp_ev (src := .zip (sq k rs) (sq k' cs)) (ds := zipD rs cs) (fun d => [addP d]) (by simp only [It.ev, E.ev, rsO, v0, v1, Rs.bind]) (zip_items hl) (by unfold zipD; rw [List.length_map, List.length_zip]; unfold lim; omega) fun x hx acc => ?_, map_of]
    · show Rs.ok (D.lst ((zipD' rs cs).map addP)) _ = _
      rw [zip_add]
      rfl
    · obtain ⟨⟨x, y⟩, hxy, rfl⟩ := List.mem_map.mp hx
      have h1 := hr x (List.of_mem_zip hxy).1
      have h2 := hc y (List.of_mem_zip hxy).2
      have g2 : getV [some (sq k rs), some (sq k' cs), some x, some y] 2 = some x := getV_z (s := []) (num_nx h1)
      have g3 : getV [some (sq k rs), some (sq k' cs), some x, some y] 3 = some y := getV_z (s := []) (num_nx h2)
      exact step_mapT (env2 := [some (sq k rs), some (sq k' cs), some x, some y]) acc rfl (by simp only [E.ev, Es.ev, arrange, callM, Rs.bind, rsO, g2, g3, Option.bind, Option.map, List.getElem?_cons_zero, List.getElem?_cons_succ, c_summed n h1 h2]; rfl)
  show (b_row_times.ev _ _ _).res = _
  simp only [b_row_times]
  generalize E.comp true [2, 3] (.tp (.cons (.nm 2) (.cons (.nm 3) .nil))) (.zip (.var 0) (.var 1)) .no (.call .pure 8 (.cons (.var 2) (.cons (.var 3) .nil)) [0, 1]) = C at comp ⊢
  have g := c_greatest n (zipWith_num rs cs) (by rw [List.length_zipWith]; omega) h
  simp only [wipe, Ss.ev, S.ev, E.ev, Es.ev, Eo.ev, It.ev, Tg.as, Tgs.as, arrange, callM, Rs.bind, Rs.at, rsO, Option.bind, Option.map, getV_z, getV_s, gv_int, gv_bl, gv_str, gv_ref, gv_lst, gv_tup, gv_dct, gv_non, startE, List.map, List.set_cons_zero, List.set_cons_succ, List.replicate, List.cons_append, List.nil_append, List.getElem?_cons_zero, List.getElem?_cons_succ, truth_bl, Bool.not_true, Bool.not_false, fin, P.put, lim, List.length_nil, List.length_cons, Nat.reduceAdd, Nat.reduceSub, Nat.reduceLeDiff, if_true, Rf.then, Rf.res, noexc, setAll, isn_non, isD_non, cop_lt, cop_le, cop_gt, cop_ge, eq_int, ne_int, bop_add, bop_sub, bound, comp, g]
  rfl
theorem flat_num {d : D} (h : isNum d = true) : flat d = true := by cases d <;> first | rfl | cases h
theorem dot_num (r v : List D) : isNum (dot r v) = true := most_num _
theorem appl_num (m : List (List D)) (v : List D) : ∀ d ∈ appl m v, isNum d = true := fun d hd => by
  obtain ⟨r, _, rfl⟩ := List.mem_map.mp hd
  exact dot_num _ _
theorem appl_len (m : List (List D)) (v : List D) : (appl m v).length = m.length := List.length_map _
theorem mat_nref {k : Bool} {m : List (List D)} {w : Nat} (r : Rect m w) : (mat k m).nref = true := D.sm_nref _ (r.sm k)
theorem n2 {a b : D} (ha : a.nref = true) (hb : b.nref = true) : nrefs [a, b] = true := by show (a.nref && (b.nref && true)) = true; rw [ha, hb]; rfl
theorem n3 {a b c : D} (ha : a.nref = true) (hb : b.nref = true) (hc : c.nref = true) : nrefs [a, b, c] = true := by show (a.nref && (b.nref && (c.nref && true))) = true; rw [ha, hb, hc]; rfl
def cols (m : List (List D)) (w : Nat) : List D := (List.range w).map fun j => .lst (colD m j)
theorem r_flipped_of (n : Nat) {k : Bool} {m : List (List D)} {w : Nat} (r : Rect m w) (h : Lh) : run prog (n + 1) i_flipped_of [mat k m] h = .ok (.lst (cols m w)) h := by
  rw [run_env (fd := f_flipped_of) (env := [some (mat k m), none, none]) rfl rfl rfl]
  have l1 := r.l1
  have w2 := r.w2
  have hm := nx_sq k (m.map (sq k))
  have hv : getV [some (mat k m), none, none] 0 = some (mat k m) := getV_z hm
  have i0 : item h (mat k m) (.int 0) = some (sq k m[0]) := item_mat k r (j := 0) l1
  have hl0 := (r.hr m[0] (List.getElem_mem l1)).1
  have outer : (E.comp true [1] (.nm 1) (.r1 (.bi .len true (.cons (.ix (.var 0) (.cst (.int 0))) .nil))) .no (.comp true [2] (.nm 2) (.ex (.var 0)) .no (.ix (.var 2) (.var 1)))).ev ⟨run prog n, prog.loop, prog.sub⟩ [some (mat k m), none, none] h = .ok (.lst (cols m w)) h :=
    rng_map (fun j => .lst (colD m j)) (r1_ev (by omega) (by simp only [E.ev, Es.ev, Rs.bind, rsO, hv, i0, len_sq, fin, P.put, hl0])) (by omega) fun j hj =>
      (col_ev r hj h (own := [2]) (t := 2) (env := [some (mat k m), some (.int j), none]) (ma := 0) (jv := 1) (getV_z hm) (fun x => getV_z (s := []) (nx_sq k x)) (fun x => rfl)).trans rfl
  show (b_flipped_of.ev _ _ _).res = _
  simp only [b_flipped_of, Ss.ev, S.ev, outer, Rs.at, Rf.then, Rf.res]
theorem colD_num {m : List (List D)} {w : Nat} (r : Rect m w) (j : Nat) : ∀ d ∈ colD m j, isNum d = true := fun d hd => by
  obtain ⟨ro, hro, rfl⟩ := List.mem_map.mp hd
  exact getD_num (r.hr ro hro).2 j
theorem colD_len (m : List (List D)) (j : Nat) : (colD m j).length = m.length := List.length_map _
theorem cols_nref {m : List (List D)} {w : Nat} (r : Rect m w) : nrefs (cols m w) = true := sms_nref _ (sms_of fun d hd => by
  obtain ⟨j, _, rfl⟩ := List.mem_map.mp hd
  exact sq_sm false (by rw [colD_len]; have := r.l2; omega) fun x hx => num_sm (colD_num r j x hx))
theorem c_flipped (n : Nat) {k : Bool} {m : List (List D)} {w : Nat} (r : Rect m w) (h : Lh) : callPure (run prog (n + 1)) 16 [mat k m] h = .ok (.lst (cols m w)) h := pure_ok (sm1 (r.sm k)) (r_flipped_of n r []) (cols_nref r)
theorem r_is_between (n : Nat) {d : D} (hs : d.sm = true) (a b : Int) (h : Lh) : run prog (n + 2) i_is_between [d, .int a, .int b] h = .ok (.bl (match (generalizing := false) d with | .int i => decide (a ≤ i) && decide (i ≤ b) | _ => false)) h := by
  rw [run_succ (fd := f_is_between) rfl rfl]
  have hc : callPure (run prog (n + 1)) 0 [d] h = .ok (.bl (isInt d)) h := pure_ok (by show (d.nref && true) = true; rw [D.sm_nref d hs]; rfl) (r_is_integer n hs []) rfl
  have hv : getV (startE 3 [d, .int a, .int b]) 0 = some d := by cases d <;> first | rfl | cases hs
  simp only [f_is_between, b_is_between, Ss.ev, S.ev, E.ev, Es.ev, arrange, callM, Rs.bind, Rs.at, rsO, hv, Option.bind, Option.map, List.getElem?_cons_zero, hc, truth_bl]
  cases d <;> first
    | (cases hs; done)
    | rfl
    | skip
  case int i =>
    simp only [isInt, startE, getV, List.map, List.cons_append, List.getElem?_cons_zero, List.getElem?_cons_succ, Rs.bind, cop_le]
    by_cases h1 : a ≤ i
    · simp [h1, Rf.then, Rf.res, Rs.at]
    · simp [h1, Rf.then, Rf.res, Rs.at]
theorem r_law_wide (n : Nat) {h : Lh} {k : Nat} {ds : List D} {N : Int} (hh : h[k]? = some (.lst ds)) (hb : BoxAt N ds) (hN : N < 999999999) :
    ∃ (w : Int) (ds' : List D), (w = 1 ∨ w = 3 ∨ w = 9 ∨ w = 10 ^ 19) ∧ BoxAt (N + 1) ds' ∧ run prog (n + 2) i__law_wide [.ref k] h = .ok (.int w) (h.set k (.lst ds')) := by
  obtain ⟨d, ds', d0, d1, hb', e⟩ := box_take (p := prog) (tk := 30) rfl n hh hb hN (many := 8) (by decide) (by decide)
  have hv : getV (startE 1 [.ref k]) 0 = some (.ref k) := rfl
  have q1 : okPow 10 19 = true := by decide
  have hd : d = 0 ∨ d = 1 ∨ d = 2 ∨ d = 3 ∨ d = 4 ∨ d = 5 ∨ d = 6 ∨ d = 7 := by omega
  have go : ∀ w : Int, (w = 1 ∨ w = 3 ∨ w = 9 ∨ w = 10 ^ 19) → run prog (n + 2) i__law_wide [.ref k] h = .ok (.int w) (h.set k (.lst ds')) → ∃ (w : Int) (ds' : List D), (w = 1 ∨ w = 3 ∨ w = 9 ∨ w = 10 ^ 19) ∧ BoxAt (N + 1) ds' ∧ run prog (n + 2) i__law_wide [.ref k] h = .ok (.int w) (h.set k (.lst ds')) := fun w hw he => ⟨w, ds', hw, hb', he⟩
  have ev : run prog (n + 2) i__law_wide [.ref k] h = (rsO ((item (h.set k (.lst ds')) (.lst [.int 0, .int 0, .int 1, .int 1, .int 1, .int 2, .int 2, .int 3]) (.int d)).bind fun j => item (h.set k (.lst ds')) (.lst [.int 1, .int 3, .int 9, .int ((10 : Int) ^ (19 : Int).toNat)]) j) (h.set k (.lst ds'))) := by
    rw [run_succ (fd := f__law_wide) rfl rfl]
    simp only [f__law_wide, b__law_wide, Ss.ev, S.ev, E.ev, Es.ev, arrange, callM, Rs.bind, Rs.at, rsO, hv, fin, P.put, bop_pow _ _ _ q1, List.length_cons, List.length_nil, lim, Nat.reduceAdd, Nat.reduceLeDiff, if_true, Option.bind, Option.map, List.getElem?_cons_zero, List.getElem?_cons_succ, e]
    rcases hd with rfl | rfl | rfl | rfl | rfl | rfl | rfl | rfl <;> rfl
  rcases hd with rfl | rfl | rfl | rfl | rfl | rfl | rfl | rfl
  · exact go 1 (.inl rfl) ev
  · exact go 1 (.inl rfl) ev
  · exact go 3 (.inr (.inl rfl)) ev
  · exact go 3 (.inr (.inl rfl)) ev
  · exact go 3 (.inr (.inl rfl)) ev
  · exact go 9 (.inr (.inr (.inl rfl))) ev
  · exact go 9 (.inr (.inr (.inl rfl))) ev
  · exact go _ (.inr (.inr (.inr rfl))) ev
theorem rng_cells {cx : Cx} {env : Env} {own : List Nat} {i : Nat} {it : It} {e : E} {h : Lh} {w : Nat} (F : Nat → List D) (hi : it.ev cx env h = .ok (.rng 0 1 w) h) (hw : w ≤ 1000)
    (hs : ∀ j < w, ∀ h : Lh, e.ev cx ((wipe env own).set i (some (.int j))) h = .ok (.ref h.length) (h ++ [.lst (F j)])) : (E.comp false own (.nm i) it .no e).ev cx env h = .ok (gridR h ((List.range w).map F)) (gridH h ((List.range w).map F)) := by
  have := comp_cells (cx := cx) (env := env) (own := own) (t := .nm i) (it := it) (e := e) (h := h) (src := .rng 0 1 w) (ds := iotaD w) (fun d => F (natD d)) hi (fun h => by rw [iota_len]; rfl) (fun h i hi => rng_at (by rw [iota_len] at hi; exact hi)) (by rw [iota_len]; unfold lim; omega)
      (fun d hd acc h => by
        obtain ⟨j, hj, rfl⟩ := List.mem_map.mp hd
        exact step_cell (i := i) acc (hs j (List.mem_range.mp hj) h))
  rw [this]
  have e : (iotaD w).map (fun d => F (natD d)) = (List.range w).map F := by
    unfold iotaD
    rw [List.map_map]
    rfl
  rw [e]
def unitM (s : Nat) : List (List D) := (List.range s).map fun i => (List.range s).map fun j => if i = j then .int 0 else .non
theorem unit_row {cx : Cx} {env : Env} {fz : Bool} {own : List Nat} {i k : Nat} {it : It} {a : Nat} {h : Lh} {s : Nat} (hi : it.ev cx env h = .ok (.rng 0 1 s) h) (hw : s ≤ 1000)
    (ha : ∀ j : Nat, getV ((wipe env own).set k (some (.int j))) a = some (.int i)) (hb : ∀ j : Nat, getV ((wipe env own).set k (some (.int j))) k = some (.int j)) :
    (E.comp fz own (.nm k) it .no (.ite (.cmp .eq (.var a) (.var k)) (.cst (.int 0)) (.cst .non))).ev cx env h = fin fz (some (.l ((List.range s).map fun j => if i = j then .int 0 else .non))) h :=
  rng_map _ hi hw fun j hj => by
    simp only [E.ev, rsO, ha, hb, Rs.bind, eq_int, Option.map, truth_bl]
    by_cases e : i = j
    · rw [if_pos e, decide_eq_true (by omega)]
    · rw [if_neg e, decide_eq_false (by omega)]
theorem r_unit_of (n : Nat) {s : Nat} (hs : s ≤ 20) (h : Lh) : run prog (n + 1) i_unit_of [.int s] h = .ok (gridR h (unitM s)) (gridH h (unitM s)) := by
  rw [run_env (fd := f_unit_of) (env := [some (.int s), none, none]) rfl rfl rfl]
  have outer : (E.comp false [1] (.nm 1) (.r1 (.var 0)) .no (.comp false [2] (.nm 2) (.r1 (.var 0)) .no (.ite (.cmp .eq (.var 1) (.var 2)) (.cst (.int 0)) (.cst .non)))).ev ⟨run prog n, prog.loop, prog.sub⟩ [some (.int s), none, none] h = .ok (gridR h (unitM s)) (gridH h (unitM s)) :=
    rng_cells (fun i => (List.range s).map fun j => if i = j then .int 0 else .non) (r1_ev (by omega) rfl) (by omega) fun j hj h =>
      (unit_row (i := j) (k := 2) (a := 1) (env := [some (.int s), some (.int j), none]) (own := [2]) (r1_ev (by omega) rfl) (by omega) (fun _ => rfl) (fun _ => rfl)).trans rfl
  show (b_unit_of.ev _ _ _).res = _
  simp only [b_unit_of, Ss.ev, S.ev, outer, Rs.at, Rf.then, Rf.res]
end K02
end TB

end

section
set_option Elab.async false
set_option linter.all false
set_option maxRecDepth 100000
set_option maxHeartbeats 1000000
namespace TB
namespace K02
open PySem
/-! ### a matrix, a tree or in cells -/
def vr (h : Lh) (d : D) : List D := ((vw h d).map (·.2)).getD []
structure MatV (h : Lh) (d : D) (m : List (List D)) : Prop where
  nx : nx d = true
  ex : ∃ k ds, vw h d = some (k, ds) ∧ vd h d = none ∧ ds.map (vr h) = m ∧ ∀ x ∈ ds, TB.nx x = true ∧ (∃ k', vw h x = some (k', vr h x)) ∧ vd h x = none
theorem MatV.tree {m : List (List D)} (h : Lh) (k : Bool) : MatV h (mat k m) m := by
  refine ⟨nx_sq k _, k, m.map (sq k), vw_sq h k _, by cases k <;> rfl, ?_, fun x hx => ?_⟩
  · rw [List.map_map]
    have : vr h ∘ sq k = id := by
      funext x
      show ((vw h (sq k x)).map (·.2)).getD [] = x
      rw [vw_sq]; rfl
    rw [this, List.map_id]
  · obtain ⟨r, hr, rfl⟩ := List.mem_map.mp hx
    refine ⟨nx_sq k _, ⟨k, ?_⟩, by cases k <;> rfl⟩
    unfold vr
    rw [vw_sq]; rfl
theorem MatV.grid {h : Lh} {d : D} {m : List (List D)} (g : GridAt h d m) : MatV h d m := by
  obtain ⟨b, t, l, rfl, e, k⟩ := g.ex
  have vt : vw h (.ref t) = some (false, (List.range m.length).map fun i => .ref (b + i)) := by simp only [vw, e]
  have dt : vd h (.ref t) = none := by simp only [vd, e]
  have vi : ∀ i (hi : i < m.length), vw h (.ref (b + i)) = some (false, m[i]) := fun i hi => by simp only [vw, k i hi]
  refine ⟨rfl, false, _, vt, dt, ?_, fun x hx => ?_⟩
  · rw [List.map_map]
    refine List.ext_getElem (by simp) fun i h1 h2 => ?_
    rw [List.getElem_map, List.getElem_range]
    show ((vw h (.ref (b + i))).map (·.2)).getD [] = _
    rw [vi i h2]; rfl
  · obtain ⟨i, hi, rfl⟩ := List.mem_map.mp hx
    have hi := List.mem_range.mp hi
    refine ⟨rfl, ⟨false, ?_⟩, by simp only [vd, k i hi]⟩
    unfold vr
    rw [vi i hi]; rfl
theorem item_v {h : Lh} {g a : D} {gs : List D} {k : Nat} {b : Bool} (hk : gs[k]? = some a) (hb : k ≤ 1000) (h1 : vw h g = some (b, gs)) (h2 : vd h g = none) : item h g (.int k) = some a := by
  have hl := (List.getElem?_eq_some_iff.mp hk).1
  unfold item
  rw [h2]
  dsimp only
  rw [if_pos (show okIx (k : Int) = true from decide_eq_true (by omega)), h1]
  dsimp only
  rw [place_nat hl]
  exact hk
theorem len_v {h : Lh} {g : D} {gs : List D} {b : Bool} (h1 : vw h g = some (b, gs)) : bfn h .len [g] = some (.v (.int gs.length)) := by
  show lenF h g = _
  unfold lenF
  rw [h1]
theorem item_0 {h : Lh} {d x : D} {m : List (List D)} {gs : List D} {b : Bool} (h1 : vw h d = some (b, x :: gs)) (h2 : vd h d = none) : item h d (.int 0) = some x := item_v (k := 0) rfl (by omega) h1 h2
theorem flip_v (n : Nat) {h : Lh} {d : D} {m : List (List D)} {w : Nat} (r : Rect m w) (v : MatV h d m) : run prog (n + 1) i_flipped_of [d] h = .ok (.lst (cols m w)) h := by
  obtain ⟨nxd, k, ds, e1, e2, e3, e4⟩ := v
  rw [run_env (fd := f_flipped_of) (env := [some d, none, none]) (by rfl) rfl rfl]
  have l1 := r.l1
  have l2 := r.l2
  have w2 := r.w2
  have ld : ds.length = m.length := by rw [← e3, List.length_map]
  have mem : ∀ x ∈ ds, vr h x ∈ m := fun x hx => by rw [← e3]; exact List.mem_map.mpr ⟨x, hx, rfl⟩
  have hv : getV [some d, none, none] 0 = some d := getV_z nxd
  have hi0 : ds[0]? = some (ds[0]'(by omega)) := List.getElem?_eq_getElem (by omega)
  have i0 : item h d (.int 0) = some (ds[0]'(by omega)) := item_v (k := 0) hi0 (by omega) e1 e2
  obtain ⟨_, ⟨k0, f1⟩, f2⟩ := e4 _ (List.getElem_mem (show 0 < ds.length by omega))
  have l0 := len_v f1
  have hr0 : (vr h (ds[0]'(by omega))).length = w := (r.hr _ (mem _ (List.getElem_mem _))).1
  rw [hr0] at l0
  have outer : (E.comp true [1] (.nm 1) (.r1 (.bi .len true (.cons (.ix (.var 0) (.cst (.int 0))) .nil))) .no (.comp true [2] (.nm 2) (.ex (.var 0)) .no (.ix (.var 2) (.var 1)))).ev ⟨run prog n, prog.loop, prog.sub⟩ [some d, none, none] h = .ok (.lst (cols m w)) h := by
    refine rng_map (fun j => .lst (colD m j)) (r1_ev (by omega) (by simp only [E.ev, Es.ev, Rs.bind, rsO, hv, i0, l0, fin, P.put])) (by omega) fun j hj => ?_
    show (E.comp true [2] (.nm 2) (.ex (.var 0)) .no (.ix (.var 2) (.var 1))).ev _ [some d, some (.int j), none] h = _
    have v0 : getV [some d, some (.int j), none] 0 = some d := getV_z (s := []) nxd
    rw [comp_ev (src := .seq d) (ds := ds) (fun x => [((vr h x)[j]?).getD .non]) (by simp only [It.ev, E.ev, rsO, v0, Rs.bind]) (by show (vw h d).map (·.2) = _; rw [e1]; rfl) (by unfold lim; omega) fun x hx acc => step_map acc ?_, map_of]
    · have : ds.map (fun x => ((vr h x)[j]?).getD .non) = colD m j := by
        show _ = m.map fun r => (r[j]?).getD .non
        rw [← e3, List.map_map]; rfl
      rw [this]; rfl
    · obtain ⟨n1, ⟨kx, g1⟩, g2⟩ := e4 x hx
      have lx : (vr h x).length = w := (r.hr _ (mem x hx)).1
      have gx : getV ((wipe [some d, some (.int j), none] [2]).set 2 (some x)) 2 = some x := getV_z (s := []) n1
      have it : item h x (.int j) = some (((vr h x)[j]?).getD .non) := item_v (by rw [List.getElem?_eq_getElem (by omega)]; rfl) (by omega) g1 g2
      show ((E.var 2).ev _ _ h).bind _ = _
      simp only [E.ev, rsO, gx, Rs.bind]
      show rsO (item h x (.int j)) h = _
      rw [it]; rfl
  show (b_flipped_of.ev _ _ _).res = _
  simp only [b_flipped_of, Ss.ev, S.ev, outer, Rs.at, Rf.then, Rf.res]
def pr (m n : List (List D)) (w : Nat) : List (List D) := m.map fun r => (List.range w).map fun j => dot r (colD n j)
theorem pr_rect {m n : List (List D)} {w w' : Nat} (r : Rect m w) (r' : Rect n w') : Rect (pr m n w') w' := by
  refine ⟨by unfold pr; rw [List.length_map]; exact r.l1, by unfold pr; rw [List.length_map]; exact r.l2, r'.w1, r'.w2, fun x hx => ?_⟩
  obtain ⟨y, hy, rfl⟩ := List.mem_map.mp hx
  refine ⟨by rw [List.length_map, List.length_range], fun d hd => ?_⟩
  obtain ⟨j, _, rfl⟩ := List.mem_map.mp hd
  exact dot_num _ _
/-- the cells of a product: rows of dots -/
theorem prod_cells (n : Nat) {k : Bool} {m l : List (List D)} {w w' : Nat} (r : Rect m w) (r' : Rect l w') (hw : l.length = w) (X : D) (h : Lh) :
    (E.comp false [3] (.nm 3) (.ex (.var 0)) .no (.comp false [4] (.nm 4) (.ex (.var 2)) .no (.call .pure 17 (.cons (.var 3) (.cons (.var 4) .nil)) [0, 1]))).ev ⟨run prog (n + 2), prog.loop, prog.sub⟩ [some (mat k m), some X, some (.lst (cols l w')), none, none] h = .ok (gridR h (pr m l w')) (gridH h (pr m l w')) := by
  have l2 := r.l2
  have w2 := r.w2
  have w2' := r'.w2
  have v0 : getV [some (mat k m), some X, some (.lst (cols l w')), none, none] 0 = some (mat k m) := getV_z (s := []) (nx_sq k _)
  rw [comp_cells (src := .seq (mat k m)) (ds := m.map (sq k)) (fun d => (List.range w').map fun j => dot (row d) (colD l j)) (by simp only [It.ev, E.ev, rsO, v0, Rs.bind]) (fun h => seq_len (seq_sq k _) h) (fun h i _ => seq_at (seq_sq k _) h i) (by rw [List.length_map]; unfold lim; omega) fun d hd acc h => ?_]
  · have : (m.map (sq k)).map (fun d => (List.range w').map fun j => dot (row d) (colD l j)) = pr m l w' := by
      rw [List.map_map]
      unfold pr
      congr 1
      funext x
      show (List.range w').map (fun j => dot (row (sq k x)) (colD l j)) = _
      rw [row_sq]
    rw [this]
  · obtain ⟨ro, hro, rfl⟩ := List.mem_map.mp hd
    have q := r.hr ro hro
    refine step_cell (i := 3) acc ?_
    rw [row_sq]
    show (E.comp false [4] (.nm 4) (.ex (.var 2)) .no (.call .pure 17 (.cons (.var 3) (.cons (.var 4) .nil)) [0, 1])).ev _ [some (mat k m), some X, some (.lst (cols l w')), some (sq k ro), none] h = _
    have lc : (cols l w').length = w' := by simp [cols]
    rw [comp_ev (src := .seq (.lst (cols l w'))) (ds := cols l w') (fun d => [dot ro (row d)]) rfl rfl (by unfold lim; omega) fun x hx acc => step_map acc ?_, map_of]
    · have : (cols l w').map (fun d => dot ro (row d)) = (List.range w').map fun j => dot ro (colD l j) := by
        unfold cols
        rw [List.map_map]; rfl
      rw [this]; rfl
    · obtain ⟨j, hj, rfl⟩ := List.mem_map.mp hx
      have cn := colD_num r' j
      have g3 : getV ((wipe [some (mat k m), some X, some (.lst (cols l w')), some (sq k ro), none] [4]).set 4 (some (.lst (colD l j)))) 3 = some (sq k ro) := getV_z (s := []) (nx_sq k _)
      have g4 : getV ((wipe [some (mat k m), some X, some (.lst (cols l w')), some (sq k ro), none] [4]).set 4 (some (.lst (colD l j)))) 4 = some (.lst (colD l j)) := rfl
      generalize (wipe [some (mat k m), some X, some (.lst (cols l w')), some (sq k ro), none] [4]).set 4 (some (.lst (colD l j))) = Z at g3 g4 ⊢
      have c : callPure (run prog (n + 2)) 17 [sq k ro, .lst (colD l j)] h = .ok (dot ro (colD l j)) h := pure_ok (n2 (sq_nref k q.2) (sq_nref false cn)) (r_row_times n (k' := false) q.2 cn (by rw [colD_len, q.1, hw]) (by omega) []) (D.sm_nref _ (num_sm (dot_num _ _)))
      simp only [E.ev, Es.ev, rsO, g3, g4, arrange, callM, Rs.bind, List.getElem?_cons_zero, List.getElem?_cons_succ, Option.bind, Option.map, c]
      rfl
theorem r_product (n : Nat) {k : Bool} {m l : List (List D)} {w w' : Nat} (r : Rect m w) (r' : Rect l w') (hw : l.length = w) {X : D} {h : Lh} (v : MatV h X l) : run prog (n + 3) i_product_of [mat k m, X] h = .ok (gridR h (pr m l w')) (gridH h (pr m l w')) := by
  rw [run_env (n := n + 2) (fd := f_product_of) (env := [some (mat k m), some X, none, none, none]) (by rfl) rfl rfl]
  have pc := prod_cells n (k := k) r r' hw X h
  have fl := flip_v (n + 1) r' v
  have nxX := v.nx
  have hM : nx (mat k m) = true := nx_sq k _
  have fl : run prog (n + 2) 16 [X] h = .ok (.lst (cols l w')) h := fl
  show (b_product_of.ev _ _ _).res = _
  simp only [b_product_of]
  generalize E.comp false [3] (.nm 3) (.ex (.var 0)) .no (.comp false [4] (.nm 4) (.ex (.var 2)) .no (.call .pure 17 (.cons (.var 3) (.cons (.var 4) .nil)) [0, 1])) = C at pc ⊢
  generalize pr m l w' = M at pc ⊢
  simp only [wipe, Ss.ev, S.ev, E.ev, Es.ev, Eo.ev, It.ev, Tg.as, Tgs.as, arrange, callM, Rs.bind, Rs.at, rsO, Option.bind, Option.map, getV_z, getV_s, gv_int, gv_bl, gv_str, gv_ref, gv_lst, gv_tup, gv_dct, gv_non, startE, List.map, List.set_cons_zero, List.set_cons_succ, List.replicate, List.cons_append, List.nil_append, List.getElem?_cons_zero, List.getElem?_cons_succ, truth_bl, Bool.not_true, Bool.not_false, fin, P.put, lim, List.length_nil, List.length_cons, Nat.reduceAdd, Nat.reduceSub, Nat.reduceLeDiff, if_true, Rf.then, Rf.res, noexc, setAll, isn_non, isD_non, cop_lt, cop_le, cop_gt, cop_ge, eq_int, ne_int, bop_add, bop_sub, bound, nxX, fl, pc]
theorem grid_pure {c : Nat → List D → Lh → Rs D} {f : Nat} {as : List D} {M : List (List D)} {w : Nat} {h : Lh} (ha : nrefs as = true) (r : Rect M w) (e : c f as [] = .ok (gridR [] M) (gridH [] M)) : callPure c f as h = .ok (mat false M) h := by
  have t := (grid_new [] M).thaw (fun x hx => D.sm_nref _ (r.row_sm false x hx)) 5
  unfold callPure
  rw [if_pos ha, e]
  dsimp only
  have t : thaw (gridH [] M) deep (gridR [] M) = some (mat false M) := t
  rw [t]
theorem c_product (n : Nat) {k k' : Bool} {m l : List (List D)} {w w' : Nat} (r : Rect m w) (r' : Rect l w') (hw : l.length = w) (h : Lh) : callPure (run prog (n + 3)) 19 [mat k m, mat k' l] h = .ok (mat false (pr m l w')) h :=
  grid_pure (n2 (mat_nref r) (mat_nref r')) (pr_rect r r') (r_product n r r' hw (MatV.tree [] k'))
end K02
end TB

end

section
set_option Elab.async false
set_option linter.all false
set_option maxRecDepth 100000
set_option maxHeartbeats 1000000
namespace TB
namespace K02
open PySem
theorem r_applied_to (n : Nat) {k k' : Bool} {m : List (List D)} {w : Nat} (r : Rect m w) {vs : List D} (hv : ∀ d ∈ vs, isNum d = true) (lv : vs.length = w) (h : Lh) : run prog (n + 3) i_applied_to [mat k m, sq k' vs] h = .ok (.ref h.length) (h ++ [.lst (appl m vs)]) := by
  rw [run_env (n := n + 2) (fd := f_applied_to) (env := [some (mat k m), some (sq k' vs), none]) (by rfl) rfl rfl]
  have v0 : getV [some (mat k m), some (sq k' vs), none] 0 = some (mat k m) := getV_z (s := []) (nx_sq k _)
  have l2 := r.l2
  have w2 := r.w2
  have comp : (E.comp false [2] (.nm 2) (.ex (.var 0)) .no (.call .pure 17 (.cons (.var 2) (.cons (.var 1) .nil)) [0, 1])).ev ⟨run prog (n + 2), prog.loop, prog.sub⟩ [some (mat k m), some (sq k' vs), none] h = .ok (.ref h.length) (h ++ [.lst (appl m vs)]) := by
    rw [comp_ev (src := .seq (mat k m)) (ds := m.map (sq k)) (fun d => [dot (row d) vs]) (by simp only [It.ev, E.ev, rsO, v0, Rs.bind]) (mat_items k m) (by rw [List.length_map]; unfold lim; omega) fun x hx acc => ?_, map_of, map_map_sq k m fun r => dot r vs]
    · rfl
    · intro r _; rw [row_sq]
    · obtain ⟨ro, hro, rfl⟩ := List.mem_map.mp hx
      have q := r.hr ro hro
      have g2 : getV ((wipe [some (mat k m), some (sq k' vs), none] [2]).set 2 (some (sq k ro))) 2 = some (sq k ro) := getV_z (s := []) (nx_sq k _)
      have g1 : getV ((wipe [some (mat k m), some (sq k' vs), none] [2]).set 2 (some (sq k ro))) 1 = some (sq k' vs) := getV_z (s := []) (nx_sq k' _)
      refine step_map acc ?_
      rw [row_sq]
      have c : callPure (run prog (n + 2)) 17 [sq k ro, sq k' vs] h = .ok (dot ro vs) h := pure_ok (n2 (sq_nref k q.2) (sq_nref k' hv)) (r_row_times n q.2 hv (by rw [q.1, lv]) (by omega) []) (D.sm_nref _ (num_sm (dot_num _ _)))
      simp only [E.ev, Es.ev, arrange, callM, Rs.bind, rsO, g2, g1, Option.bind, Option.map, List.getElem?_cons_zero, List.getElem?_cons_succ, c]
  show (b_applied_to.ev _ _ _).res = _
  simp only [b_applied_to, Ss.ev, S.ev, comp, Rs.at, Rf.then, Rf.res]
/-! ### maxes at the same places -/
def mx2 (x y : D) : D := most [x, y]
def unR (r s : List D) : List D := List.zipWith mx2 r s
def un (m l : List (List D)) : List (List D) := List.zipWith unR m l
theorem most_sq {cx : Cx} (k : Bool) {ds : List D} (hn : ∀ d ∈ ds, isNum d = true) (hl : ds.length ≤ 1000) (h : Lh) : (b_greatest.ev cx [some (sq k ds), none, none] h).res = .ok (most ds) h := by
  have v0 : getV [some (sq k ds), none, none] 0 = some (sq k ds) := getV_z (s := []) (nx_sq k _)
  have comp : (E.comp true [2] (.nm 2) (.ex (.var 0)) (.so (.cmp .isn (.var 2) (.cst .non))) (.var 2)).ev cx [some (sq k ds), none, none] h = .ok (.lst ((known ds).map .int)) h := by
    rw [comp_ev (src := .seq (sq k ds)) (ds := ds) (fun x => if (!isNon x) = true then [x] else []) (by simp only [It.ev, E.ev, rsO, v0, Rs.bind]) (items_seq (seq_sq k ds)) (by unfold lim; omega) fun x hx acc => ?_, known_flat hn]
    · rfl
    · have hv : getV ((wipe [some (sq k ds), none, none] [2]).set 2 (some x)) 2 = some x := getV_z (s := []) (num_nx (hn x hx))
      exact step_if (b := .bl (!isNon x)) acc (by simp only [E.ev, rsO, hv, Rs.bind, isn_non, Option.map]) rfl fun _ => by simp only [E.ev, rsO, hv]
  simp only [b_greatest]
  generalize E.comp true [2] (.nm 2) (.ex (.var 0)) (.so (.cmp .isn (.var 2) (.cst .non))) (.var 2) = C at comp ⊢
  unfold most
  cases e : known ds with
  | nil =>
    rw [e] at comp
    have q := ne_nil h []
    simp only [wipe, Ss.ev, S.ev, E.ev, Es.ev, Eo.ev, It.ev, Tg.as, Tgs.as, arrange, callM, Rs.bind, Rs.at, rsO, Option.bind, Option.map, getV_z, getV_s, gv_int, gv_bl, gv_str, gv_ref, gv_lst, gv_tup, gv_dct, gv_non, startE, List.map, List.set_cons_zero, List.set_cons_succ, List.replicate, List.cons_append, List.nil_append, List.getElem?_cons_zero, List.getElem?_cons_succ, truth_bl, Bool.not_true, Bool.not_false, fin, P.put, lim, List.length_nil, List.length_cons, Nat.reduceAdd, Nat.reduceSub, Nat.reduceLeDiff, if_true, Rf.then, Rf.res, noexc, setAll, isn_non, isD_non, cop_lt, cop_le, cop_gt, cop_ge, eq_int, ne_int, bop_add, bop_sub, bound, comp, List.map_nil, q, List.isEmpty_nil]
    rfl
  | cons i r =>
    rw [e] at comp
    have q := ne_nil h ((i :: r).map .int)
    have m := bfn_max h (i :: r)
    have em : ((i :: r).map D.int).isEmpty = false := rfl
    rw [em] at q
    generalize (i :: r).map D.int = L at *
    simp only [wipe, Ss.ev, S.ev, E.ev, Es.ev, Eo.ev, It.ev, Tg.as, Tgs.as, arrange, callM, Rs.bind, Rs.at, rsO, Option.bind, Option.map, getV_z, getV_s, gv_int, gv_bl, gv_str, gv_ref, gv_lst, gv_tup, gv_dct, gv_non, startE, List.map, List.set_cons_zero, List.set_cons_succ, List.replicate, List.cons_append, List.nil_append, List.getElem?_cons_zero, List.getElem?_cons_succ, truth_bl, Bool.not_true, Bool.not_false, fin, P.put, lim, List.length_nil, List.length_cons, Nat.reduceAdd, Nat.reduceSub, Nat.reduceLeDiff, if_true, Rf.then, Rf.res, noexc, setAll, isn_non, isD_non, cop_lt, cop_le, cop_gt, cop_ge, eq_int, ne_int, bop_add, bop_sub, bound, comp, q, m]
    rfl
theorem mx2_num (x y : D) : isNum (mx2 x y) = true := most_num _
theorem c_pair (n : Nat) {x y : D} (hx : isNum x = true) (hy : isNum y = true) (h : Lh) : callPure (run prog (n + 1)) 9 [.tup [x, y]] h = .ok (mx2 x y) h := by
  have nn : ∀ d ∈ [x, y], isNum d = true := fun d hd => by
    simp only [List.mem_cons, List.not_mem_nil, or_false] at hd
    rcases hd with rfl | rfl <;> assumption
  refine pure_ok (h1 := []) (sms_nref _ (sms_cons (tup_sm (by simp) (sms_cons (num_sm hx) (sms_cons (num_sm hy) rfl))) rfl)) ?_ (D.sm_nref _ (num_sm (mx2_num x y)))
  rw [run_env (n := n) (fd := f_greatest) (env := [some (.tup [x, y]), none, none]) (by rfl) rfl rfl]
  exact most_sq true nn (by simp) []
def pairF (f : D → D → D) : D → D
  | .tup [x, y] => f x y
  | _ => .non
theorem zipD_map (f : D → D → D) : ∀ xs ys : List D, (zipD xs ys).map (pairF f) = List.zipWith f xs ys
  | [], _ => rfl
  | _ :: _, [] => rfl
  | x :: xs, y :: ys => by
    show f x y :: (zipD xs ys).map (pairF f) = _
    rw [zipD_map f xs ys]; rfl
theorem zipD_mem {xs ys : List D} {d : D} (h : d ∈ zipD xs ys) : ∃ x y, d = .tup [x, y] ∧ x ∈ xs ∧ y ∈ ys := by
  obtain ⟨p, hp, rfl⟩ := List.mem_map.mp h
  exact ⟨p.1, p.2, rfl, (List.of_mem_zip hp).1, (List.of_mem_zip hp).2⟩
theorem zip_seq {xs ys : List D} {k k' : Bool} (hl : xs.length = ys.length) : (∀ h, (Sr.zip (sq k xs) (sq k' ys)).len h = some (zipD xs ys).length) ∧ ∀ h i, i < (zipD xs ys).length → (Sr.zip (sq k xs) (sq k' ys)).at h i = (zipD xs ys)[i]? := by
  constructor
  · intro h
    exact (items_ok (zip_items (h := h) hl)).1
  · intro h i hi
    rcases (items_ok (zip_items (h := h) (k := k) (k' := k') hl)).2 i with e | e
    · exact e
    · omega
abbrev uiE : E := .comp false [4] (.nm 4) (.zip (.var 2) (.var 3)) .no (.call .pure 9 (.cons (.var 4) .nil) [0])
theorem ui_ev (n : Nat) {k k' : Bool} {xs ys : List D} (hx : ∀ d ∈ xs, isNum d = true) (hy : ∀ d ∈ ys, isNum d = true) (hl : xs.length = ys.length) (lb : xs.length ≤ 1000) {x0 x1 x4 : Option D} (h : Lh) :
    uiE.ev ⟨run prog (n + 1), prog.loop, prog.sub⟩ [x0, x1, some (sq k xs), some (sq k' ys), x4] h = .ok (.ref h.length) (h ++ [.lst (unR xs ys)]) := by
  have g2 : getV [x0, x1, some (sq k xs), some (sq k' ys), x4] 2 = some (sq k xs) := getV_z (s := []) (nx_sq k _)
  have g3 : getV [x0, x1, some (sq k xs), some (sq k' ys), x4] 3 = some (sq k' ys) := getV_z (s := []) (nx_sq k' _)
  have zl : (zipD xs ys).length ≤ 1000 := by
    unfold zipD
    rw [List.length_map, List.length_zip]; omega
  rw [comp_ev (src := .zip (sq k xs) (sq k' ys)) (ds := zipD xs ys) (fun d => [pairF mx2 d]) (by simp only [It.ev, E.ev, rsO, g2, g3, Rs.bind]) (zip_items hl) (by unfold lim; omega) fun x hx' acc => step_map acc ?_, map_of, zipD_map]
  · rfl
  · obtain ⟨x, y, rfl, mx, my⟩ := zipD_mem hx'
    have c := c_pair n (hx x mx) (hy y my) h
    have g : getV ((wipe [x0, x1, some (sq k xs), some (sq k' ys), x4] [4]).set 4 (some (.tup [x, y]))) 4 = some (.tup [x, y]) := rfl
    generalize (wipe [x0, x1, some (sq k xs), some (sq k' ys), x4] [4]).set 4 (some (.tup [x, y])) = Z at g ⊢
    simp only [E.ev, Es.ev, arrange, callM, Rs.bind, rsO, g, Option.bind, Option.map, List.getElem?_cons_zero, c]
    rfl
def pairU : D → List D
  | .tup [x, y] => unR (row x) (row y)
  | _ => []
theorem step_cellT {cx : Cx} {env env2 : Env} {own : List Nat} {t : Tg} {e : E} {h : Lh} {d : D} {ds : List D} (acc : List D) (ht : t.as cx (wipe env own) d h = .ok env2 h) (he : e.ev cx env2 h = .ok (.ref h.length) (h ++ [.lst ds])) : compStep cx env own t .no e d acc h = .ok (acc ++ [.ref h.length]) (h ++ [.lst ds]) := by
  unfold compStep
  rw [ht]
  show noexc ((e.ev cx env2 h).bind fun x h => .ok (acc ++ [x]) h) = _
  rw [he]; rfl
theorem un_cells (n : Nat) {k k' : Bool} {m l : List (List D)} {w : Nat} (r : Rect m w) (r' : Rect l w) (hl : l.length = m.length) (h : Lh) :
    (E.comp false [2, 3] (.tp (.cons (.nm 2) (.cons (.nm 3) .nil))) (.zip (.var 0) (.var 1)) .no uiE).ev ⟨run prog (n + 1), prog.loop, prog.sub⟩ [some (mat k m), some (mat k' l), none, none, none] h = .ok (gridR h (un m l)) (gridH h (un m l)) := by
  have l2 := r.l2
  have w2 := r.w2
  have g0 : getV [some (mat k m), some (mat k' l), none, none, none] 0 = some (mat k m) := getV_z (s := []) (nx_sq k _)
  have g1 : getV [some (mat k m), some (mat k' l), none, none, none] 1 = some (mat k' l) := getV_z (s := []) (nx_sq k' _)
  have hl2 : (m.map (sq k)).length = (l.map (sq k')).length := by rw [List.length_map, List.length_map, hl]
  have zs := zip_seq (k := k) (k' := k') hl2
  have zl : (zipD (m.map (sq k)) (l.map (sq k'))).length ≤ 1000 := by
    unfold zipD
    rw [List.length_map, List.length_zip, List.length_map]; omega
  rw [comp_cells (src := .zip (mat k m) (mat k' l)) (ds := zipD (m.map (sq k)) (l.map (sq k'))) pairU (by simp only [It.ev, E.ev, rsO, g0, g1, Rs.bind]) zs.1 zs.2 (by unfold lim; omega) fun d hd acc h => ?_]
  · have : ∀ (a b : List (List D)), (zipD (a.map (sq k)) (b.map (sq k'))).map pairU = un a b := by
      intro a
      induction a with
      | nil => intro b; rfl
      | cons x a ih =>
        intro b
        cases b with
        | nil => rfl
        | cons y b =>
          show unR (row (sq k x)) (row (sq k' y)) :: (zipD (a.map (sq k)) (b.map (sq k'))).map pairU = _
          rw [ih b, row_sq, row_sq]; rfl
    rw [this]
  · obtain ⟨x, y, rfl, mx, my⟩ := zipD_mem hd
    obtain ⟨a, ha, rfl⟩ := List.mem_map.mp mx
    obtain ⟨b, hb, rfl⟩ := List.mem_map.mp my
    have qa := r.hr a ha
    have qb := r'.hr b hb
    refine step_cellT (env2 := [some (mat k m), some (mat k' l), some (sq k a), some (sq k' b), none]) acc rfl ?_
    show _ = Rs.ok (D.ref h.length) (h ++ [.lst (unR (row (sq k a)) (row (sq k' b)))])
    rw [row_sq, row_sq]
    exact ui_ev n qa.2 qb.2 (by rw [qa.1, qb.1]) (by omega) h
theorem r_united_of (n : Nat) {k k' : Bool} {m l : List (List D)} {w : Nat} (r : Rect m w) (r' : Rect l w) (hl : l.length = m.length) (h : Lh) : run prog (n + 2) i_united_of [mat k m, mat k' l] h = .ok (gridR h (un m l)) (gridH h (un m l)) := by
  rw [run_env (n := n + 1) (fd := f_united_of) (env := [some (mat k m), some (mat k' l), none, none, none]) (by rfl) rfl rfl]
  have c := un_cells n (k := k) (k' := k') r r' hl h
  show (b_united_of.ev _ _ _).res = _
  simp only [b_united_of, Ss.ev, S.ev, c, Rs.at, Rf.then, Rf.res]
/-! ### a number added -/
def sh (m : List (List D)) (x : D) : List (List D) := m.map fun r => r.map fun d => addD d x
abbrev siE : E := .comp false [3] (.nm 3) (.ex (.var 2)) .no (.call .pure 8 (.cons (.var 3) (.cons (.var 1) .nil)) [0, 1])
theorem r_shifted_of (n : Nat) {k : Bool} {m : List (List D)} {w : Nat} (r : Rect m w) {x : D} (hx : isNum x = true) (h : Lh) : run prog (n + 2) i_shifted_of [mat k m, x] h = .ok (gridR h (sh m x)) (gridH h (sh m x)) := by
  rw [run_env (n := n + 1) (fd := f_shifted_of) (env := [some (mat k m), some x, none, none]) (by rfl) rfl rfl]
  have l2 := r.l2
  have w2 := r.w2
  have xx := num_nx hx
  have v0 : getV [some (mat k m), some x, none, none] 0 = some (mat k m) := getV_z (s := []) (nx_sq k _)
  have c : (E.comp false [2] (.nm 2) (.ex (.var 0)) .no siE).ev ⟨run prog (n + 1), prog.loop, prog.sub⟩ [some (mat k m), some x, none, none] h = .ok (gridR h (sh m x)) (gridH h (sh m x)) := by
    rw [comp_cells (src := .seq (mat k m)) (ds := m.map (sq k)) (fun d => (row d).map fun d => addD d x) (by simp only [It.ev, E.ev, rsO, v0, Rs.bind]) (fun h => seq_len (seq_sq k _) h) (fun h i _ => seq_at (seq_sq k _) h i) (by rw [List.length_map]; unfold lim; omega) fun d hd acc h => ?_]
    · have : (m.map (sq k)).map (fun d => (row d).map fun d => addD d x) = sh m x := by
        rw [List.map_map]
        unfold sh
        congr 1
        funext y
        show (row (sq k y)).map _ = _
        rw [row_sq]
      rw [this]
    · obtain ⟨ro, hro, rfl⟩ := List.mem_map.mp hd
      have q := r.hr ro hro
      refine step_cell (i := 2) acc ?_
      rw [row_sq]
      show siE.ev _ [some (mat k m), some x, some (sq k ro), none] h = _
      have g2 : getV [some (mat k m), some x, some (sq k ro), none] 2 = some (sq k ro) := getV_z (s := []) (nx_sq k _)
      rw [comp_ev (src := .seq (sq k ro)) (ds := ro) (fun d => [addD d x]) (by simp only [It.ev, E.ev, rsO, g2, Rs.bind]) (items_seq (seq_sq k ro)) (by unfold lim; omega) fun y hy acc => step_map acc ?_, map_of]
      · rfl
      · have g3 : getV ((wipe [some (mat k m), some x, some (sq k ro), none] [3]).set 3 (some y)) 3 = some y := getV_z (s := []) (num_nx (q.2 y hy))
        have g1 : getV ((wipe [some (mat k m), some x, some (sq k ro), none] [3]).set 3 (some y)) 1 = some x := getV_z (s := []) xx
        generalize (wipe [some (mat k m), some x, some (sq k ro), none] [3]).set 3 (some y) = Z at g3 g1 ⊢
        have cs := c_summed n (q.2 y hy) hx h
        simp only [E.ev, Es.ev, arrange, callM, Rs.bind, rsO, g3, g1, Option.bind, Option.map, List.getElem?_cons_zero, List.getElem?_cons_succ, cs]
  show (b_shifted_of.ev _ _ _).res = _
  simp only [b_shifted_of, Ss.ev, S.ev, c, Rs.at, Rf.then, Rf.res]
end K02
end TB

end

section
set_option Elab.async false
set_option linter.all false
set_option maxRecDepth 100000
set_option maxHeartbeats 1000000
namespace TB
namespace K02
open PySem
/-! ### max-plus algebra -/
/-- at most z, nothing below all -/
def LE (x : D) (z : Int) : Prop := ∀ i, x = .int i → i ≤ z
theorem LE_non (z : Int) : LE .non z := fun i h => by cases h
theorem LE_ext {x y : D} (hx : isNum x = true) (hy : isNum y = true) (h : ∀ z, LE x z ↔ LE y z) : x = y := by
  cases x <;> first
    | (cases hx; done)
    | skip
  · cases y <;> first
      | (cases hy; done)
      | rfl
      | (rename_i j
         have := (h (j - 1)).mp (LE_non _) j rfl
         omega)
  · rename_i i
    cases y <;> first
      | (cases hy; done)
      | skip
    · have := (h (i - 1)).mpr (LE_non _) i rfl
      omega
    · rename_i j
      have a := (h j).mpr (fun k e => by cases e; omega) i rfl
      have b := (h i).mp (fun k e => by cases e; omega) j rfl
      rw [show i = j by omega]
theorem LE_addL {x : D} {b z : Int} : LE (addD x (.int b)) z ↔ LE x (z - b) := by
  cases x <;> first
    | (rename_i a
       constructor
       · intro h i e
         cases e
         have : a + b ≤ z := h _ rfl
         omega
       · intro h i e
         have e : D.int (a + b) = D.int i := e
         cases e
         have : a ≤ z - b := h _ rfl
         omega)
    | (constructor
       · intro h i e
         cases e
       · intro h i e
         cases e)
theorem addD_non (x : D) : addD x .non = .non := by cases x <;> rfl
theorem non_addD (x : D) : addD .non x = .non := by cases x <;> rfl
theorem addD_comm (x y : D) : addD x y = addD y x := by
  cases x <;> cases y <;> first
    | rfl
    | (show D.int (_ + _) = D.int (_ + _); rw [Int.add_comm])
theorem addD_assoc (x y z : D) : addD (addD x y) z = addD x (addD y z) := by
  cases x <;> cases y <;> cases z <;> first
    | rfl
    | (show D.int (_ + _ + _) = D.int (_ + (_ + _)); rw [Int.add_assoc])
theorem LE_addR {x : D} {b z : Int} : LE (addD (.int b) x) z ↔ LE x (z - b) := by rw [addD_comm]; exact LE_addL
theorem LE_most {ds : List D} (hn : ∀ d ∈ ds, isNum d = true) {z : Int} : LE (most ds) z ↔ ∀ d ∈ ds, LE d z := by
  unfold most
  cases e : mxI (known ds) with
  | none =>
    constructor
    · intro _ d hd i hi
      subst hi
      obtain ⟨m, hm⟩ := mxI_of ((known_mem (ds := ds)).mpr hd)
      rw [e] at hm; cases hm
    · intro _ i hi
      cases hi
  | some m =>
    have q := mxI_some e
    constructor
    · intro h d hd i hi
      subst hi
      have a := q.2 _ ((known_mem (ds := ds)).mpr hd)
      have b := h m rfl
      omega
    · intro h i hi
      have hi : D.int m = D.int i := hi
      cases hi
      exact h _ ((known_mem (ds := ds)).mp q.1) _ rfl
/-- the j-th, nothing behind the end -/
def at' (r : List D) (j : Nat) : D := (r[j]?).getD .non
theorem at_zip (r c : List D) (j : Nat) : at' (List.zipWith addD r c) j = addD (at' r j) (at' c j) := by
  unfold at'
  rw [List.getElem?_zipWith]
  cases r[j]? with
  | none => cases c[j]? <;> first | rfl | exact (non_addD _).symm
  | some x => cases c[j]? with
    | none => exact (addD_non _).symm
    | some y => rfl
theorem LE_mem {ds : List D} {z : Int} : (∀ d ∈ ds, LE d z) ↔ ∀ j, LE (at' ds j) z := by
  constructor
  · intro h j
    unfold at'
    cases e : ds[j]? with
    | none => exact LE_non z
    | some d => exact h d (List.mem_of_getElem? e)
  · intro h d hd
    obtain ⟨j, hj, rfl⟩ := List.mem_iff_getElem.mp hd
    have := h j
    unfold at' at this
    rw [List.getElem?_eq_getElem hj] at this
    exact this
theorem LE_dot {r c : List D} {z : Int} : LE (dot r c) z ↔ ∀ j, LE (addD (at' r j) (at' c j)) z := by
  unfold dot
  rw [LE_most (zipWith_num r c), LE_mem]
  constructor
  · intro h j; rw [← at_zip]; exact h j
  · intro h j; rw [at_zip]; exact h j
theorem LE_dotL {r c : List D} {y : D} {z : Int} (hy : isNum y = true) : LE (addD (dot r c) y) z ↔ ∀ j, LE (addD (addD (at' r j) (at' c j)) y) z := by
  cases y <;> first
    | (cases hy; done)
    | skip
  · constructor
    · intro _ j; rw [addD_non]; exact LE_non z
    · intro _; rw [addD_non]; exact LE_non z
  · rw [LE_addL, LE_dot]
    constructor
    · intro h j; rw [LE_addL]; exact h j
    · intro h j; rw [← LE_addL]; exact h j
theorem LE_dotR {r c : List D} {y : D} {z : Int} (hy : isNum y = true) : LE (addD y (dot r c)) z ↔ ∀ j, LE (addD y (addD (at' r j) (at' c j))) z := by
  rw [addD_comm, LE_dotL hy]
  constructor
  · intro h j; rw [addD_comm]; exact h j
  · intro h j; rw [addD_comm]; exact h j
def en (m : List (List D)) (i j : Nat) : D := at' ((m[i]?).getD []) j
theorem at_num {r : List D} (h : ∀ d ∈ r, isNum d = true) (j : Nat) : isNum (at' r j) = true := by
  unfold at'
  cases e : r[j]? with
  | none => rfl
  | some d => exact h d (List.mem_of_getElem? e)
theorem en_num {m : List (List D)} {w : Nat} (r : Rect m w) (i j : Nat) : isNum (en m i j) = true := by
  unfold en
  cases e : m[i]? with
  | none => rfl
  | some ro => exact at_num (r.hr ro (List.mem_of_getElem? e)).2 j
theorem at_col (m : List (List D)) (j i : Nat) : at' (colD m j) i = en m i j := by
  unfold at' colD en
  rw [List.getElem?_map]
  cases m[i]? with
  | none => rfl
  | some r => rfl
theorem en_pr (m n : List (List D)) {w i j : Nat} (hj : j < w) : en (pr m n w) i j = if i < m.length then dot ((m[i]?).getD []) (colD n j) else .non := by
  unfold en pr
  rw [List.getElem?_map]
  by_cases h : i < m.length
  · rw [List.getElem?_eq_getElem h, if_pos h]
    show at' ((List.range w).map fun j => dot m[i] (colD n j)) j = _
    unfold at'
    rw [List.getElem?_map, List.getElem?_range hj]
    rfl
  · rw [if_neg h, List.getElem?_eq_none (by omega)]
    rfl
theorem en_prw (m n : List (List D)) {w i j : Nat} (hj : w ≤ j) : en (pr m n w) i j = .non := by
  unfold en pr
  rw [List.getElem?_map]
  cases m[i]? with
  | none => rfl
  | some r =>
    show at' ((List.range w).map fun j => dot r (colD n j)) j = _
    unfold at'
    rw [List.getElem?_eq_none (by simp; omega)]
    rfl
theorem LE_pr {m n : List (List D)} {w i j : Nat} (hi : i < m.length) (hj : j < w) {z : Int} : LE (en (pr m n w) i j) z ↔ ∀ l, LE (addD (en m i l) (en n l j)) z := by
  rw [en_pr m n hj, if_pos hi, LE_dot]
  constructor
  · intro h l; have := h l; rw [at_col] at this; exact this
  · intro h l; rw [at_col]; exact h l
theorem mat_ext {m n : List (List D)} {w : Nat} (r : Rect m w) (r' : Rect n w) (hl : m.length = n.length) (h : ∀ i j, i < m.length → j < w → en m i j = en n i j) : m = n := by
  refine List.ext_getElem hl fun i h1 h2 => ?_
  have q1 := (r.hr m[i] (List.getElem_mem h1)).1
  have q2 := (r'.hr n[i] (List.getElem_mem h2)).1
  refine List.ext_getElem (by rw [q1, q2]) fun j h3 h4 => ?_
  have := h i j h1 (by omega)
  unfold en at this
  rw [List.getElem?_eq_getElem h1, List.getElem?_eq_getElem h2] at this
  unfold at' at this
  have e : ((m[i])[j]?).getD .non = ((n[i])[j]?).getD .non := this
  rw [List.getElem?_eq_getElem h3, List.getElem?_eq_getElem h4] at e
  exact e
theorem pr_len (m n : List (List D)) (w : Nat) : (pr m n w).length = m.length := by simp [pr]
theorem addD_dot {r c : List D} {y : D} {z : Int} (hy : isNum y = true) : LE (addD y (dot r c)) z ↔ ∀ j, LE (addD y (addD (at' r j) (at' c j))) z := LE_dotR hy
/-- entries of a row of a product, summed with what follows -/
theorem LE_prL {m n : List (List D)} {w i l : Nat} {y : D} (hy : isNum y = true) (hi : i < m.length) (hl : l < w) {z : Int} : LE (addD (en (pr m n w) i l) y) z ↔ ∀ k, LE (addD (addD (en m i k) (en n k l)) y) z := by
  rw [en_pr m n hl, if_pos hi, LE_dotL hy]
  constructor
  · intro h k; have := h k; rw [at_col] at this; exact this
  · intro h k; rw [at_col]; exact h k
theorem LE_prR {m n : List (List D)} {w i l : Nat} {y : D} (hy : isNum y = true) (hi : i < m.length) (hl : l < w) {z : Int} : LE (addD y (en (pr m n w) i l)) z ↔ ∀ k, LE (addD y (addD (en m i k) (en n k l))) z := by
  rw [en_pr m n hl, if_pos hi, LE_dotR hy]
  constructor
  · intro h k; have := h k; rw [at_col] at this; exact this
  · intro h k; rw [at_col]; exact h k
theorem en_out {m : List (List D)} {w i j : Nat} (r : Rect m w) (hj : w ≤ j) : en m i j = .non := by
  unfold en
  cases e : m[i]? with
  | none => rfl
  | some ro =>
    show at' ro j = .non
    unfold at'
    rw [List.getElem?_eq_none (by rw [(r.hr ro (List.mem_of_getElem? e)).1]; exact hj)]
    rfl
theorem en_low {m : List (List D)} {i j : Nat} (hi : m.length ≤ i) : en m i j = .non := by
  unfold en
  rw [List.getElem?_eq_none hi]
  rfl
theorem pr_assoc {a b c : List (List D)} {s : Nat} (ra : Rect a s) (rb : Rect b s) (rc : Rect c s) (la : a.length = s) (lb : b.length = s) (lc : c.length = s) : pr (pr a b s) c s = pr a (pr b c s) s := by
  refine mat_ext (w := s) (pr_rect (pr_rect ra rb) rc) (pr_rect ra (pr_rect rb rc)) (by rw [pr_len, pr_len, pr_len]) fun i j hi hj => ?_
  rw [pr_len, pr_len] at hi
  refine LE_ext (en_num (pr_rect (pr_rect ra rb) rc) i j) (en_num (pr_rect ra (pr_rect rb rc)) i j) fun z => ?_
  rw [LE_pr (by rw [pr_len]; exact hi) hj, LE_pr hi hj]
  constructor
  · intro h k
    by_cases hk : k < s
    · rw [LE_prR (en_num ra i k) (by omega) hj]
      intro l
      by_cases hl : l < s
      · have := (LE_prL (en_num rc l j) hi hl).mp (h l) k
        rwa [addD_assoc] at this
      · rw [en_out rb (by omega), non_addD, addD_non]; exact LE_non z
    · rw [en_out ra (by omega), non_addD]; exact LE_non z
  · intro h l
    by_cases hl : l < s
    · rw [LE_prL (en_num rc l j) hi hl]
      intro k
      by_cases hk : k < s
      · have := (LE_prR (en_num ra i k) (by omega) hj).mp (h k) l
        rwa [← addD_assoc] at this
      · rw [en_out ra (by omega), non_addD, non_addD]; exact LE_non z
    · rw [en_prw a b (by omega), non_addD]; exact LE_non z
theorem en_unit {s i j : Nat} (hi : i < s) (hj : j < s) : en (unitM s) i j = if i = j then .int 0 else .non := by
  unfold en unitM
  rw [List.getElem?_map, List.getElem?_range hi]
  show at' ((List.range s).map fun j => if i = j then .int 0 else .non) j = _
  unfold at'
  rw [List.getElem?_map, List.getElem?_range hj]
  rfl
theorem unit_rect {s : Nat} (h1 : 1 ≤ s) (h2 : s ≤ 20) : Rect (unitM s) s := by
  refine ⟨by simp [unitM]; omega, by simp [unitM]; omega, h1, h2, fun x hx => ?_⟩
  obtain ⟨i, _, rfl⟩ := List.mem_map.mp hx
  refine ⟨by simp, fun d hd => ?_⟩
  obtain ⟨j, _, rfl⟩ := List.mem_map.mp hd
  split <;> rfl
theorem unit_len (s : Nat) : (unitM s).length = s := by simp [unitM]
theorem zero_addD {x : D} (h : isNum x = true) : addD (.int 0) x = x := by
  cases x <;> first
    | (cases h; done)
    | rfl
    | (show D.int (0 + _) = _; rw [Int.zero_add])
theorem pr_unitL {a : List (List D)} {s : Nat} (ra : Rect a s) (la : a.length = s) : pr (unitM s) a s = a := by
  have ru := unit_rect ra.w1 ra.w2
  refine mat_ext (w := s) (pr_rect ru ra) ra (by rw [pr_len, unit_len, la]) fun i j hi hj => ?_
  rw [pr_len, unit_len] at hi
  refine LE_ext (en_num (pr_rect ru ra) i j) (en_num ra i j) fun z => ?_
  rw [LE_pr (by rw [unit_len]; exact hi) hj]
  constructor
  · intro h
    have := h i
    rw [en_unit hi hi, if_pos rfl, zero_addD (en_num ra i j)] at this
    exact this
  · intro h l
    by_cases hl : l < s
    · rw [en_unit hi hl]
      by_cases e : i = l
      · subst e; rw [if_pos rfl, zero_addD (en_num ra i j)]; exact h
      · rw [if_neg e, non_addD]; exact LE_non z
    · rw [en_low (m := a) (by omega), addD_non]; exact LE_non z
theorem pr_unitR {a : List (List D)} {s : Nat} (ra : Rect a s) (la : a.length = s) : pr a (unitM s) s = a := by
  have ru := unit_rect ra.w1 ra.w2
  refine mat_ext (w := s) (pr_rect ra ru) ra (by rw [pr_len]) fun i j hi hj => ?_
  rw [pr_len] at hi
  refine LE_ext (en_num (pr_rect ra ru) i j) (en_num ra i j) fun z => ?_
  rw [LE_pr hi hj]
  constructor
  · intro h
    have := h j
    rw [en_unit hj hj, if_pos rfl, addD_comm, zero_addD (en_num ra i j)] at this
    exact this
  · intro h l
    by_cases hl : l < s
    · rw [en_unit hl hj]
      by_cases e : l = j
      · subst e; rw [if_pos rfl, addD_comm, zero_addD (en_num ra i l)]; exact h
      · rw [if_neg e, addD_non]; exact LE_non z
    · rw [en_out ra (by omega), non_addD]; exact LE_non z
/-- powers, one by one -/
def pwr (a : List (List D)) (s : Nat) : Nat → List (List D)
  | 0 => unitM s
  | n + 1 => pr a (pwr a s n) s
theorem pw_ok {a : List (List D)} {s : Nat} (ra : Rect a s) (la : a.length = s) : ∀ n, Rect (pwr a s n) s ∧ (pwr a s n).length = s
  | 0 => ⟨unit_rect ra.w1 ra.w2, unit_len s⟩
  | n + 1 => ⟨pr_rect ra (pw_ok ra la n).1, by show (pr a (pwr a s n) s).length = s; rw [pr_len, la]⟩
theorem pw_add {a : List (List D)} {s : Nat} (ra : Rect a s) (la : a.length = s) (q : Nat) : ∀ n, pr (pwr a s n) (pwr a s q) s = pwr a s (n + q)
  | 0 => by rw [Nat.zero_add]; exact pr_unitL (pw_ok ra la q).1 (pw_ok ra la q).2
  | n + 1 => by
    rw [show n + 1 + q = (n + q) + 1 by omega]
    show pr (pr a (pwr a s n) s) (pwr a s q) s = pr a (pwr a s (n + q)) s
    rw [pr_assoc ra (pw_ok ra la n).1 (pw_ok ra la q).1 la (pw_ok ra la n).2 (pw_ok ra la q).2, pw_add ra la q n]
theorem pw_one {a : List (List D)} {s : Nat} (ra : Rect a s) (la : a.length = s) : pwr a s 1 = a := pr_unitR ra la
end K02
end TB

end

section
set_option Elab.async false
set_option linter.all false
set_option maxRecDepth 100000
set_option maxHeartbeats 1000000
namespace TB
namespace K02
open PySem
theorem whl_go {test : Env → Lh → Rs Bool} {body : Env → Lh → Rf} {K : Nat} {s s1 : Env} {h h1 : Lh} (t : test s h = .ok true h) (b : body s h = .ok (.nx s1) h1) : whl test body (K + 1) s h = whl test body K s1 h1 := by
  show (test s h).at s (fun b h => match b with
    | true => (body s h).turn fun s h => whl test body K s h
    | false => .ok (.nx s) h) = _
  rw [t]
  show (body s h).turn (fun s h => whl test body K s h) = _
  rw [b]
  rfl
theorem whl_stop {test : Env → Lh → Rs Bool} {body : Env → Lh → Rf} {K : Nat} {s : Env} {h : Lh} (t : test s h = .ok false h) : whl test body (K + 1) s h = .ok (.nx s) h := by
  show (test s h).at s (fun b h => match b with
    | true => (body s h).turn fun s h => whl test body K s h
    | false => .ok (.nx s) h) = _
  rw [t]
  rfl
theorem c_as_rows (n : Nat) {k : Bool} {m : List (List D)} {w : Nat} (r : Rect m w) (h : Lh) : callPure (run prog (n + 1)) 14 [mat k m] h = .ok (mat false m) h := by
  refine pure_ok (h1 := []) (sm1 (r.sm k)) ?_ (D.sm_nref _ (r.sm false))
  rw [run_env (n := n) (fd := f_as_rows) (env := [some (mat k m), none]) (by rfl) rfl rfl]
  have l2 := r.l2
  have v0 : getV [some (mat k m), none] 0 = some (mat k m) := getV_z (s := []) (nx_sq k _)
  have c : (E.comp true [1] (.nm 1) (.ex (.var 0)) .no (.bi .list true (.cons (.var 1) .nil))).ev ⟨run prog n, prog.loop, prog.sub⟩ [some (mat k m), none] [] = .ok (mat false m) [] := by
    rw [comp_ev (src := .seq (mat k m)) (ds := m.map (sq k)) (fun d => [.lst (row d)]) (by simp only [It.ev, E.ev, rsO, v0, Rs.bind]) (mat_items k m) (by rw [List.length_map]; unfold lim; omega) fun x hx acc => step_map acc ?_, map_of]
    · have : (m.map (sq k)).map (fun d => D.lst (row d)) = m.map (sq false) := by
        rw [List.map_map]
        congr 1
        funext y
        show D.lst (row (sq k y)) = _
        rw [row_sq]; rfl
      rw [this]; rfl
    · obtain ⟨ro, hro, rfl⟩ := List.mem_map.mp hx
      rw [row_sq]
      have g1 : getV ((wipe [some (mat k m), none] [1]).set 1 (some (sq k ro))) 1 = some (sq k ro) := getV_z (s := []) (nx_sq k _)
      have bl : bfn [] .list [sq k ro] = some (.l ro) := by cases k <;> rfl
      simp only [E.ev, Es.ev, Rs.bind, rsO, g1, bl, fin, P.put, if_true]
  show (b_as_rows.ev _ _ _).res = _
  simp only [b_as_rows, Ss.ev, S.ev, c, Rs.at, Rf.then, Rf.res]
/-! ### powers by halving -/
def pwB : Ss := match b_power_of with
  | .cons _ (.cons (.whl _ b) _) => b
  | _ => .nil
abbrev sqE : E := .ite (.cmp .gt (.var 1) (.cst (.int 0))) (.call .pure 19 (.cons (.var 3) (.cons (.var 3) .nil)) [0, 1]) (.var 3)
theorem pwB_eq : pwB = .cons (.ite (.cmp .eq (.bin .mod true (.var 1) (.cst (.int 2))) (.cst (.int 1))) (.cons (.asg (.nm 2) (.call .inl 19 (.cons (.var 3) (.cons (.var 2) .nil)) [0, 1])) .nil) .nil) (.cons (.asg (.nm 1) (.bin .fdiv true (.var 1) (.cst (.int 2)))) (.cons (.asg (.nm 3) sqE) .nil)) := rfl
theorem pt_odd {cx : Cx} {x0 : Option D} {a c r : Int} {F F' Sq Sq' : D} {h h' : Lh} (hF : nx F = true) (hS : nx Sq = true) (md : bop h .mod (.int a) (.int 2) = some (.v (.int r))) (eq : cop h .eq (.int r) (.int 1) = some true) (cl : cx.call 19 [Sq, F] h = .ok F' h') (fd : bop h' .fdiv (.int a) (.int 2) = some (.v (.int c)))
    (se : sqE.ev cx [x0, some (.int c), some F', some Sq] h' = .ok Sq' h') : pwB.ev cx [x0, some (.int a), some F, some Sq] h = .ok (.nx [x0, some (.int c), some F', some Sq']) h' := by
  rw [pwB_eq]
  generalize sqE = A at se ⊢
  simp only [wipe, Ss.ev, S.ev, E.ev, Es.ev, Eo.ev, It.ev, Tg.as, Tgs.as, arrange, callM, Rs.bind, Rs.at, rsO, Option.bind, Option.map, getV_z, getV_s, gv_int, gv_bl, gv_str, gv_ref, gv_lst, gv_tup, gv_dct, gv_non, startE, List.map, List.set_cons_zero, List.set_cons_succ, List.replicate, List.cons_append, List.nil_append, List.getElem?_cons_zero, List.getElem?_cons_succ, truth_bl, Bool.not_true, Bool.not_false, fin, P.put, lim, List.length_nil, List.length_cons, Nat.reduceAdd, Nat.reduceSub, Nat.reduceLeDiff, if_true, Rf.then, Rf.res, noexc, setAll, isn_non, isD_non, cop_lt, cop_le, cop_gt, cop_ge, bop_add, bop_sub, bound, hF, hS, md, eq, cl, fd, se]
theorem pt_even {cx : Cx} {x0 : Option D} {a c r : Int} {F Sq Sq' : D} {h : Lh} (hF : nx F = true) (hS : nx Sq = true) (md : bop h .mod (.int a) (.int 2) = some (.v (.int r))) (eq : cop h .eq (.int r) (.int 1) = some false) (fd : bop h .fdiv (.int a) (.int 2) = some (.v (.int c)))
    (se : sqE.ev cx [x0, some (.int c), some F, some Sq] h = .ok Sq' h) : pwB.ev cx [x0, some (.int a), some F, some Sq] h = .ok (.nx [x0, some (.int c), some F, some Sq']) h := by
  rw [pwB_eq]
  generalize sqE = A at se ⊢
  simp only [wipe, Ss.ev, S.ev, E.ev, Es.ev, Eo.ev, It.ev, Tg.as, Tgs.as, arrange, callM, Rs.bind, Rs.at, rsO, Option.bind, Option.map, getV_z, getV_s, gv_int, gv_bl, gv_str, gv_ref, gv_lst, gv_tup, gv_dct, gv_non, startE, List.map, List.set_cons_zero, List.set_cons_succ, List.replicate, List.cons_append, List.nil_append, List.getElem?_cons_zero, List.getElem?_cons_succ, truth_bl, Bool.not_true, Bool.not_false, fin, P.put, lim, List.length_nil, List.length_cons, Nat.reduceAdd, Nat.reduceSub, Nat.reduceLeDiff, if_true, Rf.then, Rf.res, noexc, setAll, isn_non, isD_non, cop_lt, cop_le, cop_gt, cop_ge, bop_add, bop_sub, bound, hF, hS, md, eq, fd, se]
theorem sq_go {cx : Cx} {x0 x2 : Option D} {c : Int} {Sq Sq' : D} {h : Lh} (hS : nx Sq = true) (hc : 0 < c) (cl : callPure cx.call 19 [Sq, Sq] h = .ok Sq' h) : sqE.ev cx [x0, some (.int c), x2, some Sq] h = .ok Sq' h := by
  have gt := cop_gt h c 0
  rw [decide_eq_true hc] at gt
  simp only [wipe, Ss.ev, S.ev, E.ev, Es.ev, Eo.ev, It.ev, Tg.as, Tgs.as, arrange, callM, Rs.bind, Rs.at, rsO, Option.bind, Option.map, getV_z, getV_s, gv_int, gv_bl, gv_str, gv_ref, gv_lst, gv_tup, gv_dct, gv_non, startE, List.map, List.set_cons_zero, List.set_cons_succ, List.replicate, List.cons_append, List.nil_append, List.getElem?_cons_zero, List.getElem?_cons_succ, truth_bl, Bool.not_true, Bool.not_false, fin, P.put, lim, List.length_nil, List.length_cons, Nat.reduceAdd, Nat.reduceSub, Nat.reduceLeDiff, if_true, Rf.then, Rf.res, noexc, setAll, isn_non, isD_non, cop_lt, cop_le, cop_gt, cop_ge, bop_add, bop_sub, bound, hS, gt, cl]
theorem sq_no {cx : Cx} {x0 x2 : Option D} {c : Int} {Sq : D} {h : Lh} (hS : nx Sq = true) (hc : ¬ 0 < c) : sqE.ev cx [x0, some (.int c), x2, some Sq] h = .ok Sq h := by
  have gt := cop_gt h c 0
  rw [decide_eq_false hc] at gt
  simp only [wipe, Ss.ev, S.ev, E.ev, Es.ev, Eo.ev, It.ev, Tg.as, Tgs.as, arrange, callM, Rs.bind, Rs.at, rsO, Option.bind, Option.map, getV_z, getV_s, gv_int, gv_bl, gv_str, gv_ref, gv_lst, gv_tup, gv_dct, gv_non, startE, List.map, List.set_cons_zero, List.set_cons_succ, List.replicate, List.cons_append, List.nil_append, List.getElem?_cons_zero, List.getElem?_cons_succ, truth_bl, Bool.not_true, Bool.not_false, fin, P.put, lim, List.length_nil, List.length_cons, Nat.reduceAdd, Nat.reduceSub, Nat.reduceLeDiff, if_true, Rf.then, Rf.res, noexc, setAll, isn_non, isD_non, cop_lt, cop_le, cop_gt, cop_ge, bop_add, bop_sub, bound, hS, gt]
theorem grid_nx {h : Lh} {r : D} {rs : List (List D)} (g : GridAt h r rs) : nx r = true := by
  obtain ⟨b, t, l, rfl, _⟩ := g.ex
  rfl
theorem half_i (a : Nat) : ((a : Int)).fdiv 2 = ((a / 2 : Nat) : Int) := by
  rw [Int.fdiv_eq_ediv_of_nonneg _ (by decide)]; rfl
theorem mod_i (a : Nat) : ((a : Int)).fmod 2 = ((a % 2 : Nat) : Int) := by
  rw [Int.fmod_eq_emod_of_nonneg _ (by decide)]; rfl
theorem pw_turn (n : Nat) {A : List (List D)} {s : Nat} (ra : Rect A s) (la : A.length = s) {a f q : Nat} (ha : 1 ≤ a) {F : D} {h : Lh} (g : GridAt h F (pwr A s f)) (x0 : Option D) :
    ∃ F' h', pwB.ev ⟨run prog (n + 3), prog.loop, prog.sub⟩ [x0, some (.int (a : Nat)), some F, some (mat false (pwr A s q))] h = .ok (.nx [x0, some (.int ((a / 2 : Nat) : Int)), some F', some (mat false (pwr A s (if 0 < a / 2 then q + q else q)))]) h' ∧ GridAt h' F' (pwr A s (f + (a % 2) * q)) := by
  have rq := pw_ok ra la q
  have rf := pw_ok ra la f
  have hS : nx (mat false (pwr A s q)) = true := nx_sq false _
  have hF := grid_nx g
  have se : ∀ (F : D) (h : Lh), sqE.ev ⟨run prog (n + 3), prog.loop, prog.sub⟩ [x0, some (.int ((a / 2 : Nat) : Int)), some F, some (mat false (pwr A s q))] h = .ok (mat false (pwr A s (if 0 < a / 2 then q + q else q))) h := fun F h => by
    by_cases c : 0 < a / 2
    · rw [if_pos c, ← pw_add ra la q q]
      exact sq_go hS (by omega) (c_product n (k := false) (k' := false) rq.1 rq.1 rq.2 h)
    · rw [if_neg c]
      exact sq_no hS (by omega)
  have md := bop_mod h (a : Int) 2 (by decide)
  rw [mod_i] at md
  have fd := fun h => bop_fdiv h (a : Int) 2 (by decide)
  rw [half_i] at fd
  by_cases o : a % 2 = 1
  · rw [o] at md ⊢
    have cl := r_product n (k := false) rq.1 rf.1 rf.2 (X := F) (MatV.grid g)
    rw [pw_add ra la f q] at cl
    rw [show f + 1 * q = q + f by omega]
    exact ⟨_, _, pt_odd hF hS md (eq_t h _ _ rfl) cl (fd _) (se _ _), grid_new _ _⟩
  · have o : a % 2 = 0 := by omega
    rw [o] at md ⊢
    rw [show f + 0 * q = f by omega]
    exact ⟨F, h, pt_even hF hS md (eq_f h _ _ (by decide)) (fd h) (se F h), g⟩
theorem pw_loop (n : Nat) {A : List (List D)} {s : Nat} (ra : Rect A s) (la : A.length = s) (x0 : Option D) : ∀ (K a f q : Nat) (F : D) (h : Lh), a ≤ K → GridAt h F (pwr A s f) →
    ∃ F' Sq h', whl (fun s h => ((E.cmp .gt (.var 1) (.cst (.int 0))).ev ⟨run prog (n + 3), prog.loop, prog.sub⟩ s h).bind fun x h => rsO (truth h x) h) (fun s h => pwB.ev ⟨run prog (n + 3), prog.loop, prog.sub⟩ s h) (K + 1) [x0, some (.int (a : Nat)), some F, some (mat false (pwr A s q))] h = .ok (.nx [x0, some (.int 0), some F', Sq]) h' ∧ GridAt h' F' (pwr A s (f + a * q)) := by
  intro K
  induction K with
  | zero =>
    intro a f q F h ha g
    have : a = 0 := by omega
    subst this
    refine ⟨F, _, h, whl_stop ?_, by rw [Nat.zero_mul]; exact g⟩
    have gt := cop_gt h 0 0
    simp only [wipe, Ss.ev, S.ev, E.ev, Es.ev, Eo.ev, It.ev, Tg.as, Tgs.as, arrange, callM, Rs.bind, Rs.at, rsO, Option.bind, Option.map, getV_z, getV_s, gv_int, gv_bl, gv_str, gv_ref, gv_lst, gv_tup, gv_dct, gv_non, startE, List.map, List.set_cons_zero, List.set_cons_succ, List.replicate, List.cons_append, List.nil_append, List.getElem?_cons_zero, List.getElem?_cons_succ, truth_bl, Bool.not_true, Bool.not_false, fin, P.put, lim, List.length_nil, List.length_cons, Nat.reduceAdd, Nat.reduceSub, Nat.reduceLeDiff, if_true, Rf.then, Rf.res, noexc, setAll, isn_non, isD_non, cop_lt, cop_le, cop_gt, cop_ge, bop_add, bop_sub, bound, gt]
    rfl
  | succ K ih =>
    intro a f q F h ha g
    by_cases z : a = 0
    · subst z
      refine ⟨F, _, h, whl_stop ?_, by rw [Nat.zero_mul]; exact g⟩
      have gt := cop_gt h 0 0
      simp only [wipe, Ss.ev, S.ev, E.ev, Es.ev, Eo.ev, It.ev, Tg.as, Tgs.as, arrange, callM, Rs.bind, Rs.at, rsO, Option.bind, Option.map, getV_z, getV_s, gv_int, gv_bl, gv_str, gv_ref, gv_lst, gv_tup, gv_dct, gv_non, startE, List.map, List.set_cons_zero, List.set_cons_succ, List.replicate, List.cons_append, List.nil_append, List.getElem?_cons_zero, List.getElem?_cons_succ, truth_bl, Bool.not_true, Bool.not_false, fin, P.put, lim, List.length_nil, List.length_cons, Nat.reduceAdd, Nat.reduceSub, Nat.reduceLeDiff, if_true, Rf.then, Rf.res, noexc, setAll, isn_non, isD_non, cop_lt, cop_le, cop_gt, cop_ge, bop_add, bop_sub, bound, gt]
      rfl
    · obtain ⟨F1, h1, e1, g1⟩ := pw_turn n ra la (a := a) (f := f) (q := q) (by omega) g x0
      obtain ⟨F2, Sq, h2, e2, g2⟩ := ih (a / 2) (f + (a % 2) * q) (if 0 < a / 2 then q + q else q) F1 h1 (by omega) g1
      refine ⟨F2, Sq, h2, ?_, ?_⟩
      · rw [whl_go ?_ e1]
        · exact e2
        · have gt := cop_gt h (a : Int) 0
          rw [decide_eq_true (by omega)] at gt
          simp only [wipe, Ss.ev, S.ev, E.ev, Es.ev, Eo.ev, It.ev, Tg.as, Tgs.as, arrange, callM, Rs.bind, Rs.at, rsO, Option.bind, Option.map, getV_z, getV_s, gv_int, gv_bl, gv_str, gv_ref, gv_lst, gv_tup, gv_dct, gv_non, startE, List.map, List.set_cons_zero, List.set_cons_succ, List.replicate, List.cons_append, List.nil_append, List.getElem?_cons_zero, List.getElem?_cons_succ, truth_bl, Bool.not_true, Bool.not_false, fin, P.put, lim, List.length_nil, List.length_cons, Nat.reduceAdd, Nat.reduceSub, Nat.reduceLeDiff, if_true, Rf.then, Rf.res, noexc, setAll, isn_non, isD_non, cop_lt, cop_le, cop_gt, cop_ge, bop_add, bop_sub, bound, gt]
      · have : f + a * q = f + (a % 2) * q + (a / 2) * (if 0 < a / 2 then q + q else q) := by
          have ea : a = 2 * (a / 2) + a % 2 := by omega
          by_cases c : 0 < a / 2
          · rw [if_pos c]
            generalize a / 2 = c1 at ea ⊢
            generalize a % 2 = c2 at ea ⊢
            rw [ea, Nat.add_mul, Nat.mul_add, Nat.mul_assoc, Nat.two_mul]
            omega
          · have c0 : a / 2 = 0 := by omega
            rw [c0]
            have : a = a % 2 := by omega
            rw [← this]
            omega
        rw [this]
        exact g2
theorem r_power_of (n : Nat) {k : Bool} {A : List (List D)} {s : Nat} (ra : Rect A s) (la : A.length = s) {a : Nat} (ha : a ≤ 1000) (h : Lh) :
    ∃ F h', run prog (n + 4) i_power_of [mat k A, .int (a : Nat)] h = .ok F h' ∧ GridAt h' F (pwr A s a) := by
  rw [run_env (n := n + 3) (fd := f_power_of) (env := [some (mat k A), some (.int (a : Nat)), none, none]) (by rfl) rfl rfl]
  have hM : nx (mat k A) = true := nx_sq k _
  have lm := len_mat h k A
  rw [la] at lm
  have u := r_unit_of (n + 2) (s := s) ra.w2 h
  have ar := c_as_rows (n + 2) (k := k) ra (gridH h (unitM s))
  obtain ⟨F, Sq, h', e, g⟩ := pw_loop n ra la (some (mat k A)) 999999 a 0 1 (gridR h (unitM s)) (gridH h (unitM s)) (by omega) (grid_new h (unitM s))
  rw [pw_one ra la] at e
  rw [show 0 + a * 1 = a by omega] at g
  refine ⟨F, h', ?_, g⟩
  have u : run prog (n + 3) 15 [.int (s : Nat)] h = .ok (gridR h (unitM s)) (gridH h (unitM s)) := u
  have st : b_power_of = .cons (.par [2, 3] (.cons (.call .inl 15 (.cons (.bi .len true (.cons (.var 0) .nil)) .nil) [0]) (.cons (.call .pure 14 (.cons (.var 0) .nil) [0]) .nil))) (.cons (.whl (.cmp .gt (.var 1) (.cst (.int 0))) pwB) (.cons (.ret (.var 2)) .nil)) := rfl
  have p1 : (TB.S.par [2, 3] (.cons (.call .inl 15 (.cons (.bi .len true (.cons (.var 0) .nil)) .nil) [0]) (.cons (.call .pure 14 (.cons (.var 0) .nil) [0]) .nil))).ev ⟨run prog (n + 3), prog.loop, prog.sub⟩ [some (mat k A), some (.int (a : Nat)), none, none] h = .ok (.nx [some (mat k A), some (.int (a : Nat)), some (gridR h (unitM s)), some (mat false A)]) (gridH h (unitM s)) := by
    generalize gridR h (unitM s) = R0 at u ⊢
    generalize gridH h (unitM s) = H0 at u ar ⊢
    generalize ((a : Nat) : Int) = z
    simp only [wipe, Ss.ev, S.ev, E.ev, Es.ev, Eo.ev, It.ev, Tg.as, Tgs.as, arrange, callM, Rs.bind, Rs.at, rsO, Option.bind, Option.map, getV_z, getV_s, gv_int, gv_bl, gv_str, gv_ref, gv_lst, gv_tup, gv_dct, gv_non, startE, List.map, List.set_cons_zero, List.set_cons_succ, List.replicate, List.cons_append, List.nil_append, List.getElem?_cons_zero, List.getElem?_cons_succ, truth_bl, Bool.not_true, Bool.not_false, fin, P.put, lim, List.length_nil, List.length_cons, Nat.reduceAdd, Nat.reduceSub, Nat.reduceLeDiff, if_true, Rf.then, Rf.res, noexc, setAll, isn_non, isD_non, cop_lt, cop_le, cop_gt, cop_ge, eq_int, ne_int, bop_add, bop_sub, bound, hM, lm, u, ar]
  show (b_power_of.ev _ _ _).res = _
  rw [st]
  show ((TB.S.ev _ _ _ _).then _).res = _
  rw [p1]
  show ((whl _ _ _ _ _).then _).res = _
  have e : whl (fun s h => ((E.cmp .gt (.var 1) (.cst (.int 0))).ev ⟨run prog (n + 3), prog.loop, prog.sub⟩ s h).bind fun x h => rsO (truth h x) h) (fun s h => pwB.ev ⟨run prog (n + 3), prog.loop, prog.sub⟩ s h) prog.loop _ _ = _ := e
  rw [e]
  obtain ⟨b, t, l, rfl, _⟩ := g.ex
  rfl
end K02
end TB

end

section
set_option Elab.async false
set_option linter.all false
set_option maxRecDepth 100000
set_option maxHeartbeats 1000000
namespace TB
namespace K02
open PySem
def intsD (is : List Nat) : List D := is.map fun i => D.int (i : Nat)
theorem intsD_len (is : List Nat) : (intsD is).length = is.length := by simp [intsD]
theorem vec_sm (k : Bool) {v : List D} (hv : ∀ d ∈ v, isNum d = true) (hl : v.length ≤ 1000) : (sq k v).sm = true := sq_sm k (by omega) fun d hd => num_sm (hv d hd)
theorem c_vec_of (n : Nat) {d : D} (hs : d.sm = true) (m : Int) (h : Lh) : callPure (run prog (n + 4)) 5 [d, .int m] h = .ok (.bl (isVec m d)) h := pure_ok (nref_int d m hs) (r_is_vector_of n hs m []) rfl
theorem r_check_vector (n : Nat) {d : D} (hs : d.sm = true) (m : Int) (h : Lh) : run prog (n + 5) i_check_vector [d, .int m] h = if isVec m d = true then .ok .non h else .exc 4 [d] h := by
  rw [run_env (fd := f_check_vector) (env := [some d, some (.int m)]) rfl rfl rfl]
  have hx := sm_nx hs
  have hc := c_vec_of n hs m h
  show (b_check_vector.ev _ _ _).res = _
  simp only [b_check_vector]
  cases e : isVec m d with
  | true => rw [e] at hc; simp only [wipe, Ss.ev, S.ev, E.ev, Es.ev, Eo.ev, It.ev, Tg.as, Tgs.as, arrange, callM, Rs.bind, Rs.at, rsO, Option.bind, Option.map, getV_z, getV_s, gv_int, gv_bl, gv_str, gv_ref, gv_lst, gv_tup, gv_dct, gv_non, startE, List.map, List.set_cons_zero, List.set_cons_succ, List.replicate, List.cons_append, List.nil_append, List.getElem?_cons_zero, List.getElem?_cons_succ, truth_bl, Bool.not_true, Bool.not_false, fin, P.put, lim, List.length_nil, List.length_cons, Nat.reduceAdd, Nat.reduceSub, Nat.reduceLeDiff, if_true, Rf.then, Rf.res, noexc, setAll, isn_non, isD_non, cop_lt, cop_le, cop_gt, cop_ge, eq_int, ne_int, bop_add, bop_sub, bound, hx, hc]
  | false => rw [e] at hc; simp only [wipe, Ss.ev, S.ev, E.ev, Es.ev, Eo.ev, It.ev, Tg.as, Tgs.as, arrange, callM, Rs.bind, Rs.at, rsO, Option.bind, Option.map, getV_z, getV_s, gv_int, gv_bl, gv_str, gv_ref, gv_lst, gv_tup, gv_dct, gv_non, startE, List.map, List.set_cons_zero, List.set_cons_succ, List.replicate, List.cons_append, List.nil_append, List.getElem?_cons_zero, List.getElem?_cons_succ, truth_bl, Bool.not_true, Bool.not_false, fin, P.put, lim, List.length_nil, List.length_cons, Nat.reduceAdd, Nat.reduceSub, Nat.reduceLeDiff, if_true, Rf.then, Rf.res, noexc, setAll, isn_non, isD_non, cop_lt, cop_le, cop_gt, cop_ge, eq_int, ne_int, bop_add, bop_sub, bound, hx, hc]; rfl
theorem isVec_len {k : Bool} {v : List D} (hv : ∀ d ∈ v, isNum d = true) : isVec (v.length : Nat) (sq k v) = true := isVec_sq k ⟨rfl, hv⟩
theorem bfn_list_sq (h : Lh) (k : Bool) (v : List D) : bfn h .list [sq k v] = some (.l v) := by cases k <;> rfl
theorem item_vec {h : Lh} (k : Bool) {v : List D} {i : Nat} (hi : i < v.length) (hl : v.length ≤ 1000) : item h (sq k v) (.int (i : Nat)) = some v[i] := item_sq k hi (by omega)
theorem zip_range {a b : List D} {n : Nat} (ha : a.length = n) (hb : b.length = n) : ((List.range n).map fun j => addD ((a[j]?).getD .non) ((b[j]?).getD .non)) = List.zipWith addD a b := by
  apply List.ext_getElem?
  intro i
  rw [List.getElem?_map, List.getElem?_zipWith]
  by_cases h : i < n
  · have e1 : a[i]? = some (a[i]'(by omega)) := List.getElem?_eq_getElem _
    have e2 : b[i]? = some (b[i]'(by omega)) := List.getElem?_eq_getElem _
    rw [List.getElem?_range h, e1, e2]
    show some (addD ((a[i]?).getD .non) ((b[i]?).getD .non)) = some (addD _ _)
    rw [e1, e2]
    rfl
  · rw [List.getElem?_eq_none (show (List.range n).length ≤ i by simp; omega), List.getElem?_eq_none (show a.length ≤ i by omega)]
    rfl
theorem lsum_ev {cx : Cx} {S : Env} {V R x y z : D} {j : Int} {h : Lh} (g1 : getV S 1 = some V) (g2 : getV S 2 = some R) (g3 : getV S 3 = some (.int j)) (i1 : item h R (.int j) = some x) (i2 : item h V (.int j) = some y) (c : callPure cx.call 32 [x, y] h = .ok z h) :
    (E.call .pure 32 (.cons (.ix (.var 2) (.var 3)) (.cons (.ix (.var 1) (.var 3)) .nil)) [0, 1]).ev cx S h = .ok z h := by
  simp only [E.ev, Es.ev, arrange, callM, Rs.bind, rsO, g1, g2, g3, i1, i2, Option.bind, Option.map, List.getElem?_cons_zero, List.getElem?_cons_succ, c]
theorem r_lapplied (n : Nat) {k : Bool} {m : List (List D)} {w : Nat} (r : Rect m w) {vs : List D} (hv : ∀ d ∈ vs, isNum d = true) (lv : vs.length = w) (h : Lh) : run prog (n + 2) i__law_applied [mat k m, .lst vs] h = .ok (.lst (appl m vs)) h := by
  rw [run_env (fd := f__law_applied) (env := [some (mat k m), some (.lst vs), none, none]) rfl rfl rfl]
  have hx : nx (mat k m) = true := nx_sq k _
  have l2 := r.l2
  have w2 := r.w2
  have v0 : getV [some (mat k m), some (.lst vs), none, none] 0 = some (mat k m) := getV_z (s := []) hx
  have inner : ∀ ro ∈ m, (E.comp true [3] (.nm 3) (.r1 (.bi .len true (.cons (.var 1) .nil))) .no (.call .pure 32 (.cons (.ix (.var 2) (.var 3)) (.cons (.ix (.var 1) (.var 3)) .nil)) [0, 1])).ev ⟨run prog (n + 1), prog.loop, prog.sub⟩ [some (mat k m), some (.lst vs), some (sq k ro), none] h = .ok (.lst (List.zipWith addD ro vs)) h := fun ro hro => by
    have q := r.hr ro hro
    have := rng_map (cx := ⟨run prog (n + 1), prog.loop, prog.sub⟩) (env := [some (mat k m), some (.lst vs), some (sq k ro), none]) (fz := true) (own := [3]) (i := 3) (it := .r1 (.bi .len true (.cons (.var 1) .nil))) (e := .call .pure 32 (.cons (.ix (.var 2) (.var 3)) (.cons (.ix (.var 1) (.var 3)) .nil)) [0, 1]) (h := h) (w := w) (fun j => addD ((ro[j]?).getD .non) ((vs[j]?).getD .non)) (r1_ev (by omega) (by
        have : (E.bi .len true (.cons (.var 1) .nil)).ev ⟨run prog (n + 1), prog.loop, prog.sub⟩ [some (mat k m), some (.lst vs), some (sq k ro), none] h = .ok (.int (vs.length : Nat)) h := rfl
        rw [this, lv])) (by omega) (fun j hj => by
        have g1 : getV ((wipe [some (mat k m), some (.lst vs), some (sq k ro), none] [3]).set 3 (some (.int j))) 1 = some (.lst vs) := rfl
        have g2 : getV ((wipe [some (mat k m), some (.lst vs), some (sq k ro), none] [3]).set 3 (some (.int j))) 2 = some (sq k ro) := getV_z (s := []) (nx_sq k _)
        have g3 : getV ((wipe [some (mat k m), some (.lst vs), some (sq k ro), none] [3]).set 3 (some (.int j))) 3 = some (.int j) := rfl
        have i1 : item h (sq k ro) (.int j) = some (ro[j]'(by omega)) := item_vec k (by omega) (by omega)
        have i2 : item h (.lst vs) (.int j) = some (vs[j]'(by omega)) := item_vec false (v := vs) (by omega) (by omega)
        have c := c_lsum n (q.2 (ro[j]'(by omega)) (List.getElem_mem _)) (hv (vs[j]'(by omega)) (List.getElem_mem _)) h
        have e1 : ro[j]? = some (ro[j]'(by omega)) := List.getElem?_eq_getElem _
        have e2 : vs[j]? = some (vs[j]'(by omega)) := List.getElem?_eq_getElem _
        rw [e1, e2]
        exact lsum_ev g1 g2 g3 i1 i2 c)
    rw [this, zip_range q.1 lv]
    rfl
  have comp : (E.comp true [2] (.nm 2) (.ex (.var 0)) .no (.call .pure 33 (.cons (.comp true [3] (.nm 3) (.r1 (.bi .len true (.cons (.var 1) .nil))) .no (.call .pure 32 (.cons (.ix (.var 2) (.var 3)) (.cons (.ix (.var 1) (.var 3)) .nil)) [0, 1])) .nil) [0])).ev ⟨run prog (n + 1), prog.loop, prog.sub⟩ [some (mat k m), some (.lst vs), none, none] h = .ok (.lst (appl m vs)) h := by
    rw [comp_ev (src := .seq (mat k m)) (ds := m.map (sq k)) (fun d => [dot (row d) vs]) (by simp only [It.ev, E.ev, rsO, v0, Rs.bind]) (mat_items k m) (by rw [List.length_map]; unfold lim; omega) fun x hx' acc => step_map acc ?_, map_of, map_map_sq k m fun r => dot r vs]
    · rfl
    · intro r _; rw [row_sq]
    · obtain ⟨ro, hro, rfl⟩ := List.mem_map.mp hx'
      have i := inner ro hro
      rw [row_sq]
      show (E.call .pure 33 (.cons (.comp true [3] (.nm 3) (.r1 (.bi .len true (.cons (.var 1) .nil))) .no (.call .pure 32 (.cons (.ix (.var 2) (.var 3)) (.cons (.ix (.var 1) (.var 3)) .nil)) [0, 1])) .nil) [0]).ev _ [some (mat k m), some (.lst vs), some (sq k ro), none] h = _
      generalize E.comp true [3] (.nm 3) (.r1 (.bi .len true (.cons (.var 1) .nil))) .no (.call .pure 32 (.cons (.ix (.var 2) (.var 3)) (.cons (.ix (.var 1) (.var 3)) .nil)) [0, 1]) = C at i ⊢
      have g := c_most n (zipWith_num ro vs) (by rw [List.length_zipWith]; omega) h
      simp only [E.ev, Es.ev, arrange, callM, Rs.bind, i, Option.bind, Option.map, List.getElem?_cons_zero, g]
      rfl
  show (b__law_applied.ev _ _ _).res = _
  simp only [b__law_applied]
  generalize E.comp true [2] (.nm 2) (.ex (.var 0)) .no (.call .pure 33 (.cons (.comp true [3] (.nm 3) (.r1 (.bi .len true (.cons (.var 1) .nil))) .no (.call .pure 32 (.cons (.ix (.var 2) (.var 3)) (.cons (.ix (.var 1) (.var 3)) .nil)) [0, 1])) .nil) [0]) = C at comp ⊢
  simp only [wipe, Ss.ev, S.ev, E.ev, Es.ev, Eo.ev, It.ev, Tg.as, Tgs.as, arrange, callM, Rs.bind, Rs.at, rsO, Option.bind, Option.map, getV_z, getV_s, gv_int, gv_bl, gv_str, gv_ref, gv_lst, gv_tup, gv_dct, gv_non, startE, List.map, List.set_cons_zero, List.set_cons_succ, List.replicate, List.cons_append, List.nil_append, List.getElem?_cons_zero, List.getElem?_cons_succ, truth_bl, Bool.not_true, Bool.not_false, fin, P.put, lim, List.length_nil, List.length_cons, Nat.reduceAdd, Nat.reduceSub, Nat.reduceLeDiff, if_true, Rf.then, Rf.res, noexc, setAll, isn_non, isD_non, cop_lt, cop_le, cop_gt, cop_ge, eq_int, ne_int, bop_add, bop_sub, bound, comp]
theorem c_lapplied (n : Nat) {k : Bool} {m : List (List D)} {w : Nat} (r : Rect m w) {vs : List D} (hv : ∀ d ∈ vs, isNum d = true) (lv : vs.length = w) (h : Lh) : callPure (run prog (n + 2)) 34 [mat k m, .lst vs] h = .ok (.lst (appl m vs)) h :=
  pure_ok (n2 (mat_nref r) (sq_nref false hv)) (r_lapplied n r hv lv []) (nums_nref (appl_num _ _))
theorem r_lvector (n : Nat) {ds : List D} {N : Int} (hb : BoxAt N ds) (hN : N + 100 < 999999999) {c : Nat} {w : Int} (hc : c ≤ 20) (hw : 1 ≤ w) (ho : okDiv (2 * w + 1) = true) (ho2 : okMul 2 w = true) :
    ∃ (vs : List D) (ds' : List D), vs.length = c ∧ (∀ x ∈ vs, isNum x = true) ∧ BoxAt (N + 40) ds' ∧ run prog (n + 2) i__law_vector [.ref 0, .int c, .int w] [.lst ds] = .ok (.lst vs) [.lst ds'] := by
  obtain ⟨vs, h', l, hV, ⟨ds', rfl, hb'⟩, e⟩ := comp_draws (cx := ⟨run prog (n + 1), prog.loop, prog.sub⟩) (env := [some (.ref 0), some (.int c), some (.int w), none]) (own := [3]) (t := 3) (it := .r1 (.var 1)) (e := .ite (.cmp .eq (.call .box 30 (.cons (.var 0) (.cons (.cst (.int 5)) .nil)) [0, 1]) (.cst (.int 0))) (.cst .non) (.bin .sub true (.call .box 30 (.cons (.var 0) (.cons (.bin .add true (.bin .mul true (.cst (.int 2)) (.var 2)) (.cst (.int 1))) .nil)) [0, 1]) (.var 2))) (h := [.lst ds]) (src := .rng 0 1 c) (ds := iotaD c)
    (fun j h => ∃ ds', h = [.lst ds'] ∧ BoxAt (N + 2 * j) ds') (fun _ v => isNum v = true) (r1_ev (by omega) rfl) (fun h => by rw [iota_len]; rfl) (fun h i hi => rng_at (by rw [iota_len] at hi; exact hi)) (by rw [iota_len]; unfold lim; omega) ⟨ds, rfl, by simpa using hb⟩ (by
      rintro i d h hd ⟨ds1, rfl, hb1⟩
      obtain ⟨hi, rfl⟩ := iota_get hd
      obtain ⟨d1, ds2, a1, a2, hb2, e1⟩ := c_take (n := n) (H := []) hb1 (by omega) (many := 5) (by decide) (by decide)
      obtain ⟨d2, ds3, a3, a4, hb3, e2⟩ := c_take (n := n) (H := []) hb2 (by omega) (many := 2 * w + 1) (by omega) ho
      by_cases z : d1 = 0
      · have e0 := eq_t [.lst ds2] d1 0 z
        exact ⟨.non, _, rfl, ⟨ds2, rfl, hb2.mono (by push_cast; omega)⟩, by simp only [wipe, Ss.ev, S.ev, E.ev, Es.ev, Eo.ev, It.ev, Tg.as, Tgs.as, arrange, callM, Rs.bind, Rs.at, rsO, Option.bind, Option.map, getV_z, getV_s, gv_int, gv_bl, gv_str, gv_ref, gv_lst, gv_tup, gv_dct, gv_non, startE, List.map, List.set_cons_zero, List.set_cons_succ, List.replicate, List.cons_append, List.nil_append, List.getElem?_cons_zero, List.getElem?_cons_succ, truth_bl, Bool.not_true, Bool.not_false, fin, P.put, lim, List.length_nil, List.length_cons, Nat.reduceAdd, Nat.reduceSub, Nat.reduceLeDiff, if_true, Rf.then, Rf.res, noexc, setAll, isn_non, isD_non, cop_lt, cop_le, cop_gt, cop_ge, bop_add, bop_sub, bound, e1, e0]⟩
      · have e0 := eq_f [.lst ds2] d1 0 z
        have m1 : bop [.lst ds2] .mul (.int 2) (.int w) = some (.v (.int (2 * w))) := bop_mul _ _ _ ho2
        exact ⟨.int (d2 - w), _, rfl, ⟨ds3, rfl, hb3.mono (by push_cast; omega)⟩, by simp only [wipe, Ss.ev, S.ev, E.ev, Es.ev, Eo.ev, It.ev, Tg.as, Tgs.as, arrange, callM, Rs.bind, Rs.at, rsO, Option.bind, Option.map, getV_z, getV_s, gv_int, gv_bl, gv_str, gv_ref, gv_lst, gv_tup, gv_dct, gv_non, startE, List.map, List.set_cons_zero, List.set_cons_succ, List.replicate, List.cons_append, List.nil_append, List.getElem?_cons_zero, List.getElem?_cons_succ, truth_bl, Bool.not_true, Bool.not_false, fin, P.put, lim, List.length_nil, List.length_cons, Nat.reduceAdd, Nat.reduceSub, Nat.reduceLeDiff, if_true, Rf.then, Rf.res, noexc, setAll, isn_non, isD_non, cop_lt, cop_le, cop_gt, cop_ge, bop_add, bop_sub, bound, e1, e0, m1, e2]⟩)
  rw [iota_len] at l hb'
  refine ⟨vs, ds', l, fun x hx => ?_, hb'.mono (by omega), ?_⟩
  · obtain ⟨i, hi, rfl⟩ := List.getElem_of_mem hx
    exact hV i (.int i) _ (by unfold iotaD; rw [List.getElem?_map, List.getElem?_range (by omega)]; rfl) (List.getElem?_eq_getElem hi)
  · rw [run_env (fd := f__law_vector) (env := [some (.ref 0), some (.int c), some (.int w), none]) rfl rfl rfl]
    show (b__law_vector.ev _ _ _).res = _
    simp only [b__law_vector]
    generalize E.comp true [3] (.nm 3) (.r1 (.var 1)) .no (.ite (.cmp .eq (.call .box 30 (.cons (.var 0) (.cons (.cst (.int 5)) .nil)) [0, 1]) (.cst (.int 0))) (.cst .non) (.bin .sub true (.call .box 30 (.cons (.var 0) (.cons (.bin .add true (.bin .mul true (.cst (.int 2)) (.var 2)) (.cst (.int 1))) .nil)) [0, 1]) (.var 2))) = C at e ⊢
    simp only [wipe, Ss.ev, S.ev, E.ev, Es.ev, Eo.ev, It.ev, Tg.as, Tgs.as, arrange, callM, Rs.bind, Rs.at, rsO, Option.bind, Option.map, getV_z, getV_s, gv_int, gv_bl, gv_str, gv_ref, gv_lst, gv_tup, gv_dct, gv_non, startE, List.map, List.set_cons_zero, List.set_cons_succ, List.replicate, List.cons_append, List.nil_append, List.getElem?_cons_zero, List.getElem?_cons_succ, truth_bl, Bool.not_true, Bool.not_false, fin, P.put, lim, List.length_nil, List.length_cons, Nat.reduceAdd, Nat.reduceSub, Nat.reduceLeDiff, if_true, Rf.then, Rf.res, noexc, setAll, isn_non, isD_non, cop_lt, cop_le, cop_gt, cop_ge, eq_int, ne_int, bop_add, bop_sub, bound, e]
theorem c_lvector (n : Nat) {ds : List D} {N : Int} (hb : BoxAt N ds) (hN : N + 100 < 999999999) {c : Nat} {w : Int} (hc : c ≤ 20) (hw : 1 ≤ w) (ho : okDiv (2 * w + 1) = true) (ho2 : okMul 2 w = true) (H : Lh) :
    ∃ (vs : List D) (ds' : List D), vs.length = c ∧ (∀ x ∈ vs, isNum x = true) ∧ BoxAt (N + 40) ds' ∧ callBox (run prog (n + 2)) 36 [.ref 0, .int c, .int w] (.lst ds :: H) = .ok (.lst vs) (.lst ds' :: H) := by
  obtain ⟨vs, ds', a, b, c', e⟩ := r_lvector n hb hN hc hw ho ho2
  exact ⟨vs, ds', a, b, c', box_call (h := .lst ds :: H) (k := 0) rfl rfl hb.nref e c'.nref (thaw_nref (nums_nref b))⟩
def noV (c : Nat) : List D := [.non, .lst (repl [.int 1] (c + 1)), .lst (repl [.int 1] (c - 1)), .lst (repl [.bl true] c), .lst (repl [.str "1"] c), .str (Txt.mul "1" c), .dct [] [], .int 5, .lst (repl [.lst [.int 1]] c), .lst (repl [.tup [.int 1]] c), .dct [.inr "a"] [.int 1]]
theorem mul1_sm : ∀ c : Nat, c ≤ 20 → (D.str (Txt.mul "1" (c : Int))).sm = true := by
  have : ∀ c : Fin 21, (D.str (Txt.mul "1" ((c.val : Nat) : Int))).sm = true := by decide +kernel
  exact fun c hc => this ⟨c, by omega⟩
theorem rep_bad {x : D} (hx : isNum x = false) {c : Nat} (h1 : 1 ≤ c) (m : Int) : isVec m (.lst (repl [x] c)) = false := by
  show ((repl [x] c).all isNum && _) = false
  obtain ⟨k, rfl⟩ : ∃ k, c = k + 1 := ⟨c - 1, by omega⟩
  show (isNum x && (repl [x] k).all isNum && _) = false
  rw [hx]; rfl
theorem rep_len {x : D} {c m : Nat} (h : c ≠ m) : isVec (m : Nat) (.lst (repl [x] c)) = false := by
  show ((repl [x] c).all isNum && decide (((repl [x] c).length : Int) = (m : Nat))) = false
  rw [repl_len, decide_eq_false (by omega), Bool.and_false]
theorem rep_dep (x : D) : ∀ c, deps (repl [x] c) ≤ x.dep
  | 0 => Nat.zero_le _
  | c + 1 => by
    show max x.dep (deps (repl [x] c)) ≤ _
    have := rep_dep x c
    omega
theorem noV_ok {c : Nat} (h1 : 1 ≤ c) (h2 : c ≤ 20) : ∀ d ∈ noV c, d.sm = true ∧ d.dep ≤ 3 ∧ isVec (c : Nat) d = false := by
  have rs : ∀ (x : D) (k : Nat), k ≤ 1000 → x.sm = true → (D.lst (repl [x] k)).sm = true := fun x k hk hx => lst_sm (by rw [repl_len]; omega) (repl_sms (sms_cons hx rfl) k)
  have rd : ∀ (x : D) (k : Nat), x.dep ≤ 2 → (D.lst (repl [x] k)).dep ≤ 3 := fun x k hx => by
    have := rep_dep x k
    show deps (repl [x] k) + 1 ≤ 3
    omega
  intro d hd
  rcases List.mem_cons.mp hd with rfl | hd
  · exact ⟨rfl, by decide, rfl⟩
  rcases List.mem_cons.mp hd with rfl | hd
  · exact ⟨rs _ _ (by omega) rfl, rd _ _ (by decide), rep_len (by omega)⟩
  rcases List.mem_cons.mp hd with rfl | hd
  · exact ⟨rs _ _ (by omega) rfl, rd _ _ (by decide), rep_len (by omega)⟩
  rcases List.mem_cons.mp hd with rfl | hd
  · exact ⟨rs _ _ (by omega) rfl, rd _ _ (by decide), rep_bad rfl h1 _⟩
  rcases List.mem_cons.mp hd with rfl | hd
  · exact ⟨rs _ _ (by omega) str1_sm, rd _ _ (by decide), rep_bad rfl h1 _⟩
  rcases List.mem_cons.mp hd with rfl | hd
  · exact ⟨mul1_sm c h2, Nat.zero_le _, rfl⟩
  rcases List.mem_cons.mp hd with rfl | hd
  · exact ⟨rfl, by decide, rfl⟩
  rcases List.mem_cons.mp hd with rfl | hd
  · exact ⟨rfl, by decide, rfl⟩
  rcases List.mem_cons.mp hd with rfl | hd
  · exact ⟨rs _ _ (by omega) rfl, rd _ _ (by decide), rep_bad rfl h1 _⟩
  rcases List.mem_cons.mp hd with rfl | hd
  · exact ⟨rs _ _ (by omega) rfl, rd _ _ (by decide), rep_bad rfl h1 _⟩
  · rw [List.mem_singleton.mp hd]
    exact ⟨rfl, by decide, rfl⟩
theorem len1 : (Str.ofString "1").length ≤ 16 := by decide +kernel
def noVE : E := match b__law_no_vector with
  | .cons (.asg _ e) _ => e
  | _ => .cst .non
theorem noV_ev {cx : Cx} {s : Env} {h : Lh} {x0 x1 x2 : Int} {L1 L2 L3 L4 L5 L6 : List D} {T : Str} (g : getV s 1 = some (.int x0)) (ad : bop h .add (.int x0) (.int 1) = some (.v (.int x1))) (sb : bop h .sub (.int x0) (.int 1) = some (.v (.int x2)))
    (m1 : bop h .mul (.lst [.int 1]) (.int x1) = some (.l L1)) (m2 : bop h .mul (.lst [.int 1]) (.int x2) = some (.l L2)) (m3 : bop h .mul (.lst [.bl true]) (.int x0) = some (.l L3)) (m4 : bop h .mul (.lst [.str "1"]) (.int x0) = some (.l L4)) (m5 : bop h .mul (.str "1") (.int x0) = some (.v (.str T)))
    (m6 : bop h .mul (.lst [.lst [.int 1]]) (.int x0) = some (.l L5)) (m7 : bop h .mul (.lst [.tup [.int 1]]) (.int x0) = some (.l L6)) :
    noVE.ev cx s h = .ok (.lst [.non, .lst L1, .lst L2, .lst L3, .lst L4, .str T, .dct [] [], .int 5, .lst L5, .lst L6, .dct [.inr "a"] [.int 1]]) h := by
  simp only [noVE, b__law_no_vector, E.ev, Es.ev, Rs.bind, rsO, g, fin, P.put, lim, List.length_nil, List.length_cons, Nat.reduceAdd, Nat.reduceLeDiff, if_true, ad, sb, m1, m2, m3, m4, m5, m6, m7]
theorem noV_join {cx : Cx} {x0 d1 : Int} {BL ds ds1 : List D} {d : D} (ev : noVE.ev cx [some (.ref 0), some (.int x0), none] [.lst ds] = .ok (.lst BL) [.lst ds]) (ln : bfn [.lst ds] .len [.lst BL] = some (.v (.int 11))) (e1 : callBox cx.call 30 [.ref 0, .int 11] [.lst ds] = .ok (.int d1) [.lst ds1]) (it : item [.lst ds1] (.lst BL) (.int d1) = some d) :
    (b__law_no_vector.ev cx [some (.ref 0), some (.int x0), none] [.lst ds]).res = .ok d [.lst ds1] := by
  rw [show b__law_no_vector = .cons (.asg (.nm 2) noVE) (.cons (.ret (.ix (.var 2) (.call .box 30 (.cons (.var 0) (.cons (.bi .len true (.cons (.var 2) .nil)) .nil)) [0, 1]))) .nil) from rfl]
  generalize noVE = VE at ev ⊢
  simp only [wipe, Ss.ev, S.ev, E.ev, Es.ev, Eo.ev, It.ev, Tg.as, Tgs.as, arrange, callM, Rs.bind, Rs.at, rsO, Option.bind, Option.map, getV_z, getV_s, gv_int, gv_bl, gv_str, gv_ref, gv_lst, gv_tup, gv_dct, gv_non, startE, List.map, List.set_cons_zero, List.set_cons_succ, List.replicate, List.cons_append, List.nil_append, List.getElem?_cons_zero, List.getElem?_cons_succ, truth_bl, Bool.not_true, Bool.not_false, fin, P.put, lim, List.length_nil, List.length_cons, Nat.reduceAdd, Nat.reduceSub, Nat.reduceLeDiff, if_true, Rf.then, Rf.res, noexc, setAll, isn_non, isD_non, cop_lt, cop_le, cop_gt, cop_ge, eq_int, ne_int, bop_add, bop_sub, bound, ev, ln, e1, it]
theorem r_no_vector (n : Nat) {ds : List D} {N : Int} (hb : BoxAt N ds) (hN : N < 999999999) {c : Nat} (h1 : 1 ≤ c) (h2 : c ≤ 20) : ∃ (d : D) (ds' : List D), d.sm = true ∧ d.dep ≤ 3 ∧ isVec (c : Nat) d = false ∧ BoxAt (N + 1) ds' ∧ run prog (n + 2) i__law_no_vector [.ref 0, .int c] [.lst ds] = .ok d [.lst ds'] := by
  rw [run_env (fd := f__law_no_vector) (env := [some (.ref 0), some (.int c), none]) rfl rfl rfl]
  obtain ⟨d1, ds1, a1, a2, hb1, e1⟩ := c_take (n := n) (H := []) hb hN (many := 11) (by decide) (by decide)
  obtain ⟨d, hd, it⟩ := item_lst (h := [.lst ds1]) (ds := noV c) a1 (by exact a2) (by show 11 ≤ 100000; decide)
  obtain ⟨o1, o2, o3⟩ := noV_ok h1 h2 d hd
  refine ⟨d, ds1, o1, o2, o3, hb1, ?_⟩
  have cp : ((c : Int) + 1) = ((c + 1 : Nat) : Int) := by push_cast; rfl
  have cm : ((c : Int) - 1) = ((c - 1 : Nat) : Int) := by omega
  have ad : bop [.lst ds] .add (.int c) (.int 1) = some (.v (.int ((c + 1 : Nat) : Int))) := by rw [← cp]; rfl
  have sb : bop [.lst ds] .sub (.int c) (.int 1) = some (.v (.int ((c - 1 : Nat) : Int))) := by rw [← cm]; rfl
  have m1 : bop [.lst ds] .mul (.lst [.int 1]) (.int ((c + 1 : Nat) : Int)) = some (.l (repl [.int 1] (c + 1))) := bop_rep (k := c + 1) _ (by simp) (by omega)
  have m2 : bop [.lst ds] .mul (.lst [.int 1]) (.int ((c - 1 : Nat) : Int)) = some (.l (repl [.int 1] (c - 1))) := bop_rep (k := c - 1) _ (by simp) (by omega)
  have m3 : bop [.lst ds] .mul (.lst [.bl true]) (.int c) = some (.l (repl [.bl true] c)) := bop_rep (k := c) _ (by simp) (by omega)
  have m4 : bop [.lst ds] .mul (.lst [.str "1"]) (.int c) = some (.l (repl [.str "1"] c)) := bop_rep (k := c) _ (by simp) (by omega)
  have m5 : bop [.lst ds] .mul (.str "1") (.int c) = some (.v (.str (Txt.mul "1" c))) := by
    show (if (Str.ofString "1").length ≤ 16 ∧ 0 ≤ (c : Int) ∧ (c : Int) ≤ 1000 then some (P.v (.str (Txt.mul "1" c))) else none) = _
    rw [if_pos ⟨len1, by omega, by omega⟩]
  have m6 : bop [.lst ds] .mul (.lst [.lst [.int 1]]) (.int c) = some (.l (repl [.lst [.int 1]] c)) := bop_rep (k := c) _ (by simp) (by omega)
  have m7 : bop [.lst ds] .mul (.lst [.tup [.int 1]]) (.int c) = some (.l (repl [.tup [.int 1]] c)) := bop_rep (k := c) _ (by simp) (by omega)
  have ln : bfn [.lst ds] .len [.lst (noV c)] = some (.v (.int 11)) := rfl
  have ev := noV_ev (cx := ⟨run prog (n + 1), prog.loop, prog.sub⟩) (s := [some (.ref 0), some (.int c), none]) rfl ad sb m1 m2 m3 m4 m5 m6 m7
  change noVE.ev _ _ _ = .ok (.lst (noV c)) _ at ev
  exact noV_join ev ln e1 it
theorem c_no_vector (n : Nat) {ds : List D} {N : Int} (hb : BoxAt N ds) (hN : N < 999999999) {c : Nat} (h1 : 1 ≤ c) (h2 : c ≤ 20) (H : Lh) : ∃ (d : D) (ds' : List D), d.sm = true ∧ d.dep ≤ 3 ∧ isVec (c : Nat) d = false ∧ BoxAt (N + 1) ds' ∧ callBox (run prog (n + 2)) 41 [.ref 0, .int c] (.lst ds :: H) = .ok d (.lst ds' :: H) := by
  obtain ⟨d, ds', o1, o2, o3, hb', e⟩ := r_no_vector n hb hN h1 h2
  exact ⟨d, ds', o1, o2, o3, hb', box_call (h := .lst ds :: H) (k := 0) rfl rfl hb.nref e hb'.nref (thaw_nref (D.sm_nref d o1))⟩
end K02
end TB

end

section
set_option Elab.async false
set_option linter.all false
set_option maxRecDepth 100000
set_option maxHeartbeats 1000000
namespace TB
namespace K02
open PySem
/-! ### the doors -/
theorem c_is_mat (n : Nat) {d : D} (hs : d.sm = true) (h : Lh) : callPure (run prog (n + 5)) 6 [d] h = .ok (.bl (isMat d)) h := pure_ok (sm1 hs) (r_is_matrix_value n hs []) rfl
theorem c_sq_ok (n : Nat) {k : Bool} {A : List (List D)} {s : Nat} (r : Rect A s) (la : A.length = s) (h : Lh) : callPure (run prog (n + 7)) 11 [mat k A] h = .ok .non h := by
  refine pure_ok (h1 := []) (sm1 (r.sm k)) ?_ rfl
  have l1 := r.l1
  have c : callPure (run prog (n + 6)) 7 [mat k A] [] = .ok (.bl true) [] := by
    refine pure_ok (h1 := []) (sm1 (r.sm k)) ?_ rfl
    rw [run_env (n := n + 5) (fd := f_is_square_value) (env := [some (mat k A)]) (by rfl) rfl rfl]
    have hM : nx (mat k A) = true := nx_sq k _
    have c := c_is_mat n (r.sm k) []
    rw [isMat_mat k r] at c
    have lm := len_mat [] k A
    have i0 : item [] (mat k A) (.int 0) = some (sq k A[0]) := item_mat k r (j := 0) l1
    have l0 := len_sq [] k A[0]
    rw [(r.hr _ (List.getElem_mem l1)).1, ← la] at l0
    have e := eq_t [] ((A.length : Nat) : Int) ((A.length : Nat) : Int) rfl
    generalize ((A.length : Nat) : Int) = L at lm l0 e
    show (b_is_square_value.ev _ _ _).res = _
    simp only [b_is_square_value, wipe, Ss.ev, S.ev, E.ev, Es.ev, Eo.ev, It.ev, Tg.as, Tgs.as, arrange, callM, Rs.bind, Rs.at, rsO, Option.bind, Option.map, getV_z, getV_s, gv_int, gv_bl, gv_str, gv_ref, gv_lst, gv_tup, gv_dct, gv_non, startE, List.map, List.set_cons_zero, List.set_cons_succ, List.replicate, List.cons_append, List.nil_append, List.getElem?_cons_zero, List.getElem?_cons_succ, truth_bl, Bool.not_true, Bool.not_false, fin, P.put, lim, List.length_nil, List.length_cons, Nat.reduceAdd, Nat.reduceSub, Nat.reduceLeDiff, if_true, Rf.then, Rf.res, noexc, setAll, isn_non, isD_non, cop_lt, cop_le, cop_gt, cop_ge, bop_add, bop_sub, bound, hM, c, lm, i0, l0, e]
  rw [run_env (n := n + 6) (fd := f_check_square) (env := [some (mat k A)]) (by rfl) rfl rfl]
  have hM : nx (mat k A) = true := nx_sq k _
  show (b_check_square.ev _ _ _).res = _
  simp only [b_check_square, wipe, Ss.ev, S.ev, E.ev, Es.ev, Eo.ev, It.ev, Tg.as, Tgs.as, arrange, callM, Rs.bind, Rs.at, rsO, Option.bind, Option.map, getV_z, getV_s, gv_int, gv_bl, gv_str, gv_ref, gv_lst, gv_tup, gv_dct, gv_non, startE, List.map, List.set_cons_zero, List.set_cons_succ, List.replicate, List.cons_append, List.nil_append, List.getElem?_cons_zero, List.getElem?_cons_succ, truth_bl, Bool.not_true, Bool.not_false, fin, P.put, lim, List.length_nil, List.length_cons, Nat.reduceAdd, Nat.reduceSub, Nat.reduceLeDiff, if_true, Rf.then, Rf.res, noexc, setAll, isn_non, isD_non, cop_lt, cop_le, cop_gt, cop_ge, eq_int, ne_int, bop_add, bop_sub, bound, hM, c]
theorem sq_exc (n : Nat) {d : D} (hs : d.sm = true) (c : callPure (run prog (n + 6)) 7 [d] [] = .ok (.bl false) []) (h : Lh) : callPure (run prog (n + 7)) 11 [d] h = .exc 2 [d] h := by
  refine pure_exc (h1 := []) (sm1 hs) ?_ (sm1 hs)
  rw [run_env (n := n + 6) (fd := f_check_square) (env := [some d]) (by rfl) rfl rfl]
  have hM := sm_nx hs
  show (b_check_square.ev _ _ _).res = _
  simp only [b_check_square, wipe, Ss.ev, S.ev, E.ev, Es.ev, Eo.ev, It.ev, Tg.as, Tgs.as, arrange, callM, Rs.bind, Rs.at, rsO, Option.bind, Option.map, getV_z, getV_s, gv_int, gv_bl, gv_str, gv_ref, gv_lst, gv_tup, gv_dct, gv_non, startE, List.map, List.set_cons_zero, List.set_cons_succ, List.replicate, List.cons_append, List.nil_append, List.getElem?_cons_zero, List.getElem?_cons_succ, truth_bl, Bool.not_true, Bool.not_false, fin, P.put, lim, List.length_nil, List.length_cons, Nat.reduceAdd, Nat.reduceSub, Nat.reduceLeDiff, if_true, Rf.then, Rf.res, noexc, setAll, isn_non, isD_non, cop_lt, cop_le, cop_gt, cop_ge, eq_int, ne_int, bop_add, bop_sub, bound, hM, c]
theorem c_sq_no (n : Nat) {d : D} (hs : d.sm = true) (hb : isMat d = false) (h : Lh) : callPure (run prog (n + 7)) 11 [d] h = .exc 2 [d] h := by
  refine sq_exc n hs ?_ h
  refine pure_ok (h1 := []) (sm1 hs) ?_ rfl
  rw [run_env (n := n + 5) (fd := f_is_square_value) (env := [some d]) (by rfl) rfl rfl]
  have hM := sm_nx hs
  have c := c_is_mat n hs []
  rw [hb] at c
  show (b_is_square_value.ev _ _ _).res = _
  simp only [b_is_square_value, wipe, Ss.ev, S.ev, E.ev, Es.ev, Eo.ev, It.ev, Tg.as, Tgs.as, arrange, callM, Rs.bind, Rs.at, rsO, Option.bind, Option.map, getV_z, getV_s, gv_int, gv_bl, gv_str, gv_ref, gv_lst, gv_tup, gv_dct, gv_non, startE, List.map, List.set_cons_zero, List.set_cons_succ, List.replicate, List.cons_append, List.nil_append, List.getElem?_cons_zero, List.getElem?_cons_succ, truth_bl, Bool.not_true, Bool.not_false, fin, P.put, lim, List.length_nil, List.length_cons, Nat.reduceAdd, Nat.reduceSub, Nat.reduceLeDiff, if_true, Rf.then, Rf.res, noexc, setAll, isn_non, isD_non, cop_lt, cop_le, cop_gt, cop_ge, eq_int, ne_int, bop_add, bop_sub, bound, hM, c]
def nsq : List D := [.lst [.lst [.int 1, .int 2]], .lst [.lst [.int 1], .lst [.int 2]], .lst [.lst [.int 1, .int 2, .int 3], .lst [.int 4, .int 5, .int 6]], .tup [.lst [.non, .int 0]]]
theorem nsq_ok : nsq.all (fun d => d.sm && decide (d.dep ≤ 4)) = true := by decide +kernel
theorem nsq_sq (n : Nat) : ∀ d ∈ nsq, callPure (run prog (n + 6)) 7 [d] [] = .ok (.bl false) [] := fun d hd => by
  simp only [nsq, List.mem_cons, List.not_mem_nil, or_false] at hd
  rcases hd with rfl | rfl | rfl | rfl <;> rfl
theorem c_sq_no4 (n : Nat) {d : D} (hd : d ∈ nsq) (h : Lh) : callPure (run prog (n + 7)) 11 [d] h = .exc 2 [d] h :=
  sq_exc n (sp2 (List.all_eq_true.mp nsq_ok d hd)).1 (nsq_sq n d hd) h
theorem c_vec_no (n : Nat) {d : D} (hs : d.sm = true) {m : Int} (hb : isVec m d = false) (h : Lh) : callPure (run prog (n + 5)) 12 [d, .int m] h = .exc 4 [d] h := pure_exc (nref_int _ _ hs) ((r_check_vector n hs m []).trans (by rw [hb]; rfl)) (sm1 hs)
theorem c_vec_ok (n : Nat) {d : D} (hs : d.sm = true) {m : Int} (hb : isVec m d = true) (h : Lh) : callPure (run prog (n + 5)) 12 [d, .int m] h = .ok .non h := pure_ok (nref_int _ _ hs) ((r_check_vector n hs m []).trans (by rw [hb]; rfl)) rfl
theorem c_num (n : Nat) {d : D} (hs : d.sm = true) (h : Lh) : callPure (run prog (n + 2)) 3 [d] h = .ok (.bl (isNum d)) h := pure_ok (sm1 hs) (r_is_number_value n hs []) rfl
def btw (d : D) : Bool := match d with
  | .int i => decide (0 ≤ i) && decide (i ≤ 200)
  | _ => false
theorem c_btw (n : Nat) {d : D} (hs : d.sm = true) (h : Lh) : callPure (run prog (n + 2)) 1 [d, .int 0, .int 200] h = .ok (.bl (btw d)) h := by
  refine pure_ok (h1 := []) (sms_nref _ (sms_cons hs (sms_cons rfl (sms_cons rfl rfl)))) ((r_is_between n hs 0 200 []).trans ?_) rfl
  cases d <;> first
    | rfl
    | cases hs
/-- the size of another matrix -/
theorem d_times (n : Nat) {k k' : Bool} {m l : List (List D)} {w w' : Nat} (r : Rect m w) (r' : Rect l w') (hw : l.length = w) (h : Lh) : run prog (n + 8) 23 [mat k m, mat k' l] h = .ok (gridR h (pr m l w')) (gridH h (pr m l w')) := by
  rw [run_env (n := n + 7) (fd := f_times) (env := [some (mat k m), some (mat k' l)]) (by rfl) rfl rfl]
  have l1 := r.l1
  have hM : nx (mat k m) = true := nx_sq k _
  have hL : nx (mat k' l) = true := nx_sq k' _
  have c1 := c_matrix_ok (n + 1) (k := k) r h
  have c2 := c_is_mat (n + 2) (r'.sm k') h
  rw [isMat_mat k' r'] at c2
  have lm := len_mat h k' l
  have i0 : item h (mat k m) (.int 0) = some (sq k m[0]) := item_mat k r (j := 0) l1
  have l0 := len_sq h k m[0]
  rw [(r.hr _ (List.getElem_mem l1)).1, ← hw] at l0
  have ne := ne_int h ((l.length : Nat) : Int) ((l.length : Nat) : Int)
  rw [decide_eq_true rfl] at ne
  generalize ((l.length : Nat) : Int) = L at lm l0 ne
  have p := r_product (n + 4) (k := k) r r' hw (MatV.tree h k')
  have p : run prog (n + 7) 19 [mat k m, mat k' l] h = _ := p
  show (b_times.ev _ _ _).res = _
  generalize gridR h (pr m l w') = G at p ⊢
  generalize gridH h (pr m l w') = H at p ⊢
  simp only [b_times, wipe, Ss.ev, S.ev, E.ev, Es.ev, Eo.ev, It.ev, Tg.as, Tgs.as, arrange, callM, Rs.bind, Rs.at, rsO, Option.bind, Option.map, getV_z, getV_s, gv_int, gv_bl, gv_str, gv_ref, gv_lst, gv_tup, gv_dct, gv_non, startE, List.map, List.set_cons_zero, List.set_cons_succ, List.replicate, List.cons_append, List.nil_append, List.getElem?_cons_zero, List.getElem?_cons_succ, truth_bl, Bool.not_true, Bool.not_false, fin, P.put, lim, List.length_nil, List.length_cons, Nat.reduceAdd, Nat.reduceSub, Nat.reduceLeDiff, if_true, Rf.then, Rf.res, noexc, setAll, isn_non, isD_non, cop_lt, cop_le, cop_gt, cop_ge, bop_add, bop_sub, bound, hM, hL, c1, c2, lm, i0, l0, ne, p]
theorem d_times_no (n : Nat) {k : Bool} {m : List (List D)} {w : Nat} (r : Rect m w) {d : D} (hs : d.sm = true) (hb : isMat d = false) (h : Lh) : run prog (n + 8) 23 [mat k m, d] h = .exc 2 [d] h := by
  rw [run_env (n := n + 7) (fd := f_times) (env := [some (mat k m), some d]) (by rfl) rfl rfl]
  have hM : nx (mat k m) = true := nx_sq k _
  have hL := sm_nx hs
  have c1 := c_matrix_ok (n + 1) (k := k) r h
  have c2 := c_is_mat (n + 2) hs h
  rw [hb] at c2
  show (b_times.ev _ _ _).res = _
  simp only [b_times, wipe, Ss.ev, S.ev, E.ev, Es.ev, Eo.ev, It.ev, Tg.as, Tgs.as, arrange, callM, Rs.bind, Rs.at, rsO, Option.bind, Option.map, getV_z, getV_s, gv_int, gv_bl, gv_str, gv_ref, gv_lst, gv_tup, gv_dct, gv_non, startE, List.map, List.set_cons_zero, List.set_cons_succ, List.replicate, List.cons_append, List.nil_append, List.getElem?_cons_zero, List.getElem?_cons_succ, truth_bl, Bool.not_true, Bool.not_false, fin, P.put, lim, List.length_nil, List.length_cons, Nat.reduceAdd, Nat.reduceSub, Nat.reduceLeDiff, if_true, Rf.then, Rf.res, noexc, setAll, isn_non, isD_non, cop_lt, cop_le, cop_gt, cop_ge, bop_add, bop_sub, bound, hM, hL, c1, c2]
theorem d_times_apart (n : Nat) {k k' : Bool} {m l : List (List D)} {w w' : Nat} (r : Rect m w) (r' : Rect l w') (hw : l.length ≠ w) (h : Lh) : run prog (n + 8) 23 [mat k m, mat k' l] h = .exc 2 [mat k' l] h := by
  rw [run_env (n := n + 7) (fd := f_times) (env := [some (mat k m), some (mat k' l)]) (by rfl) rfl rfl]
  have l1 := r.l1
  have hM : nx (mat k m) = true := nx_sq k _
  have hL : nx (mat k' l) = true := nx_sq k' _
  have c1 := c_matrix_ok (n + 1) (k := k) r h
  have c2 := c_is_mat (n + 2) (r'.sm k') h
  rw [isMat_mat k' r'] at c2
  have lm := len_mat h k' l
  have i0 : item h (mat k m) (.int 0) = some (sq k m[0]) := item_mat k r (j := 0) l1
  have l0 := len_sq h k m[0]
  rw [(r.hr _ (List.getElem_mem l1)).1] at l0
  have ne := ne_int h ((l.length : Nat) : Int) ((w : Nat) : Int)
  rw [decide_eq_false (by omega)] at ne
  generalize ((l.length : Nat) : Int) = L at lm ne
  generalize ((w : Nat) : Int) = W at l0 ne
  show (b_times.ev _ _ _).res = _
  simp only [b_times, wipe, Ss.ev, S.ev, E.ev, Es.ev, Eo.ev, It.ev, Tg.as, Tgs.as, arrange, callM, Rs.bind, Rs.at, rsO, Option.bind, Option.map, getV_z, getV_s, gv_int, gv_bl, gv_str, gv_ref, gv_lst, gv_tup, gv_dct, gv_non, startE, List.map, List.set_cons_zero, List.set_cons_succ, List.replicate, List.cons_append, List.nil_append, List.getElem?_cons_zero, List.getElem?_cons_succ, truth_bl, Bool.not_true, Bool.not_false, fin, P.put, lim, List.length_nil, List.length_cons, Nat.reduceAdd, Nat.reduceSub, Nat.reduceLeDiff, if_true, Rf.then, Rf.res, noexc, setAll, isn_non, isD_non, cop_lt, cop_le, cop_gt, cop_ge, bop_add, bop_sub, bound, hM, hL, c1, c2, lm, i0, l0, ne, Bool.not_false]
theorem d_applied (n : Nat) {k k' : Bool} {m : List (List D)} {w : Nat} (r : Rect m w) {vs : List D} (hv : ∀ d ∈ vs, isNum d = true) (lv : vs.length = w) (h : Lh) : run prog (n + 8) 24 [mat k m, sq k' vs] h = .ok (.ref h.length) (h ++ [.lst (appl m vs)]) := by
  rw [run_env (n := n + 7) (fd := f_applied) (env := [some (mat k m), some (sq k' vs)]) (by rfl) rfl rfl]
  have l1 := r.l1
  have w2 := r.w2
  have hM : nx (mat k m) = true := nx_sq k _
  have hL : nx (sq k' vs) = true := nx_sq k' _
  have c1 := c_matrix_ok (n + 1) (k := k) r h
  have i0 : item h (mat k m) (.int 0) = some (sq k m[0]) := item_mat k r (j := 0) l1
  have l0 := len_sq h k m[0]
  rw [(r.hr _ (List.getElem_mem l1)).1] at l0
  have iv := isVec_len (k := k') hv
  rw [lv] at iv
  have c2 := c_vec_ok (n + 2) (vec_sm k' hv (by omega)) iv h
  have p := r_applied_to (n + 4) (k := k) (k' := k') r hv lv h
  have p : run prog (n + 7) 18 [mat k m, sq k' vs] h = _ := p
  show (b_applied.ev _ _ _).res = _
  generalize ((w : Nat) : Int) = W at l0 c2
  simp only [b_applied, wipe, Ss.ev, S.ev, E.ev, Es.ev, Eo.ev, It.ev, Tg.as, Tgs.as, arrange, callM, Rs.bind, Rs.at, rsO, Option.bind, Option.map, getV_z, getV_s, gv_int, gv_bl, gv_str, gv_ref, gv_lst, gv_tup, gv_dct, gv_non, startE, List.map, List.set_cons_zero, List.set_cons_succ, List.replicate, List.cons_append, List.nil_append, List.getElem?_cons_zero, List.getElem?_cons_succ, truth_bl, Bool.not_true, Bool.not_false, fin, P.put, lim, List.length_nil, List.length_cons, Nat.reduceAdd, Nat.reduceSub, Nat.reduceLeDiff, if_true, Rf.then, Rf.res, noexc, setAll, isn_non, isD_non, cop_lt, cop_le, cop_gt, cop_ge, eq_int, ne_int, bop_add, bop_sub, bound, hM, hL, c1, i0, l0, c2, p]
theorem d_applied_no (n : Nat) {k : Bool} {m : List (List D)} {w : Nat} (r : Rect m w) {d : D} (hs : d.sm = true) (hb : isVec (w : Nat) d = false) (h : Lh) : run prog (n + 8) 24 [mat k m, d] h = .exc 4 [d] h := by
  rw [run_env (n := n + 7) (fd := f_applied) (env := [some (mat k m), some d]) (by rfl) rfl rfl]
  have l1 := r.l1
  have hM : nx (mat k m) = true := nx_sq k _
  have hL := sm_nx hs
  have c1 := c_matrix_ok (n + 1) (k := k) r h
  have i0 : item h (mat k m) (.int 0) = some (sq k m[0]) := item_mat k r (j := 0) l1
  have l0 := len_sq h k m[0]
  rw [(r.hr _ (List.getElem_mem l1)).1] at l0
  have c2 := c_vec_no (n + 2) hs hb h
  generalize ((w : Nat) : Int) = W at l0 c2
  show (b_applied.ev _ _ _).res = _
  simp only [b_applied, wipe, Ss.ev, S.ev, E.ev, Es.ev, Eo.ev, It.ev, Tg.as, Tgs.as, arrange, callM, Rs.bind, Rs.at, rsO, Option.bind, Option.map, getV_z, getV_s, gv_int, gv_bl, gv_str, gv_ref, gv_lst, gv_tup, gv_dct, gv_non, startE, List.map, List.set_cons_zero, List.set_cons_succ, List.replicate, List.cons_append, List.nil_append, List.getElem?_cons_zero, List.getElem?_cons_succ, truth_bl, Bool.not_true, Bool.not_false, fin, P.put, lim, List.length_nil, List.length_cons, Nat.reduceAdd, Nat.reduceSub, Nat.reduceLeDiff, if_true, Rf.then, Rf.res, noexc, setAll, isn_non, isD_non, cop_lt, cop_le, cop_gt, cop_ge, eq_int, ne_int, bop_add, bop_sub, bound, hM, hL, c1, i0, l0, c2]
theorem c_size (n : Nat) {k k' : Bool} {m l : List (List D)} {w w' : Nat} (r : Rect m w) (r' : Rect l w') (h : Lh) : callPure (run prog (n + 7)) 13 [mat k m, mat k' l] h = if l.length = m.length ∧ w' = w then .ok .non h else .exc 2 [mat k' l] h := by
  have l1 := r.l1
  have l1' := r'.l1
  have hM : nx (mat k m) = true := nx_sq k _
  have hL : nx (mat k' l) = true := nx_sq k' _
  have c1 := c_matrix_ok n (k := k) r []
  have c2 := c_is_mat (n + 1) (r'.sm k') []
  rw [isMat_mat k' r'] at c2
  have lm := len_mat [] k m
  have ll := len_mat [] k' l
  have i0 : item [] (mat k m) (.int 0) = some (sq k m[0]) := item_mat k r (j := 0) l1
  have i1 : item [] (mat k' l) (.int 0) = some (sq k' l[0]) := item_mat k' r' (j := 0) l1'
  have l0 := len_sq [] k m[0]
  rw [(r.hr _ (List.getElem_mem l1)).1] at l0
  have l2 := len_sq [] k' l[0]
  rw [(r'.hr _ (List.getElem_mem l1')).1] at l2
  have n1 := ne_int [] ((l.length : Nat) : Int) ((m.length : Nat) : Int)
  have n2' := ne_int [] ((w' : Nat) : Int) ((w : Nat) : Int)
  have nr : nrefs [mat k m, mat k' l] = true := n2 (mat_nref r) (mat_nref r')
  by_cases e1 : l.length = m.length
  · rw [decide_eq_true (by omega)] at n1
    by_cases e2 : w' = w
    · rw [decide_eq_true (by omega)] at n2'
      rw [if_pos ⟨e1, e2⟩]
      refine pure_ok (h1 := []) nr ?_ rfl
      rw [run_env (n := n + 6) (fd := f_check_same_size) (env := [some (mat k m), some (mat k' l)]) (by rfl) rfl rfl]
      show (b_check_same_size.ev _ _ _).res = _
      generalize ((l.length : Nat) : Int) = L at ll n1
      generalize ((m.length : Nat) : Int) = L2 at lm n1
      generalize ((w : Nat) : Int) = W at l0 n2'
      generalize ((w' : Nat) : Int) = W2 at l2 n2'
      simp only [b_check_same_size, wipe, Ss.ev, S.ev, E.ev, Es.ev, Eo.ev, It.ev, Tg.as, Tgs.as, arrange, callM, Rs.bind, Rs.at, rsO, Option.bind, Option.map, getV_z, getV_s, gv_int, gv_bl, gv_str, gv_ref, gv_lst, gv_tup, gv_dct, gv_non, startE, List.map, List.set_cons_zero, List.set_cons_succ, List.replicate, List.cons_append, List.nil_append, List.getElem?_cons_zero, List.getElem?_cons_succ, truth_bl, Bool.not_true, Bool.not_false, fin, P.put, lim, List.length_nil, List.length_cons, Nat.reduceAdd, Nat.reduceSub, Nat.reduceLeDiff, if_true, Rf.then, Rf.res, noexc, setAll, isn_non, isD_non, cop_lt, cop_le, cop_gt, cop_ge, bop_add, bop_sub, bound, hM, hL, c1, c2, lm, ll, i0, i1, l0, l2, n1, n2']
    · rw [decide_eq_false (by omega)] at n2'
      rw [if_neg (fun q => e2 q.2)]
      refine pure_exc (h1 := []) nr ?_ (sm1 (r'.sm k'))
      rw [run_env (n := n + 6) (fd := f_check_same_size) (env := [some (mat k m), some (mat k' l)]) (by rfl) rfl rfl]
      show (b_check_same_size.ev _ _ _).res = _
      generalize ((l.length : Nat) : Int) = L at ll n1
      generalize ((m.length : Nat) : Int) = L2 at lm n1
      generalize ((w : Nat) : Int) = W at l0 n2'
      generalize ((w' : Nat) : Int) = W2 at l2 n2'
      simp only [b_check_same_size, wipe, Ss.ev, S.ev, E.ev, Es.ev, Eo.ev, It.ev, Tg.as, Tgs.as, arrange, callM, Rs.bind, Rs.at, rsO, Option.bind, Option.map, getV_z, getV_s, gv_int, gv_bl, gv_str, gv_ref, gv_lst, gv_tup, gv_dct, gv_non, startE, List.map, List.set_cons_zero, List.set_cons_succ, List.replicate, List.cons_append, List.nil_append, List.getElem?_cons_zero, List.getElem?_cons_succ, truth_bl, Bool.not_true, Bool.not_false, fin, P.put, lim, List.length_nil, List.length_cons, Nat.reduceAdd, Nat.reduceSub, Nat.reduceLeDiff, if_true, Rf.then, Rf.res, noexc, setAll, isn_non, isD_non, cop_lt, cop_le, cop_gt, cop_ge, bop_add, bop_sub, bound, hM, hL, c1, c2, lm, ll, i0, i1, l0, l2, n1, n2']
  · rw [decide_eq_false (by omega)] at n1
    rw [if_neg (fun q => e1 q.1)]
    refine pure_exc (h1 := []) nr ?_ (sm1 (r'.sm k'))
    rw [run_env (n := n + 6) (fd := f_check_same_size) (env := [some (mat k m), some (mat k' l)]) (by rfl) rfl rfl]
    show (b_check_same_size.ev _ _ _).res = _
    generalize ((l.length : Nat) : Int) = L at ll n1
    generalize ((m.length : Nat) : Int) = L2 at lm n1
    simp only [b_check_same_size, wipe, Ss.ev, S.ev, E.ev, Es.ev, Eo.ev, It.ev, Tg.as, Tgs.as, arrange, callM, Rs.bind, Rs.at, rsO, Option.bind, Option.map, getV_z, getV_s, gv_int, gv_bl, gv_str, gv_ref, gv_lst, gv_tup, gv_dct, gv_non, startE, List.map, List.set_cons_zero, List.set_cons_succ, List.replicate, List.cons_append, List.nil_append, List.getElem?_cons_zero, List.getElem?_cons_succ, truth_bl, Bool.not_true, Bool.not_false, fin, P.put, lim, List.length_nil, List.length_cons, Nat.reduceAdd, Nat.reduceSub, Nat.reduceLeDiff, if_true, Rf.then, Rf.res, noexc, setAll, isn_non, isD_non, cop_lt, cop_le, cop_gt, cop_ge, bop_add, bop_sub, bound, hM, hL, c1, c2, lm, ll, n1]
theorem c_size_no1 (n : Nat) {d e : D} (hs : d.sm = true) (he : e.sm = true) (hb : isMat d = false) (h : Lh) : callPure (run prog (n + 7)) 13 [d, e] h = .exc 2 [d] h := by
  refine pure_exc (h1 := []) (sm2 hs he) ?_ (sm1 hs)
  rw [run_env (n := n + 6) (fd := f_check_same_size) (env := [some d, some e]) (by rfl) rfl rfl]
  have hM := sm_nx hs
  have c1 := c_matrix_no n hs hb []
  show (b_check_same_size.ev _ _ _).res = _
  simp only [b_check_same_size, wipe, Ss.ev, S.ev, E.ev, Es.ev, Eo.ev, It.ev, Tg.as, Tgs.as, arrange, callM, Rs.bind, Rs.at, rsO, Option.bind, Option.map, getV_z, getV_s, gv_int, gv_bl, gv_str, gv_ref, gv_lst, gv_tup, gv_dct, gv_non, startE, List.map, List.set_cons_zero, List.set_cons_succ, List.replicate, List.cons_append, List.nil_append, List.getElem?_cons_zero, List.getElem?_cons_succ, truth_bl, Bool.not_true, Bool.not_false, fin, P.put, lim, List.length_nil, List.length_cons, Nat.reduceAdd, Nat.reduceSub, Nat.reduceLeDiff, if_true, Rf.then, Rf.res, noexc, setAll, isn_non, isD_non, cop_lt, cop_le, cop_gt, cop_ge, eq_int, ne_int, bop_add, bop_sub, bound, hM, c1]
theorem c_size_no2 (n : Nat) {k : Bool} {m : List (List D)} {w : Nat} (r : Rect m w) {d : D} (hs : d.sm = true) (hb : isMat d = false) (h : Lh) : callPure (run prog (n + 7)) 13 [mat k m, d] h = .exc 2 [d] h := by
  refine pure_exc (h1 := []) (sm2 (r.sm k) hs) ?_ (sm1 hs)
  rw [run_env (n := n + 6) (fd := f_check_same_size) (env := [some (mat k m), some d]) (by rfl) rfl rfl]
  have hM : nx (mat k m) = true := nx_sq k _
  have hL := sm_nx hs
  have c1 := c_matrix_ok n (k := k) r []
  have c2 := c_is_mat (n + 1) hs []
  rw [hb] at c2
  show (b_check_same_size.ev _ _ _).res = _
  simp only [b_check_same_size, wipe, Ss.ev, S.ev, E.ev, Es.ev, Eo.ev, It.ev, Tg.as, Tgs.as, arrange, callM, Rs.bind, Rs.at, rsO, Option.bind, Option.map, getV_z, getV_s, gv_int, gv_bl, gv_str, gv_ref, gv_lst, gv_tup, gv_dct, gv_non, startE, List.map, List.set_cons_zero, List.set_cons_succ, List.replicate, List.cons_append, List.nil_append, List.getElem?_cons_zero, List.getElem?_cons_succ, truth_bl, Bool.not_true, Bool.not_false, fin, P.put, lim, List.length_nil, List.length_cons, Nat.reduceAdd, Nat.reduceSub, Nat.reduceLeDiff, if_true, Rf.then, Rf.res, noexc, setAll, isn_non, isD_non, cop_lt, cop_le, cop_gt, cop_ge, eq_int, ne_int, bop_add, bop_sub, bound, hM, hL, c1, c2]
theorem un_exc (n : Nat) {M V d : D} (hM : nx M = true) (hV : nx V = true) (c : ∀ h, callPure (run prog (n + 7)) 13 [M, V] h = .exc 2 [d] h) (h : Lh) : run prog (n + 8) 25 [M, V] h = .exc 2 [d] h := by
  rw [run_succ (n := n + 7) (fd := f_united) (by rfl) rfl]
  show (b_united.ev _ [some M, some V] _).res = _
  simp only [b_united, wipe, Ss.ev, S.ev, E.ev, Es.ev, Eo.ev, It.ev, Tg.as, Tgs.as, arrange, callM, Rs.bind, Rs.at, rsO, Option.bind, Option.map, getV_z, getV_s, gv_int, gv_bl, gv_str, gv_ref, gv_lst, gv_tup, gv_dct, gv_non, startE, List.map, List.set_cons_zero, List.set_cons_succ, List.replicate, List.cons_append, List.nil_append, List.getElem?_cons_zero, List.getElem?_cons_succ, truth_bl, Bool.not_true, Bool.not_false, fin, P.put, lim, List.length_nil, List.length_cons, Nat.reduceAdd, Nat.reduceSub, Nat.reduceLeDiff, if_true, Rf.then, Rf.res, noexc, setAll, isn_non, isD_non, cop_lt, cop_le, cop_gt, cop_ge, eq_int, ne_int, bop_add, bop_sub, bound, hM, hV, c]
theorem d_united (n : Nat) {k k' : Bool} {m l : List (List D)} {w : Nat} (r : Rect m w) (r' : Rect l w) (hl : l.length = m.length) (h : Lh) : run prog (n + 8) 25 [mat k m, mat k' l] h = .ok (gridR h (un m l)) (gridH h (un m l)) := by
  rw [run_env (n := n + 7) (fd := f_united) (env := [some (mat k m), some (mat k' l)]) (by rfl) rfl rfl]
  have hM : nx (mat k m) = true := nx_sq k _
  have hL : nx (mat k' l) = true := nx_sq k' _
  have c := c_size n (k := k) (k' := k') r r' h
  rw [if_pos ⟨hl, rfl⟩] at c
  have p := r_united_of (n + 5) (k := k) (k' := k') r r' hl h
  have p : run prog (n + 7) 20 [mat k m, mat k' l] h = _ := p
  show (b_united.ev _ _ _).res = _
  generalize gridR h (un m l) = G at p ⊢
  generalize gridH h (un m l) = H at p ⊢
  simp only [b_united, wipe, Ss.ev, S.ev, E.ev, Es.ev, Eo.ev, It.ev, Tg.as, Tgs.as, arrange, callM, Rs.bind, Rs.at, rsO, Option.bind, Option.map, getV_z, getV_s, gv_int, gv_bl, gv_str, gv_ref, gv_lst, gv_tup, gv_dct, gv_non, startE, List.map, List.set_cons_zero, List.set_cons_succ, List.replicate, List.cons_append, List.nil_append, List.getElem?_cons_zero, List.getElem?_cons_succ, truth_bl, Bool.not_true, Bool.not_false, fin, P.put, lim, List.length_nil, List.length_cons, Nat.reduceAdd, Nat.reduceSub, Nat.reduceLeDiff, if_true, Rf.then, Rf.res, noexc, setAll, isn_non, isD_non, cop_lt, cop_le, cop_gt, cop_ge, eq_int, ne_int, bop_add, bop_sub, bound, hM, hL, c, p]
theorem d_shifted (n : Nat) {k : Bool} {m : List (List D)} {w : Nat} (r : Rect m w) {x : D} (hx : isNum x = true) (h : Lh) : run prog (n + 8) 26 [mat k m, x] h = .ok (gridR h (sh m x)) (gridH h (sh m x)) := by
  rw [run_succ (n := n + 7) (fd := f_shifted) (by rfl) rfl]
  have hM : nx (mat k m) = true := nx_sq k _
  have hX := num_nx hx
  have c1 := c_matrix_ok (n + 1) (k := k) r h
  have c2 := c_num (n + 5) (num_sm hx) h
  rw [hx] at c2
  have p := r_shifted_of (n + 5) (k := k) r hx h
  have p : run prog (n + 7) 21 [mat k m, x] h = _ := p
  show (b_shifted.ev _ [some (mat k m), some x] _).res = _
  generalize gridR h (sh m x) = G at p ⊢
  generalize gridH h (sh m x) = H at p ⊢
  simp only [b_shifted, wipe, Ss.ev, S.ev, E.ev, Es.ev, Eo.ev, It.ev, Tg.as, Tgs.as, arrange, callM, Rs.bind, Rs.at, rsO, Option.bind, Option.map, getV_z, getV_s, gv_int, gv_bl, gv_str, gv_ref, gv_lst, gv_tup, gv_dct, gv_non, startE, List.map, List.set_cons_zero, List.set_cons_succ, List.replicate, List.cons_append, List.nil_append, List.getElem?_cons_zero, List.getElem?_cons_succ, truth_bl, Bool.not_true, Bool.not_false, fin, P.put, lim, List.length_nil, List.length_cons, Nat.reduceAdd, Nat.reduceSub, Nat.reduceLeDiff, if_true, Rf.then, Rf.res, noexc, setAll, isn_non, isD_non, cop_lt, cop_le, cop_gt, cop_ge, eq_int, ne_int, bop_add, bop_sub, bound, hM, hX, c1, c2, p]
theorem d_shifted_no (n : Nat) {k : Bool} {m : List (List D)} {w : Nat} (r : Rect m w) {x : D} (hs : x.sm = true) (hx : isNum x = false) (h : Lh) : run prog (n + 8) 26 [mat k m, x] h = .exc 3 [x] h := by
  rw [run_succ (n := n + 7) (fd := f_shifted) (by rfl) rfl]
  have hM : nx (mat k m) = true := nx_sq k _
  have hX := sm_nx hs
  have c1 := c_matrix_ok (n + 1) (k := k) r h
  have c2 := c_num (n + 5) hs h
  rw [hx] at c2
  show (b_shifted.ev _ [some (mat k m), some x] _).res = _
  simp only [b_shifted, wipe, Ss.ev, S.ev, E.ev, Es.ev, Eo.ev, It.ev, Tg.as, Tgs.as, arrange, callM, Rs.bind, Rs.at, rsO, Option.bind, Option.map, getV_z, getV_s, gv_int, gv_bl, gv_str, gv_ref, gv_lst, gv_tup, gv_dct, gv_non, startE, List.map, List.set_cons_zero, List.set_cons_succ, List.replicate, List.cons_append, List.nil_append, List.getElem?_cons_zero, List.getElem?_cons_succ, truth_bl, Bool.not_true, Bool.not_false, fin, P.put, lim, List.length_nil, List.length_cons, Nat.reduceAdd, Nat.reduceSub, Nat.reduceLeDiff, if_true, Rf.then, Rf.res, noexc, setAll, isn_non, isD_non, cop_lt, cop_le, cop_gt, cop_ge, eq_int, ne_int, bop_add, bop_sub, bound, hM, hX, c1, c2]
theorem d_power (n : Nat) {k : Bool} {A : List (List D)} {s : Nat} (ra : Rect A s) (la : A.length = s) {a : Nat} (ha : a ≤ 200) (h : Lh) : ∃ F h', run prog (n + 8) 27 [mat k A, .int (a : Nat)] h = .ok F h' ∧ GridAt h' F (pwr A s a) := by
  obtain ⟨F, h', e, g⟩ := r_power_of (n + 3) (k := k) ra la (a := a) (by omega) h
  refine ⟨F, h', ?_, g⟩
  rw [run_succ (n := n + 7) (fd := f_power) (by rfl) rfl]
  have hM : nx (mat k A) = true := nx_sq k _
  have c1 := c_sq_ok n (k := k) ra la h
  have c2 := c_btw (n + 5) (d := .int (a : Nat)) rfl h
  have bt : btw (.int (a : Nat)) = true := by
    show (decide (0 ≤ ((a : Nat) : Int)) && decide (((a : Nat) : Int) ≤ 200)) = true
    rw [decide_eq_true (by omega), decide_eq_true (by omega)]; rfl
  rw [bt] at c2
  have e : run prog (n + 7) 22 [mat k A, .int (a : Nat)] h = _ := e
  show (b_power.ev _ [some (mat k A), some (.int (a : Nat))] _).res = _
  generalize ((a : Nat) : Int) = z at c2 e ⊢
  simp only [b_power, wipe, Ss.ev, S.ev, E.ev, Es.ev, Eo.ev, It.ev, Tg.as, Tgs.as, arrange, callM, Rs.bind, Rs.at, rsO, Option.bind, Option.map, getV_z, getV_s, gv_int, gv_bl, gv_str, gv_ref, gv_lst, gv_tup, gv_dct, gv_non, startE, List.map, List.set_cons_zero, List.set_cons_succ, List.replicate, List.cons_append, List.nil_append, List.getElem?_cons_zero, List.getElem?_cons_succ, truth_bl, Bool.not_true, Bool.not_false, fin, P.put, lim, List.length_nil, List.length_cons, Nat.reduceAdd, Nat.reduceSub, Nat.reduceLeDiff, if_true, Rf.then, Rf.res, noexc, setAll, isn_non, isD_non, cop_lt, cop_le, cop_gt, cop_ge, eq_int, ne_int, bop_add, bop_sub, bound, hM, c1, c2, e]
theorem pow_exc (n : Nat) {M V : D} (hM : nx M = true) (c : ∀ h, callPure (run prog (n + 7)) 11 [M] h = .exc 2 [M] h) (h : Lh) : run prog (n + 8) 27 [M, V] h = .exc 2 [M] h := by
  rw [run_succ (n := n + 7) (fd := f_power) (by rfl) rfl]
  show (b_power.ev _ [some M, some V] _).res = _
  simp only [b_power, wipe, Ss.ev, S.ev, E.ev, Es.ev, Eo.ev, It.ev, Tg.as, Tgs.as, arrange, callM, Rs.bind, Rs.at, rsO, Option.bind, Option.map, getV_z, getV_s, gv_int, gv_bl, gv_str, gv_ref, gv_lst, gv_tup, gv_dct, gv_non, startE, List.map, List.set_cons_zero, List.set_cons_succ, List.replicate, List.cons_append, List.nil_append, List.getElem?_cons_zero, List.getElem?_cons_succ, truth_bl, Bool.not_true, Bool.not_false, fin, P.put, lim, List.length_nil, List.length_cons, Nat.reduceAdd, Nat.reduceSub, Nat.reduceLeDiff, if_true, Rf.then, Rf.res, noexc, setAll, isn_non, isD_non, cop_lt, cop_le, cop_gt, cop_ge, eq_int, ne_int, bop_add, bop_sub, bound, hM, c]
theorem d_power_no (n : Nat) {k : Bool} {A : List (List D)} {s : Nat} (ra : Rect A s) (la : A.length = s) {d : D} (hs : d.sm = true) (hb : btw d = false) (h : Lh) : run prog (n + 8) 27 [mat k A, d] h = .exc 1 [d] h := by
  rw [run_succ (n := n + 7) (fd := f_power) (by rfl) rfl]
  have hM : nx (mat k A) = true := nx_sq k _
  have hX := sm_nx hs
  have c1 := c_sq_ok n (k := k) ra la h
  have c2 := c_btw (n + 5) hs h
  rw [hb] at c2
  show (b_power.ev _ [some (mat k A), some d] _).res = _
  simp only [b_power, wipe, Ss.ev, S.ev, E.ev, Es.ev, Eo.ev, It.ev, Tg.as, Tgs.as, arrange, callM, Rs.bind, Rs.at, rsO, Option.bind, Option.map, getV_z, getV_s, gv_int, gv_bl, gv_str, gv_ref, gv_lst, gv_tup, gv_dct, gv_non, startE, List.map, List.set_cons_zero, List.set_cons_succ, List.replicate, List.cons_append, List.nil_append, List.getElem?_cons_zero, List.getElem?_cons_succ, truth_bl, Bool.not_true, Bool.not_false, fin, P.put, lim, List.length_nil, List.length_cons, Nat.reduceAdd, Nat.reduceSub, Nat.reduceLeDiff, if_true, Rf.then, Rf.res, noexc, setAll, isn_non, isD_non, cop_lt, cop_le, cop_gt, cop_ge, eq_int, ne_int, bop_add, bop_sub, bound, hM, hX, c1, c2]
theorem mat_exc (n : Nat) {f : Nat} {fd : Fd} {rest : Ss} {M V : D} (hf : prog.fds[f]? = some fd) (hp : fd.np = 2) (hs : startE fd.ns [M, V] = [some M, some V]) (hb : fd.body = .cons (.ex (.call .pure 10 (.cons (.var 0) .nil) [0])) rest) (hM : nx M = true) (c : ∀ h, callPure (run prog (n + 7)) 10 [M] h = .exc 2 [M] h) (h : Lh) : run prog (n + 8) f [M, V] h = .exc 2 [M] h := by
  rw [run_succ (n := n + 7) hf (by rw [hp]; rfl), hs, hb]
  simp only [wipe, Ss.ev, S.ev, E.ev, Es.ev, Eo.ev, It.ev, Tg.as, Tgs.as, arrange, callM, Rs.bind, Rs.at, rsO, Option.bind, Option.map, getV_z, getV_s, gv_int, gv_bl, gv_str, gv_ref, gv_lst, gv_tup, gv_dct, gv_non, startE, List.map, List.set_cons_zero, List.set_cons_succ, List.replicate, List.cons_append, List.nil_append, List.getElem?_cons_zero, List.getElem?_cons_succ, truth_bl, Bool.not_true, Bool.not_false, fin, P.put, lim, List.length_nil, List.length_cons, Nat.reduceAdd, Nat.reduceSub, Nat.reduceLeDiff, if_true, Rf.then, Rf.res, noexc, setAll, isn_non, isD_non, cop_lt, cop_le, cop_gt, cop_ge, eq_int, ne_int, bop_add, bop_sub, bound, hM, c]
/-- a value that is no matrix is refused by each door, first -/
theorem d_bad (n : Nat) {d e : D} (hs : d.sm = true) (he : e.sm = true) (hb : isMat d = false) (w : Nat) (hw : w < 5) (h : Lh) : run prog (n + 8) (23 + w) [d, e] h = .exc 2 [d] h := by
  have hM := sm_nx hs
  have c := fun h => c_matrix_no (n + 1) hs hb h
  rcases (by omega : w = 0 ∨ w = 1 ∨ w = 2 ∨ w = 3 ∨ w = 4) with rfl | rfl | rfl | rfl | rfl
  · exact mat_exc n (fd := f_times) rfl rfl rfl rfl hM c h
  · exact mat_exc n (fd := f_applied) rfl rfl rfl rfl hM c h
  · exact un_exc n hM (sm_nx he) (fun h => c_size_no1 n hs he hb h) h
  · exact mat_exc n (fd := f_shifted) rfl rfl rfl rfl hM c h
  · exact pow_exc n hM (fun h => c_sq_no n hs hb h) h
end K02
end TB

end

section
set_option Elab.async false
set_option linter.all false
set_option maxRecDepth 100000
set_option maxHeartbeats 1000000
namespace TB
namespace K02
open PySem
/-! ### met -/
def metT : Ss := match b__law_met with
  | .cons (.tr b _) _ => b
  | _ => .nil
def metH : Hs := match b__law_met with
  | .cons (.tr _ hs) _ => hs
  | _ => .nil
abbrev mE (w : Int) (M V : D) (b : Bool) : Env := [some (.int w), some M, some V, some (.bl b), none]
def retT (r : Rs D) (s : Env) : Rf := match r with
  | .ok r h1 => .ok (.rt (.ref h1.length)) (h1 ++ [.lst [.str "told", r]])
  | .exc c fs h1 => .exc c fs s h1
  | .stuck => .stuck
def Nm (c : Nat) (nm : Str) : Prop := (c = 2 ∧ nm = "matrix") ∨ (c = 4 ∧ nm = "vector") ∨ (c = 3 ∧ nm = "number") ∨ (c = 1 ∧ nm = "many")
theorem met_hs {n c : Nat} {nm : Str} (hc : Nm c nm) (w : Int) (M V : D) (b : Bool) (d : D) (h : Lh) : metH.ev ⟨run prog n, prog.loop, prog.sub⟩ c [d] (mE w M V b) h = .ok (.rt (.ref h.length)) (h ++ [.lst [.str nm, d, .bl true]]) := by
  rcases hc with ⟨rfl, rfl⟩ | ⟨rfl, rfl⟩ | ⟨rfl, rfl⟩ | ⟨rfl, rfl⟩ <;> rfl
theorem met_told {n : Nat} {w : Int} {M V : D} {b : Bool} {h h1 : Lh} {d : D} {R : Rs D} (hb : metT.ev ⟨run prog n, prog.loop, prog.sub⟩ (mE w M V b) h = retT R (mE w M V b)) (hR : R = .ok d h1) : run prog (n + 1) i__law_met [.int w, M, V, .bl b] h = .ok (.ref h1.length) (h1 ++ [.lst [.str "told", d]]) := by
  rw [run_env (fd := f__law_met) (env := mE w M V b) rfl rfl rfl]
  show (Rf.then (match metT.ev ⟨run prog n, prog.loop, prog.sub⟩ (mE w M V b) h with
    | .exc c fs s h => metH.ev ⟨run prog n, prog.loop, prog.sub⟩ c fs s h
    | r => r) _).res = _
  rw [hb, hR]
  rfl
theorem met_exc {n c : Nat} {nm : Str} (hc : Nm c nm) {w : Int} {M V : D} {b : Bool} {h h1 : Lh} {d : D} {R : Rs D} (hb : metT.ev ⟨run prog n, prog.loop, prog.sub⟩ (mE w M V b) h = retT R (mE w M V b)) (hR : R = .exc c [d] h1) : run prog (n + 1) i__law_met [.int w, M, V, .bl b] h = .ok (.ref h1.length) (h1 ++ [.lst [.str nm, d, .bl true]]) := by
  rw [run_env (fd := f__law_met) (env := mE w M V b) rfl rfl rfl]
  show (Rf.then (match metT.ev ⟨run prog n, prog.loop, prog.sub⟩ (mE w M V b) h with
    | .exc c fs s h => metH.ev ⟨run prog n, prog.loop, prog.sub⟩ c fs s h
    | r => r) _).res = _
  rw [hb, hR]
  show (Rf.then (metH.ev ⟨run prog n, prog.loop, prog.sub⟩ c [d] (mE w M V b) h1) _).res = _
  rw [met_hs hc]
  rfl
theorem mf_0 {n : Nat} {M V : D} {b : Bool} {h : Lh} (hM : nx M = true) (hV : nx V = true) : metT.ev ⟨run prog n, prog.loop, prog.sub⟩ (mE 0 M V b) h = retT (run prog n 23 [M, V] h) (mE 0 M V b) := by
  have c0 := eq_t h 0 0 rfl
  cases b <;> (simp only [metT, b__law_met, wipe, Ss.ev, S.ev, E.ev, Es.ev, Eo.ev, It.ev, Tg.as, Tgs.as, arrange, callM, Rs.bind, Rs.at, rsO, Option.bind, Option.map, getV_z, getV_s, gv_int, gv_bl, gv_str, gv_ref, gv_lst, gv_tup, gv_dct, gv_non, startE, List.map, List.set_cons_zero, List.set_cons_succ, List.replicate, List.cons_append, List.nil_append, List.getElem?_cons_zero, List.getElem?_cons_succ, truth_bl, Bool.not_true, Bool.not_false, fin, P.put, lim, List.length_nil, List.length_cons, Nat.reduceAdd, Nat.reduceSub, Nat.reduceLeDiff, if_true, Rf.then, Rf.res, noexc, setAll, isn_non, isD_non, cop_lt, cop_le, cop_gt, cop_ge, bop_add, bop_sub, bound, mE, hM, hV, c0]; cases run prog n 23 [M, V] h <;> rfl)
theorem mf_1 {n : Nat} {M V : D} {b : Bool} {h : Lh} (hM : nx M = true) (hV : nx V = true) : metT.ev ⟨run prog n, prog.loop, prog.sub⟩ (mE 1 M V b) h = retT (run prog n 24 [M, V] h) (mE 1 M V b) := by
  have c0 := eq_f h 1 0 (by decide)
  have c1 := eq_t h 1 1 rfl
  cases b <;> (simp only [metT, b__law_met, wipe, Ss.ev, S.ev, E.ev, Es.ev, Eo.ev, It.ev, Tg.as, Tgs.as, arrange, callM, Rs.bind, Rs.at, rsO, Option.bind, Option.map, getV_z, getV_s, gv_int, gv_bl, gv_str, gv_ref, gv_lst, gv_tup, gv_dct, gv_non, startE, List.map, List.set_cons_zero, List.set_cons_succ, List.replicate, List.cons_append, List.nil_append, List.getElem?_cons_zero, List.getElem?_cons_succ, truth_bl, Bool.not_true, Bool.not_false, fin, P.put, lim, List.length_nil, List.length_cons, Nat.reduceAdd, Nat.reduceSub, Nat.reduceLeDiff, if_true, Rf.then, Rf.res, noexc, setAll, isn_non, isD_non, cop_lt, cop_le, cop_gt, cop_ge, bop_add, bop_sub, bound, mE, hM, hV, c0, c1]; cases run prog n 24 [M, V] h <;> rfl)
theorem mf_2 {n : Nat} {M V : D} {b : Bool} {h : Lh} (hM : nx M = true) (hV : nx V = true) : metT.ev ⟨run prog n, prog.loop, prog.sub⟩ (mE 2 M V b) h = retT (run prog n 25 [M, V] h) (mE 2 M V b) := by
  have c0 := eq_f h 2 0 (by decide)
  have c1 := eq_f h 2 1 (by decide)
  have c2 := eq_t h 2 2 rfl
  cases b <;> (simp only [metT, b__law_met, wipe, Ss.ev, S.ev, E.ev, Es.ev, Eo.ev, It.ev, Tg.as, Tgs.as, arrange, callM, Rs.bind, Rs.at, rsO, Option.bind, Option.map, getV_z, getV_s, gv_int, gv_bl, gv_str, gv_ref, gv_lst, gv_tup, gv_dct, gv_non, startE, List.map, List.set_cons_zero, List.set_cons_succ, List.replicate, List.cons_append, List.nil_append, List.getElem?_cons_zero, List.getElem?_cons_succ, truth_bl, Bool.not_true, Bool.not_false, fin, P.put, lim, List.length_nil, List.length_cons, Nat.reduceAdd, Nat.reduceSub, Nat.reduceLeDiff, if_true, Rf.then, Rf.res, noexc, setAll, isn_non, isD_non, cop_lt, cop_le, cop_gt, cop_ge, bop_add, bop_sub, bound, mE, hM, hV, c0, c1, c2]; cases run prog n 25 [M, V] h <;> rfl)
theorem mf_3 {n : Nat} {M V : D} {b : Bool} {h : Lh} (hM : nx M = true) (hV : nx V = true) : metT.ev ⟨run prog n, prog.loop, prog.sub⟩ (mE 3 M V b) h = retT (run prog n 26 [M, V] h) (mE 3 M V b) := by
  have c0 := eq_f h 3 0 (by decide)
  have c1 := eq_f h 3 1 (by decide)
  have c2 := eq_f h 3 2 (by decide)
  have c3 := eq_t h 3 3 rfl
  cases b <;> (simp only [metT, b__law_met, wipe, Ss.ev, S.ev, E.ev, Es.ev, Eo.ev, It.ev, Tg.as, Tgs.as, arrange, callM, Rs.bind, Rs.at, rsO, Option.bind, Option.map, getV_z, getV_s, gv_int, gv_bl, gv_str, gv_ref, gv_lst, gv_tup, gv_dct, gv_non, startE, List.map, List.set_cons_zero, List.set_cons_succ, List.replicate, List.cons_append, List.nil_append, List.getElem?_cons_zero, List.getElem?_cons_succ, truth_bl, Bool.not_true, Bool.not_false, fin, P.put, lim, List.length_nil, List.length_cons, Nat.reduceAdd, Nat.reduceSub, Nat.reduceLeDiff, if_true, Rf.then, Rf.res, noexc, setAll, isn_non, isD_non, cop_lt, cop_le, cop_gt, cop_ge, bop_add, bop_sub, bound, mE, hM, hV, c0, c1, c2, c3]; cases run prog n 26 [M, V] h <;> rfl)
theorem mf_4 {n : Nat} {M V : D} {b : Bool} {h : Lh} (hM : nx M = true) (hV : nx V = true) : metT.ev ⟨run prog n, prog.loop, prog.sub⟩ (mE 4 M V b) h = retT (run prog n 27 [M, V] h) (mE 4 M V b) := by
  have c0 := eq_f h 4 0 (by decide)
  have c1 := eq_f h 4 1 (by decide)
  have c2 := eq_f h 4 2 (by decide)
  have c3 := eq_f h 4 3 (by decide)
  cases b <;> (simp only [metT, b__law_met, wipe, Ss.ev, S.ev, E.ev, Es.ev, Eo.ev, It.ev, Tg.as, Tgs.as, arrange, callM, Rs.bind, Rs.at, rsO, Option.bind, Option.map, getV_z, getV_s, gv_int, gv_bl, gv_str, gv_ref, gv_lst, gv_tup, gv_dct, gv_non, startE, List.map, List.set_cons_zero, List.set_cons_succ, List.replicate, List.cons_append, List.nil_append, List.getElem?_cons_zero, List.getElem?_cons_succ, truth_bl, Bool.not_true, Bool.not_false, fin, P.put, lim, List.length_nil, List.length_cons, Nat.reduceAdd, Nat.reduceSub, Nat.reduceLeDiff, if_true, Rf.then, Rf.res, noexc, setAll, isn_non, isD_non, cop_lt, cop_le, cop_gt, cop_ge, bop_add, bop_sub, bound, mE, hM, hV, c0, c1, c2, c3]; cases run prog n 27 [M, V] h <;> rfl)
theorem met_fn {n : Nat} {w : Nat} (w1 : w < 5) {M V : D} {b : Bool} {h : Lh} (hM : nx M = true) (hV : nx V = true) : metT.ev ⟨run prog n, prog.loop, prog.sub⟩ (mE (w : Nat) M V b) h = retT (run prog n (23 + w) [M, V] h) (mE (w : Nat) M V b) := by
  rcases (by omega : w = 0 ∨ w = 1 ∨ w = 2 ∨ w = 3 ∨ w = 4) with rfl | rfl | rfl | rfl | rfl
  · exact mf_0 hM hV
  · exact mf_1 hM hV
  · exact mf_2 hM hV
  · exact mf_3 hM hV
  · exact mf_4 hM hV
theorem c_met_exc {n c : Nat} {nm : Str} (hc : Nm c nm) {w : Nat} (w1 : w < 5) {M V : D} {b : Bool} {d : D} (hM : M.sm = true) (hV : V.sm = true) (hd : d.nref = true) (hR : ∀ h, run prog n (23 + w) [M, V] h = .exc c [d] h) (h : Lh) : callPure (run prog (n + 1)) 42 [.int (w : Nat), M, V, .bl b] h = .ok (.lst [.str nm, d, .bl true]) h := by
  have e := met_exc hc (met_fn (n := n) (b := b) (h := []) w1 (sm_nx hM) (sm_nx hV)) (hR [])
  generalize ((w : Nat) : Int) = W at e ⊢
  unfold callPure
  rw [if_pos (show nrefs [.int W, M, V, .bl b] = true by show (M.nref && (V.nref && true)) = true; rw [D.sm_nref _ hM, D.sm_nref _ hV]; rfl)]
  have e : run prog (n + 1) 42 [.int W, M, V, .bl b] [] = _ := e
  rw [e]
  have nr : nrefs [.str nm, d, .bl true] = true := by show (d.nref && true) = true; rw [hd]; rfl
  have ht : thaw ([] ++ [O.lst [.str nm, d, .bl true]]) deep (.ref ([] : Lh).length) = some (.lst [.str nm, d, .bl true]) := thawF_lst (H := [O.lst [.str nm, d, .bl true]]) (k := 0) rfl (binds_nref _ _ nr)
  dsimp only
  rw [ht]
theorem nm_sm : (D.str "matrix").sm = true ∧ (D.str "vector").sm = true ∧ (D.str "number").sm = true ∧ (D.str "many").sm = true ∧ (D.str "told").sm = true := by decide +kernel
theorem snap_ok {n : Nat} {as : List D} {d : D} {h : Lh} (hs : d.sm = true) (hd : d.dep ≤ n) (e : thaws h as = some [d, d]) : callSnap (run prog (n + 1)) 31 as h = .ok (.bl true) h := by
  unfold callSnap
  rw [e]
  dsimp only
  rw [same_ok same28 n d hs hd []]
  rfl
/-! ### told -/
def tlB : Ss := match b__law_told with
  | .cons _ (.cons (.fr _ _ b) _) => b
  | _ => .nil
abbrev tA1 : E := .ite (.cmp .eq (.var 6) (.cst (.int 0))) (.var 1) (.call .pure 38 (.cons (.var 1) .nil) [0])
abbrev tA2 : E := .ite (.and (.cmp .eq (.var 6) (.cst (.int 1))) (.isi [.list] (.var 2))) (.call .pure 38 (.cons (.var 2) .nil) [0]) (.var 2)
abbrev tR (i : Nat) : E := .comp true [10] (.nm 10) (.ex (.var i)) .no (.bi .list true (.cons (.var 10) .nil))
abbrev tZ (w : Int) (M V du : D) (b : Bool) (kp : D) (x6 x7 x8 x9 x10 : Option D) : Env := [some (.int w), some M, some V, some du, some (.bl b), some kp, x6, x7, x8, x9, x10]
theorem tlB_eq : tlB = (.cons (.asg (.nm 7) tA1) (.cons (.asg (.nm 8) tA2) (.cons (.asg (.nm 9) (.call .inl 42 (.cons (.var 0) (.cons (.var 7) (.cons (.var 8) (.cons (.var 4) .nil)))) [0, 1, 2, 3])) (.cons (.ite (.or (.not (.call .snap 31 (.cons (.var 9) (.cons (.lst true (.cons (.cst (.str "told")) (.cons (.var 3) .nil))) .nil)) [0, 1])) (.not (.call .pure 31 (.cons (tR 7) (.cons (.ix (.var 5) (.cst (.int 0))) .nil)) [0, 1]))) (.cons (.ret (.cst (.bl false))) .nil) .nil) (.cons (.ite (.cmp .ne (.var 0) (.cst (.int 1))) (.cons (.ex (.me .append (.ix (.ix (.var 9) (.cst (.int 1))) (.cst (.int 0))) (.cons (.cst (.int 0)) .nil))) .nil) .nil) (.cons (.ex (.me .append (.ix (.var 9) (.cst (.int 1))) (.cons (.cst (.int 0)) .nil))) (.cons (.asg (.nm 4) (.not (.var 4))) .nil))))))) := rfl
theorem tl_mat {cx : Cx} {w : Int} {M V du kp K0 M' V' R : D} {b : Bool} {x6 x7 x8 x9 x10 : Option D} {h h1 : Lh} {k g c0 : Nat} {gs r0 : List D} (hM : nx M' = true) (hV : nx V' = true) (hd : nx du = true) (hk : nx kp = true)
    (a1 : tA1.ev cx (tZ w M V du b kp x6 x7 x8 x9 x10) h = .ok M' h) (a2 : tA2.ev cx (tZ w M V du b kp x6 (some M') x8 x9 x10) h = .ok V' h) (cl : cx.call 42 [.int w, M', V', .bl b] h = .ok (.ref k) h1)
    (sn : callSnap cx.call 31 [.ref k, .lst [.str "told", du]] h1 = .ok (.bl true) h1) (a3 : (tR 7).ev cx (tZ w M V du b kp x6 (some M') (some V') (some (.ref k)) x10) h1 = .ok R h1) (ik : item h1 kp (.int 0) = some K0) (sm : callPure cx.call 31 [R, K0] h1 = .ok (.bl true) h1)
    (ne : cop h1 .ne (.int w) (.int 1) = some true) (i1 : item h1 (.ref k) (.int 1) = some (.ref g)) (i2 : item h1 (.ref g) (.int 0) = some (.ref c0)) (hc : h1[c0]? = some (.lst r0)) (lr : r0.length < 1000)
    (i3 : item (h1.set c0 (.lst (r0 ++ [.int 0]))) (.ref k) (.int 1) = some (.ref g)) (hg : (h1.set c0 (.lst (r0 ++ [.int 0])))[g]? = some (.lst gs)) (lg : gs.length < 1000) :
    tlB.ev cx (tZ w M V du b kp x6 x7 x8 x9 x10) h = .ok (.nx (tZ w M V du (!b) kp x6 (some M') (some V') (some (.ref k)) x10)) ((h1.set c0 (.lst (r0 ++ [.int 0]))).set g (.lst (gs ++ [.int 0]))) := by
  rw [tlB_eq]
  have vm1 : vm h1 (.ref c0) = some (false, r0) := by simp only [vm, hc]
  have m1 : met h1 .append (.ref c0) [.int 0] = .ok .non (h1.set c0 (.lst (r0 ++ [.int 0]))) := met_ok hc (meL_app (by unfold lim; omega))
  generalize h1.set c0 (.lst (r0 ++ [.int 0])) = h2 at i3 hg m1 ⊢
  have vm2 : vm h2 (.ref g) = some (false, gs) := by simp only [vm, hg]
  have m2 : met h2 .append (.ref g) [.int 0] = .ok .non (h2.set g (.lst (gs ++ [.int 0]))) := met_ok hg (meL_app (by unfold lim; omega))
  generalize h2.set g (.lst (gs ++ [.int 0])) = h3 at m2 ⊢
  generalize tA1 = A at a1 ⊢
  generalize tA2 = B at a2 ⊢
  generalize tR 7 = C at a3 ⊢
  simp only [wipe, Ss.ev, S.ev, E.ev, Es.ev, Eo.ev, It.ev, Tg.as, Tgs.as, arrange, callM, Rs.bind, Rs.at, rsO, Option.bind, Option.map, getV_z, getV_s, gv_int, gv_bl, gv_str, gv_ref, gv_lst, gv_tup, gv_dct, gv_non, startE, List.map, List.set_cons_zero, List.set_cons_succ, List.replicate, List.cons_append, List.nil_append, List.getElem?_cons_zero, List.getElem?_cons_succ, truth_bl, Bool.not_true, Bool.not_false, fin, P.put, lim, List.length_nil, List.length_cons, Nat.reduceAdd, Nat.reduceSub, Nat.reduceLeDiff, if_true, Rf.then, Rf.res, noexc, setAll, isn_non, isD_non, cop_lt, cop_le, cop_gt, cop_ge, bop_add, bop_sub, bound, hM, hV, hd, hk, a1, a2, cl, sn, a3, ik, sm, ne, i1, i2, vm1, m1, i3, vm2, m2]
theorem tl_vec {cx : Cx} {w : Int} {M V du kp K0 M' V' R : D} {b : Bool} {x6 x7 x8 x9 x10 : Option D} {h h1 : Lh} {k g : Nat} {gs : List D} (hM : nx M' = true) (hV : nx V' = true) (hd : nx du = true) (hk : nx kp = true)
    (a1 : tA1.ev cx (tZ w M V du b kp x6 x7 x8 x9 x10) h = .ok M' h) (a2 : tA2.ev cx (tZ w M V du b kp x6 (some M') x8 x9 x10) h = .ok V' h) (cl : cx.call 42 [.int w, M', V', .bl b] h = .ok (.ref k) h1)
    (sn : callSnap cx.call 31 [.ref k, .lst [.str "told", du]] h1 = .ok (.bl true) h1) (a3 : (tR 7).ev cx (tZ w M V du b kp x6 (some M') (some V') (some (.ref k)) x10) h1 = .ok R h1) (ik : item h1 kp (.int 0) = some K0) (sm : callPure cx.call 31 [R, K0] h1 = .ok (.bl true) h1)
    (ne : cop h1 .ne (.int w) (.int 1) = some false) (i1 : item h1 (.ref k) (.int 1) = some (.ref g)) (hg : h1[g]? = some (.lst gs)) (lg : gs.length < 1000) :
    tlB.ev cx (tZ w M V du b kp x6 x7 x8 x9 x10) h = .ok (.nx (tZ w M V du (!b) kp x6 (some M') (some V') (some (.ref k)) x10)) (h1.set g (.lst (gs ++ [.int 0]))) := by
  rw [tlB_eq]
  have vm2 : vm h1 (.ref g) = some (false, gs) := by simp only [vm, hg]
  have m2 : met h1 .append (.ref g) [.int 0] = .ok .non (h1.set g (.lst (gs ++ [.int 0]))) := met_ok hg (meL_app (by unfold lim; omega))
  generalize h1.set g (.lst (gs ++ [.int 0])) = h3 at m2 ⊢
  generalize tA1 = A at a1 ⊢
  generalize tA2 = B at a2 ⊢
  generalize tR 7 = C at a3 ⊢
  simp only [wipe, Ss.ev, S.ev, E.ev, Es.ev, Eo.ev, It.ev, Tg.as, Tgs.as, arrange, callM, Rs.bind, Rs.at, rsO, Option.bind, Option.map, getV_z, getV_s, gv_int, gv_bl, gv_str, gv_ref, gv_lst, gv_tup, gv_dct, gv_non, startE, List.map, List.set_cons_zero, List.set_cons_succ, List.replicate, List.cons_append, List.nil_append, List.getElem?_cons_zero, List.getElem?_cons_succ, truth_bl, Bool.not_true, Bool.not_false, fin, P.put, lim, List.length_nil, List.length_cons, Nat.reduceAdd, Nat.reduceSub, Nat.reduceLeDiff, if_true, Rf.then, Rf.res, noexc, setAll, isn_non, isD_non, cop_lt, cop_le, cop_gt, cop_ge, bop_add, bop_sub, bound, hM, hV, hd, hk, a1, a2, cl, sn, a3, ik, sm, ne, i1, vm2, m2]
/-- rows made new -/
theorem rows_ev (cx : Cx) (i : Nat) {k : Bool} {m : List (List D)} {w : Nat} (r : Rect m w) {Z : Env} (g : getV Z i = some (mat k m)) (g10 : ∀ x, nx x = true → getV ((wipe Z [10]).set 10 (some x)) 10 = some x) (h : Lh) : (tR i).ev cx Z h = .ok (mat false m) h := by
  have l2 := r.l2
  rw [comp_ev (src := .seq (mat k m)) (ds := m.map (sq k)) (fun d => [.lst (row d)]) (by simp only [It.ev, E.ev, rsO, g, Rs.bind]) (mat_items k m) (by rw [List.length_map]; unfold lim; omega) fun x hx acc => step_map acc ?_, map_of]
  · have : (m.map (sq k)).map (fun d => D.lst (row d)) = m.map (sq false) := by
      rw [List.map_map]
      congr 1
      funext y
      show D.lst (row (sq k y)) = _
      rw [row_sq]; rfl
    rw [this]; rfl
  · obtain ⟨ro, hro, rfl⟩ := List.mem_map.mp hx
    rw [row_sq]
    have g1 := g10 (sq k ro) (nx_sq k _)
    have bl : bfn h .list [sq k ro] = some (.l ro) := by cases k <;> rfl
    simp only [E.ev, Es.ev, Rs.bind, rsO, g1, bl, fin, P.put, if_true]
/-- what is asked in a turn -/
def secD (t : Nat) (V : D) : D := if t = 1 then turnD V else V
theorem secD_nx (t : Nat) {V : D} (hV : V.sm = true) : nx (secD t V) = true := by
  unfold secD
  split
  · exact sm_nx (turnD_sm V hV)
  · exact sm_nx hV
theorem tl_args (n : Nat) {m : List (List D)} {s : Nat} (r : Rect m s) {V : D} (hV : V.sm = true) (t : Nat) (ht : t < 2) (w : Int) (du : D) (b : Bool) (kp : D) (x7 x8 x9 x10 : Option D) (h : Lh) :
    tA1.ev ⟨run prog (n + 1), prog.loop, prog.sub⟩ (tZ w (mat false m) V du b kp (some (.int (t : Nat))) x7 x8 x9 x10) h = .ok (mat (decide (t = 1)) m) h ∧ ∀ y, tA2.ev ⟨run prog (n + 1), prog.loop, prog.sub⟩ (tZ w (mat false m) V du b kp (some (.int (t : Nat))) y x8 x9 x10) h = .ok (secD t V) h := by
  have hM : nx (mat false m) = true := nx_sq false _
  have hVx := sm_nx hV
  have smr := r.sm false
  rcases (by omega : t = 0 ∨ t = 1) with rfl | rfl
  · have c0 := eq_t h ((0 : Nat) : Int) 0 rfl
    have c1 := eq_f h ((0 : Nat) : Int) 1 (by decide)
    exact ⟨by simp only [tZ, wipe, Ss.ev, S.ev, E.ev, Es.ev, Eo.ev, It.ev, Tg.as, Tgs.as, arrange, callM, Rs.bind, Rs.at, rsO, Option.bind, Option.map, getV_z, getV_s, gv_int, gv_bl, gv_str, gv_ref, gv_lst, gv_tup, gv_dct, gv_non, startE, List.map, List.set_cons_zero, List.set_cons_succ, List.replicate, List.cons_append, List.nil_append, List.getElem?_cons_zero, List.getElem?_cons_succ, truth_bl, Bool.not_true, Bool.not_false, fin, P.put, lim, List.length_nil, List.length_cons, Nat.reduceAdd, Nat.reduceSub, Nat.reduceLeDiff, if_true, Rf.then, Rf.res, noexc, setAll, isn_non, isD_non, cop_lt, cop_le, cop_gt, cop_ge, bop_add, bop_sub, bound, hM, c0]; rfl, fun y => by simp only [tZ, wipe, Ss.ev, S.ev, E.ev, Es.ev, Eo.ev, It.ev, Tg.as, Tgs.as, arrange, callM, Rs.bind, Rs.at, rsO, Option.bind, Option.map, getV_z, getV_s, gv_int, gv_bl, gv_str, gv_ref, gv_lst, gv_tup, gv_dct, gv_non, startE, List.map, List.set_cons_zero, List.set_cons_succ, List.replicate, List.cons_append, List.nil_append, List.getElem?_cons_zero, List.getElem?_cons_succ, truth_bl, Bool.not_true, Bool.not_false, fin, P.put, lim, List.length_nil, List.length_cons, Nat.reduceAdd, Nat.reduceSub, Nat.reduceLeDiff, if_true, Rf.then, Rf.res, noexc, setAll, isn_non, isD_non, cop_lt, cop_le, cop_gt, cop_ge, bop_add, bop_sub, bound, hVx, c1]; rfl⟩
  · have c0 := eq_f h ((1 : Nat) : Int) 0 (by decide)
    have c1 := eq_t h ((1 : Nat) : Int) 1 rfl
    have t1 : callPure (run prog (n + 1)) 38 [mat false m] h = .ok (mat true m) h := by
      have := pure_ok (h := h) (sm1 smr) (r_turned n smr []) (D.sm_nref _ (turnD_sm (mat false m) smr))
      rw [← turn_mat r]
      exact this
    refine ⟨by simp only [tZ, wipe, Ss.ev, S.ev, E.ev, Es.ev, Eo.ev, It.ev, Tg.as, Tgs.as, arrange, callM, Rs.bind, Rs.at, rsO, Option.bind, Option.map, getV_z, getV_s, gv_int, gv_bl, gv_str, gv_ref, gv_lst, gv_tup, gv_dct, gv_non, startE, List.map, List.set_cons_zero, List.set_cons_succ, List.replicate, List.cons_append, List.nil_append, List.getElem?_cons_zero, List.getElem?_cons_succ, truth_bl, Bool.not_true, Bool.not_false, fin, P.put, lim, List.length_nil, List.length_cons, Nat.reduceAdd, Nat.reduceSub, Nat.reduceLeDiff, if_true, Rf.then, Rf.res, noexc, setAll, isn_non, isD_non, cop_lt, cop_le, cop_gt, cop_ge, bop_add, bop_sub, bound, hM, c0, t1]; rfl, fun y => ?_⟩
    have ti := isTys_lst (h := h) hV
    show _ = Rs.ok (turnD V) h
    cases e : isLst V with
    | false =>
      rw [e] at ti
      have : turnD V = V := by cases V <;> first | rfl | cases e
      rw [this]
      simp only [tZ, wipe, Ss.ev, S.ev, E.ev, Es.ev, Eo.ev, It.ev, Tg.as, Tgs.as, arrange, callM, Rs.bind, Rs.at, rsO, Option.bind, Option.map, getV_z, getV_s, gv_int, gv_bl, gv_str, gv_ref, gv_lst, gv_tup, gv_dct, gv_non, startE, List.map, List.set_cons_zero, List.set_cons_succ, List.replicate, List.cons_append, List.nil_append, List.getElem?_cons_zero, List.getElem?_cons_succ, truth_bl, Bool.not_true, Bool.not_false, fin, P.put, lim, List.length_nil, List.length_cons, Nat.reduceAdd, Nat.reduceSub, Nat.reduceLeDiff, if_true, Rf.then, Rf.res, noexc, setAll, isn_non, isD_non, cop_lt, cop_le, cop_gt, cop_ge, bop_add, bop_sub, bound, hVx, c1, ti]
    | true =>
      rw [e] at ti
      obtain ⟨ds, rfl⟩ : ∃ ds, V = .lst ds := by
        cases V <;> first
          | exact ⟨_, rfl⟩
          | cases e
      have t2 : callPure (run prog (n + 1)) 38 [.lst ds] h = .ok (turnD (.lst ds)) h := pure_ok (h := h) (sm1 hV) (r_turned n hV []) (D.sm_nref _ (turnD_sm (.lst ds) hV))
      simp only [tZ, wipe, Ss.ev, S.ev, E.ev, Es.ev, Eo.ev, It.ev, Tg.as, Tgs.as, arrange, callM, Rs.bind, Rs.at, rsO, Option.bind, Option.map, getV_z, getV_s, gv_int, gv_bl, gv_str, gv_ref, gv_lst, gv_tup, gv_dct, gv_non, startE, List.map, List.set_cons_zero, List.set_cons_succ, List.replicate, List.cons_append, List.nil_append, List.getElem?_cons_zero, List.getElem?_cons_succ, truth_bl, Bool.not_true, Bool.not_false, fin, P.put, lim, List.length_nil, List.length_cons, Nat.reduceAdd, Nat.reduceSub, Nat.reduceLeDiff, if_true, Rf.then, Rf.res, noexc, setAll, isn_non, isD_non, cop_lt, cop_le, cop_gt, cop_ge, bop_add, bop_sub, bound, hVx, c1, ti, t2]
end K02
end TB

end

section
set_option Elab.async false
set_option linter.all false
set_option maxRecDepth 100000
set_option maxHeartbeats 1000000
namespace TB
namespace K02
open PySem
theorem told_th {H : Lh} {k : Nat} {F x : D} (hk : H[k]? = some (.lst [.str "told", F])) (hx : F.bindRef (thawF H 7) = some x) (sx : x.sm = true) : thaws H [.ref k, .lst [.str "told", x]] = some [.lst [.str "told", x], .lst [.str "told", x]] := by
  have st : (D.lst [.str "told", x]).sm = true := lst_sm (by simp) (sms_cons nm_sm.2.2.2.2 (sms_cons sx rfl))
  have t1 : thaw H deep (.ref k) = some (.lst [.str "told", x]) := by
    refine thawF_lst hk ?_
    show (some (D.str "told")).bind (fun d' => ((F.bindRef (thawF H 7)).bind fun d' => (some []).map (d' :: ·)).map (d' :: ·)) = _
    rw [hx]; rfl
  have t2 : thaw H deep (.lst [.str "told", x]) = some (.lst [.str "told", x]) := thaw_nref (D.sm_nref _ st)
  show (thaw _ deep _).bind (fun y => ((thaw _ deep _).bind fun y => (some []).map (y :: ·)).map (y :: ·)) = _
  rw [t1, t2]; rfl
theorem told_sm {x : D} (sx : x.sm = true) {k : Nat} (hx : x.dep ≤ k) : (D.lst [.str "told", x]).sm = true ∧ (D.lst [.str "told", x]).dep ≤ k + 1 := by
  refine ⟨lst_sm (by simp) (sms_cons nm_sm.2.2.2.2 (sms_cons sx rfl)), ?_⟩
  show max 0 (max x.dep 0) + 1 ≤ k + 1
  omega
theorem app_at {h : Lh} {o : O} : (h ++ [o])[h.length]? = some o := by rw [List.getElem?_append_right (Nat.le_refl _), Nat.sub_self]; rfl
theorem kp_item {h : Lh} {a b : D} : item h (.lst [a, b]) (.int 0) = some a := item_vw (g := .lst [a, b]) (k := 0) rfl (by omega) rfl rfl
/-- a turn that tells a matrix -/
theorem turn_mat' (n : Nat) {w : Nat} (w5 : w < 5) (w1 : w ≠ 1) {m M : List (List D)} {s s' : Nat} (r : Rect m s) (rM : Rect M s') {V : D} (hV : V.sm = true) (t : Nat) (ht : t < 2) {h h' : Lh} {F : D}
    (fn : run prog (n + 8) (23 + w) [mat (decide (t = 1)) m, secD t V] h = .ok F h') (g : GridAt h' F M) (b : Bool) (K2 : D) (x7 x8 x9 x10 : Option D) :
    ∃ y7 y8 y9 h2, tlB.ev ⟨run prog (n + 9), prog.loop, prog.sub⟩ (tZ (w : Nat) (mat false m) V (mat false M) b (.lst [mat false m, K2]) (some (.int (t : Nat))) x7 x8 x9 x10) h = .ok (.nx (tZ (w : Nat) (mat false m) V (mat false M) (!b) (.lst [mat false m, K2]) (some (.int (t : Nat))) y7 y8 y9 x10)) h2 := by
  have nM : nx (mat (decide (t = 1)) m) = true := nx_sq _ _
  have nS := secD_nx t hV
  obtain ⟨a1, a2⟩ := tl_args (n + 8) r hV t ht (w : Nat) (mat false M) b (.lst [mat false m, K2]) x7 x8 x9 x10 h
  have mt := met_told (n := n + 8) (b := b) (met_fn (n := n + 8) (b := b) (h := h) w5 nM nS) fn
  have hk : (h' ++ [O.lst [.str "told", F]])[h'.length]? = some (.lst [.str "told", F]) := app_at
  have gp := g.push (.lst [.str "told", F])
  have l1 := rM.l1
  have l2 := rM.l2
  have w2 := rM.w2
  have th := told_th hk (gp.thaw (fun x hx => D.sm_nref _ (rM.row_sm false x hx)) 4) (rM.sm false)
  obtain ⟨st, dt⟩ := told_sm (rM.sm false) (rect_dep (k := false) fun x hx y hy => (rM.hr x hx).2 y hy)
  have sn := snap_ok (n := n + 8) (h := h' ++ [O.lst [.str "told", F]]) st (by omega) th
  have a3 := rows_ev ⟨run prog (n + 9), prog.loop, prog.sub⟩ 7 (k := decide (t = 1)) r (Z := tZ (w : Nat) (mat false m) V (mat false M) b (.lst [mat false m, K2]) (some (.int (t : Nat))) (some (mat (decide (t = 1)) m)) (some (secD t V)) (some (.ref h'.length)) x10) (getV_z (s := []) nM) (fun x hx => getV_z (s := []) hx) (h' ++ [O.lst [.str "told", F]])
  have sm := c_same (n + 8) (r.sm false) (Nat.le_trans (rect_dep (k := false) fun x hx y hy => (r.hr x hx).2 y hy) (by omega)) (h' ++ [O.lst [.str "told", F]])
  have ne : cop (h' ++ [O.lst [.str "told", F]]) .ne (.int (w : Nat)) (.int 1) = some true := by rw [ne_int, decide_eq_false (by omega)]; rfl
  obtain ⟨c, f, bd, rfl, hf, hr⟩ := gp.ex
  have lf := (List.getElem?_eq_some_iff.mp hf).1
  have cf : c ≠ f := by omega
  have h0 := hr 0 (by omega)
  have flt : f < h'.length := by
    obtain ⟨c', f', _, e', hf', _⟩ := g.ex
    cases e'
    exact (List.getElem?_eq_some_iff.mp hf').1
  have i1 : item (h' ++ [O.lst [.str "told", .ref f]]) (.ref h'.length) (.int 1) = some (.ref f) := item_ref hk (by decide) (k := 1) rfl rfl
  have i2 : item (h' ++ [O.lst [.str "told", .ref f]]) (.ref f) (.int 0) = some (.ref (c + 0)) := item_ref hf (by decide) (k := 0) (by
    unfold place
    rw [List.length_map, List.length_range, if_pos (by omega), if_pos (by omega)]; rfl) (by rw [List.getElem?_map, List.getElem?_range (by omega)]; rfl)
  have lr : M[0].length < 1000 := by rw [(rM.hr _ (List.getElem_mem _)).1]; omega
  have hk' : ((h' ++ [O.lst [.str "told", .ref f]]).set (c + 0) (.lst (M[0] ++ [.int 0])))[h'.length]? = some (.lst [.str "told", .ref f]) := by rw [List.getElem?_set_ne (by omega)]; exact hk
  have hg' : ((h' ++ [O.lst [.str "told", .ref f]]).set (c + 0) (.lst (M[0] ++ [.int 0])))[f]? = some (.lst ((List.range M.length).map fun i => .ref (c + i))) := by rw [List.getElem?_set_ne (by omega)]; exact hf
  have i3 := item_ref hk' (i := 1) (by decide) (k := 1) (a := .ref f) rfl rfl
  exact ⟨_, _, _, _, tl_mat nM nS (nx_sq false _) rfl a1 (a2 _) mt sn a3 kp_item sm ne i1 i2 h0 lr i3 hg' (by rw [List.length_map, List.length_range]; omega)⟩
/-- a turn that tells a vector -/
theorem turn_vec (n : Nat) {m : List (List D)} {s : Nat} (r : Rect m s) {vs : List D} (hv : ∀ d ∈ vs, isNum d = true) (lv : vs.length ≤ 20) {V : D} (hV : V.sm = true) (t : Nat) (ht : t < 2) {h : Lh}
    (fn : run prog (n + 8) (23 + 1) [mat (decide (t = 1)) m, secD t V] h = .ok (.ref h.length) (h ++ [.lst vs])) (b : Bool) (K2 : D) (x7 x8 x9 x10 : Option D) :
    ∃ y7 y8 y9 h2, tlB.ev ⟨run prog (n + 9), prog.loop, prog.sub⟩ (tZ 1 (mat false m) V (.lst vs) b (.lst [mat false m, K2]) (some (.int (t : Nat))) x7 x8 x9 x10) h = .ok (.nx (tZ 1 (mat false m) V (.lst vs) (!b) (.lst [mat false m, K2]) (some (.int (t : Nat))) y7 y8 y9 x10)) h2 := by
  have nM : nx (mat (decide (t = 1)) m) = true := nx_sq _ _
  have nS := secD_nx t hV
  obtain ⟨a1, a2⟩ := tl_args (n + 8) r hV t ht 1 (.lst vs) b (.lst [mat false m, K2]) x7 x8 x9 x10 h
  have mt := met_told (n := n + 8) (b := b) (met_fn (n := n + 8) (w := 1) (b := b) (h := h) (by omega) nM nS) fn
  have hk : (h ++ [O.lst vs] ++ [O.lst [.str "told", .ref h.length]])[(h ++ [O.lst vs]).length]? = some (.lst [.str "told", .ref h.length]) := app_at
  have hg : (h ++ [O.lst vs] ++ [O.lst [.str "told", .ref h.length]])[h.length]? = some (.lst vs) := by
    rw [List.getElem?_append_left (by simp)]; exact app_at
  have sv : (D.lst vs).sm = true := lst_sm (by omega) (sms_of fun d hd => num_sm (hv d hd))
  have th := told_th hk (thawF_lst (n := 6) hg (binds_nref _ _ (nums_nref hv))) sv
  have dv : (D.lst vs).dep ≤ 1 := by show deps vs + 1 ≤ 1; rw [deps_num hv]; omega
  obtain ⟨st, dt⟩ := told_sm sv dv
  have sn := snap_ok (n := n + 8) (h := h ++ [O.lst vs] ++ [O.lst [.str "told", .ref h.length]]) st (by omega) th
  have a3 := rows_ev ⟨run prog (n + 9), prog.loop, prog.sub⟩ 7 (k := decide (t = 1)) r (Z := tZ 1 (mat false m) V (.lst vs) b (.lst [mat false m, K2]) (some (.int (t : Nat))) (some (mat (decide (t = 1)) m)) (some (secD t V)) (some (.ref (h ++ [O.lst vs]).length)) x10) (getV_z (s := []) nM) (fun x hx => getV_z (s := []) hx) (h ++ [O.lst vs] ++ [O.lst [.str "told", .ref h.length]])
  have sm := c_same (n + 8) (r.sm false) (Nat.le_trans (rect_dep (k := false) fun x hx y hy => (r.hr x hx).2 y hy) (by omega)) (h ++ [O.lst vs] ++ [O.lst [.str "told", .ref h.length]])
  have ne : cop (h ++ [O.lst vs] ++ [O.lst [.str "told", .ref h.length]]) .ne (.int 1) (.int 1) = some false := by rw [ne_int, decide_eq_true rfl]; rfl
  have i1 : item (h ++ [O.lst vs] ++ [O.lst [.str "told", .ref h.length]]) (.ref (h ++ [O.lst vs]).length) (.int 1) = some (.ref h.length) := item_ref hk (by decide) (k := 1) rfl rfl
  exact ⟨_, _, _, _, tl_vec nM nS rfl rfl a1 (a2 _) mt sn a3 kp_item sm ne i1 hg (by omega)⟩
/-! ### the two turns -/
abbrev kO : E := .ite (.and (.isi [.list] (.var 2)) (.cmp .eq (.var 0) (.cst (.int 1)))) (.bi .list true (.cons (.var 2) .nil)) (.var 2)
theorem kO_ev (cx : Cx) {w : Int} {M V du : D} {b : Bool} (hV : V.sm = true) (x5 x6 x7 x8 x9 x10 : Option D) (h : Lh) : kO.ev cx [some (.int w), some M, some V, some du, some (.bl b), x5, x6, x7, x8, x9, x10] h = .ok V h := by
  have nV := sm_nx hV
  have ti := isTys_lst (h := h) hV
  have ec := eq_int h w 1
  cases e : isLst V with
  | false =>
    rw [e] at ti
    simp only [wipe, Ss.ev, S.ev, E.ev, Es.ev, Eo.ev, It.ev, Tg.as, Tgs.as, arrange, callM, Rs.bind, Rs.at, rsO, Option.bind, Option.map, getV_z, getV_s, gv_int, gv_bl, gv_str, gv_ref, gv_lst, gv_tup, gv_dct, gv_non, startE, List.map, List.set_cons_zero, List.set_cons_succ, List.replicate, List.cons_append, List.nil_append, List.getElem?_cons_zero, List.getElem?_cons_succ, truth_bl, Bool.not_true, Bool.not_false, fin, P.put, lim, List.length_nil, List.length_cons, Nat.reduceAdd, Nat.reduceSub, Nat.reduceLeDiff, if_true, Rf.then, Rf.res, noexc, setAll, isn_non, isD_non, cop_lt, cop_le, cop_gt, cop_ge, bop_add, bop_sub, bound, nV, ti]
  | true =>
    rw [e] at ti
    obtain ⟨ds, rfl⟩ : ∃ ds, V = .lst ds := by
      cases V <;> first
        | exact ⟨_, rfl⟩
        | cases e
    have bl : bfn h .list [D.lst ds] = some (.l ds) := rfl
    by_cases z : w = 1
    · rw [decide_eq_true z] at ec
      simp only [wipe, Ss.ev, S.ev, E.ev, Es.ev, Eo.ev, It.ev, Tg.as, Tgs.as, arrange, callM, Rs.bind, Rs.at, rsO, Option.bind, Option.map, getV_z, getV_s, gv_int, gv_bl, gv_str, gv_ref, gv_lst, gv_tup, gv_dct, gv_non, startE, List.map, List.set_cons_zero, List.set_cons_succ, List.replicate, List.cons_append, List.nil_append, List.getElem?_cons_zero, List.getElem?_cons_succ, truth_bl, Bool.not_true, Bool.not_false, fin, P.put, lim, List.length_nil, List.length_cons, Nat.reduceAdd, Nat.reduceSub, Nat.reduceLeDiff, if_true, Rf.then, Rf.res, noexc, setAll, isn_non, isD_non, cop_lt, cop_le, cop_gt, cop_ge, bop_add, bop_sub, bound, nV, ti, ec, bl]
    · rw [decide_eq_false z] at ec
      simp only [wipe, Ss.ev, S.ev, E.ev, Es.ev, Eo.ev, It.ev, Tg.as, Tgs.as, arrange, callM, Rs.bind, Rs.at, rsO, Option.bind, Option.map, getV_z, getV_s, gv_int, gv_bl, gv_str, gv_ref, gv_lst, gv_tup, gv_dct, gv_non, startE, List.map, List.set_cons_zero, List.set_cons_succ, List.replicate, List.cons_append, List.nil_append, List.getElem?_cons_zero, List.getElem?_cons_succ, truth_bl, Bool.not_true, Bool.not_false, fin, P.put, lim, List.length_nil, List.length_cons, Nat.reduceAdd, Nat.reduceSub, Nat.reduceLeDiff, if_true, Rf.then, Rf.res, noexc, setAll, isn_non, isD_non, cop_lt, cop_le, cop_gt, cop_ge, bop_add, bop_sub, bound, nV, ti, ec]
theorem told_run (n : Nat) {w : Int} {m : List (List D)} {s : Nat} (r : Rect m s) {V du : D} (hV : V.sm = true) (hd : nx du = true) (b : Bool)
    (tn : ∀ (t : Nat), t < 2 → ∀ (b : Bool) (x7 x8 x9 x10 : Option D) (h : Lh), ∃ y7 y8 y9 h2, tlB.ev ⟨run prog (n + 9), prog.loop, prog.sub⟩ (tZ w (mat false m) V du b (.lst [mat false m, V]) (some (.int (t : Nat))) x7 x8 x9 x10) h = .ok (.nx (tZ w (mat false m) V du (!b) (.lst [mat false m, V]) (some (.int (t : Nat))) y7 y8 y9 x10)) h2) :
    ∃ h', run prog (n + 10) i__law_told [.int w, mat false m, V, du, .bl b] [] = .ok (.bl true) h' := by
  have nM : nx (mat false m) = true := nx_sq _ _
  have nV := sm_nx hV
  obtain ⟨s', h', ⟨b', x6, x7, x8, x9, rfl⟩, e⟩ := fr_inv (cx := ⟨run prog (n + 9), prog.loop, prog.sub⟩) (t := .nm 6) (it := .r1 (.cst (.int 2))) (b := tlB) (s := tZ w (mat false m) V du b (.lst [mat false m, V]) none none none none none) (h := []) (src := .rng 0 1 2) (ds := iotaD 2)
    (Inv := fun _ s h' => ∃ b' x6 x7 x8 x9, s = tZ w (mat false m) V du b' (.lst [mat false m, V]) x6 x7 x8 x9 none) rfl (fun h => rfl) (fun h i hi => rng_at hi) ⟨b, none, none, none, none, rfl⟩ (by
      rintro t d s h hd ⟨b', x6, x7, x8, x9, rfl⟩
      obtain ⟨ht, rfl⟩ := iota_get hd
      obtain ⟨y7, y8, y9, h2, e⟩ := tn t ht b' x7 x8 x9 none h
      exact ⟨_, h2, ⟨_, _, _, _, _, rfl⟩, e⟩)
  refine ⟨h', ?_⟩
  rw [run_env (fd := f__law_told) (env := [some (.int w), some (mat false m), some V, some du, some (.bl b), none, none, none, none, none, none]) rfl rfl rfl]
  have k1 := rows_ev ⟨run prog (n + 9), prog.loop, prog.sub⟩ 1 (k := false) r (Z := [some (.int w), some (mat false m), some V, some du, some (.bl b), none, none, none, none, none, none]) (getV_z (s := []) nM) (fun x hx => getV_z (s := []) hx) []
  have k2 := kO_ev ⟨run prog (n + 9), prog.loop, prog.sub⟩ (w := w) (M := mat false m) (du := du) (b := b) hV none none none none none none []
  rw [show f__law_told.body = .cons (.asg (.nm 5) (.lst true (.cons (tR 1) (.cons kO .nil)))) (.cons (.fr (.nm 6) (.r1 (.cst (.int 2))) tlB) (.cons (.ret (.cst (.bl true))) .nil)) from rfl]
  generalize tR 1 = A at k1
  generalize kO = B at k2
  have k5 : (S.asg (.nm 5) (.lst true (.cons A (.cons B .nil)))).ev ⟨run prog (n + 9), prog.loop, prog.sub⟩ [some (.int w), some (mat false m), some V, some du, some (.bl b), none, none, none, none, none, none] [] = .ok (.nx (tZ w (mat false m) V du b (.lst [mat false m, V]) none none none none none)) [] := by
    simp only [wipe, Ss.ev, S.ev, E.ev, Es.ev, Eo.ev, It.ev, Tg.as, Tgs.as, arrange, callM, Rs.bind, Rs.at, rsO, Option.bind, Option.map, getV_z, getV_s, gv_int, gv_bl, gv_str, gv_ref, gv_lst, gv_tup, gv_dct, gv_non, startE, List.map, List.set_cons_zero, List.set_cons_succ, List.replicate, List.cons_append, List.nil_append, List.getElem?_cons_zero, List.getElem?_cons_succ, truth_bl, Bool.not_true, Bool.not_false, fin, P.put, lim, List.length_nil, List.length_cons, Nat.reduceAdd, Nat.reduceSub, Nat.reduceLeDiff, if_true, Rf.then, Rf.res, noexc, setAll, isn_non, isD_non, cop_lt, cop_le, cop_gt, cop_ge, eq_int, ne_int, bop_add, bop_sub, bound, k1, k2]
  generalize tlB = T at e
  simp only [Ss.ev, k5, Rf.then, e]
  rfl
theorem c_told_mat (n : Nat) {w : Nat} (w5 : w < 5) (w1 : w ≠ 1) {m M : List (List D)} {s s' : Nat} (r : Rect m s) (rM : Rect M s') {V : D} (hV : V.sm = true)
    (fn : ∀ t, t < 2 → ∀ h, ∃ F h', run prog (n + 8) (23 + w) [mat (decide (t = 1)) m, secD t V] h = .ok F h' ∧ GridAt h' F M) (b : Bool) (h : Lh) :
    callPure (run prog (n + 10)) 45 [.int (w : Nat), mat false m, V, mat false M, .bl b] h = .ok (.bl true) h := by
  obtain ⟨h', e⟩ := told_run n (w := (w : Nat)) r (V := V) (du := mat false M) hV (nx_sq _ _) b fun t ht b x7 x8 x9 x10 h => by
    obtain ⟨F, h1, e, g⟩ := fn t ht h
    exact turn_mat' n w5 w1 r rM hV t ht e g b V x7 x8 x9 x10
  refine pure_ok (h1 := h') ?_ e rfl
  show ((mat false m).nref && (V.nref && ((mat false M).nref && true))) = true
  rw [mat_nref r, D.sm_nref _ hV, mat_nref rM]; rfl
theorem c_told_vec (n : Nat) {m : List (List D)} {s : Nat} (r : Rect m s) {vs : List D} (hv : ∀ d ∈ vs, isNum d = true) (lv : vs.length ≤ 20) {V : D} (hV : V.sm = true)
    (fn : ∀ t, t < 2 → ∀ h, run prog (n + 8) 24 [mat (decide (t = 1)) m, secD t V] h = .ok (.ref h.length) (h ++ [.lst vs])) (b : Bool) (h : Lh) :
    callPure (run prog (n + 10)) 45 [.int 1, mat false m, V, .lst vs, .bl b] h = .ok (.bl true) h := by
  obtain ⟨h', e⟩ := told_run n (w := 1) r (V := V) (du := .lst vs) hV rfl b fun t ht b x7 x8 x9 x10 h => turn_vec n r hv lv hV t ht (fn t ht h) b V x7 x8 x9 x10
  refine pure_ok (h1 := h') ?_ e rfl
  show ((mat false m).nref && (V.nref && (nrefs vs && true))) = true
  rw [mat_nref r, D.sm_nref _ hV, nums_nref hv]; rfl
end K02
end TB

end

section
set_option Elab.async false
set_option linter.all false
set_option maxRecDepth 100000
set_option maxHeartbeats 1000000
namespace TB
namespace K02
open PySem
/-! ### the law's product -/
def lcols (m l : List (List D)) (w : Nat) : List D := (List.range w).map fun j => .lst (appl m (colD l j))
abbrev pC : E := .comp true [6] (.nm 6) (.ex (.var 1)) .no (.ix (.var 6) (.var 3))
abbrev pC1 : E := .comp true [3] (.nm 3) (.r1 (.bi .len true (.cons (.ix (.var 1) (.cst (.int 0))) .nil))) .no (.call .pure 34 (.cons (.var 0) (.cons pC .nil)) [0, 1])
abbrev pC2 : E := .comp true [5] (.nm 5) (.ex (.var 2)) .no (.ix (.var 5) (.var 4))
abbrev pC3 : E := .comp true [4] (.nm 4) (.r1 (.bi .len true (.cons (.var 0) .nil))) .no pC2
theorem pcall {cx : Cx} {Z : Env} {M V X : D} {C : E} {h : Lh} (g0 : getV Z 0 = some M) (c : C.ev cx Z h = .ok V h) (e : callPure cx.call 34 [M, V] h = .ok X h) : (E.call .pure 34 (.cons (.var 0) (.cons C .nil)) [0, 1]).ev cx Z h = .ok X h := by
  simp only [E.ev, Es.ev, arrange, callM, Rs.bind, rsO, g0, c, Option.bind, Option.map, List.getElem?_cons_zero, List.getElem?_cons_succ, e]
theorem pC1_ev (n : Nat) {m l : List (List D)} {w w' : Nat} (r : Rect m w) (r' : Rect l w') (hw : l.length = w) (h : Lh) : pC1.ev ⟨run prog (n + 2), prog.loop, prog.sub⟩ [some (mat false m), some (mat false l), none, none, none, none, none] h = .ok (.lst (lcols m l w')) h := by
  have l1' := r'.l1
  have w2' := r'.w2
  have nM : nx (mat false m) = true := nx_sq _ _
  have nL : nx (mat false l) = true := nx_sq _ _
  have v1 : getV [some (mat false m), some (mat false l), none, none, none, none, none] 1 = some (mat false l) := getV_z (s := []) nL
  have i0 : item h (mat false l) (.int 0) = some (sq false l[0]) := item_mat false r' (j := 0) l1'
  have l0 := len_sq h false l[0]
  rw [(r'.hr _ (List.getElem_mem l1')).1] at l0
  rw [rng_map (fun j => .lst (appl m (colD l j))) (r1_ev (w := w') (by omega) (by simp only [E.ev, Es.ev, Rs.bind, rsO, v1, i0, l0, fin, P.put])) (by omega) fun j hj => ?_]
  · rfl
  · have cn := colD_num r' j
    have cl := colD_len l j
    have c := col_ev (cx := ⟨run prog (n + 2), prog.loop, prog.sub⟩) (fz := true) (k := false) r' hj h (own := [6]) (t := 6) (env := [some (mat false m), some (mat false l), none, some (.int j), none, none, none]) (ma := 1) (jv := 3) (getV_z (s := []) nL) (fun x => rfl) (fun x => rfl)
    exact pcall (getV_z (s := []) nM) (c.trans rfl) (c_lapplied n (k := false) r cn (by rw [cl, hw]) h)
theorem ix_ev {cx : Cx} {Z : Env} {a b : Nat} {x y z : D} {h : Lh} (g1 : getV Z a = some x) (g2 : getV Z b = some y) (it : item h x y = some z) : (E.ix (.var a) (.var b)).ev cx Z h = .ok z h := by
  simp only [E.ev, Rs.bind, rsO, g1, g2, it]
theorem pC2_ev (cx : Cx) {m l : List (List D)} {w' i : Nat} (hw : w' ≤ 20) (hi : i < m.length) (lm : m.length ≤ 20) (x0 x1 x3 x5 x6 : Option D) (h : Lh) : pC2.ev cx [x0, x1, some (.lst (lcols m l w')), x3, some (.int i), x5, x6] h = .ok (.lst ((List.range w').map fun j => dot m[i] (colD l j))) h := by
  rw [comp_ev (src := .seq (.lst (lcols m l w'))) (ds := lcols m l w') (fun d => [((row d)[i]?).getD .non]) rfl rfl (by unfold lcols; rw [List.length_map, List.length_range]; unfold lim; omega) fun x hx acc => step_map acc ?_, map_of]
  · have : (lcols m l w').map (fun d => ((row d)[i]?).getD .non) = (List.range w').map fun j => dot m[i] (colD l j) := by
      unfold lcols
      rw [List.map_map]
      congr 1
      funext j
      show ((appl m (colD l j))[i]?).getD .non = _
      unfold appl
      rw [List.getElem?_map, List.getElem?_eq_getElem hi]
      rfl
    rw [this]; rfl
  · obtain ⟨j, hj, rfl⟩ := List.mem_map.mp hx
    have la := appl_len m (colD l j)
    generalize appl m (colD l j) = X at la ⊢
    have g5 : getV ((wipe [x0, x1, some (.lst (lcols m l w')), x3, some (.int i), x5, x6] [5]).set 5 (some (.lst (X)))) 5 = some (.lst (X)) := rfl
    have g4 : getV ((wipe [x0, x1, some (.lst (lcols m l w')), x3, some (.int i), x5, x6] [5]).set 5 (some (.lst (X)))) 4 = some (.int i) := rfl
    have it : item h (.lst (X)) (.int i) = some ((X)[i]'(by omega)) := item_sq false (by omega) (by omega)
    have e1 : (row (.lst (X)))[i]? = some ((X)[i]'(by omega)) := List.getElem?_eq_getElem _
    rw [e1]
    exact ix_ev g5 g4 it
theorem r_lproduct (n : Nat) {m l : List (List D)} {w w' : Nat} (r : Rect m w) (r' : Rect l w') (hw : l.length = w) (h : Lh) : run prog (n + 3) 43 [mat false m, mat false l] h = .ok (mat false (pr m l w')) h := by
  have l2 := r.l2
  have w2' := r'.w2
  have nM : nx (mat false m) = true := nx_sq _ _
  rw [run_env (n := n + 2) (fd := f__law_product) (env := [some (mat false m), some (mat false l), none, none, none, none, none]) (by rfl) rfl rfl]
  have e1 := pC1_ev n r r' hw h
  have e3 : pC3.ev ⟨run prog (n + 2), prog.loop, prog.sub⟩ [some (mat false m), some (mat false l), some (.lst (lcols m l w')), none, none, none, none] h = .ok (mat false (pr m l w')) h := by
    have v0 : getV [some (mat false m), some (mat false l), some (.lst (lcols m l w')), none, none, none, none] 0 = some (mat false m) := getV_z (s := []) nM
    have lm := len_mat h false m
    rw [rng_map (fun i => .lst ((List.range w').map fun j => dot ((m[i]?).getD []) (colD l j))) (r1_ev (w := m.length) (by omega) (by simp only [E.ev, Es.ev, Rs.bind, rsO, v0, lm, fin, P.put])) (by omega) fun i hi => ?_]
    · have : ((List.range m.length).map fun i => D.lst ((List.range w').map fun j => dot ((m[i]?).getD []) (colD l j))) = (pr m l w').map (sq false) := by
        apply List.ext_getElem?
        intro i
        unfold pr
        rw [List.getElem?_map, List.getElem?_map, List.getElem?_map]
        by_cases hi : i < m.length
        · rw [List.getElem?_range hi, List.getElem?_eq_getElem hi]
          show some (D.lst ((List.range w').map fun j => dot ((m[i]?).getD []) (colD l j))) = _
          rw [List.getElem?_eq_getElem hi]
          rfl
        · rw [List.getElem?_eq_none (show (List.range m.length).length ≤ i by simp; omega), List.getElem?_eq_none (show m.length ≤ i by omega)]
          rfl
      rw [this]; rfl
    · have e := pC2_ev ⟨run prog (n + 2), prog.loop, prog.sub⟩ (m := m) (l := l) (w' := w') w2' hi l2 (some (mat false m)) (some (mat false l)) none none none h
      rw [List.getElem?_eq_getElem hi]
      exact e
  show (b__law_product.ev _ _ _).res = _
  rw [show b__law_product = .cons (.asg (.nm 2) pC1) (.cons (.ret pC3) .nil) from rfl]
  generalize pC1 = A at e1
  generalize pC3 = B at e3
  simp only [wipe, Ss.ev, S.ev, E.ev, Es.ev, Eo.ev, It.ev, Tg.as, Tgs.as, arrange, callM, Rs.bind, Rs.at, rsO, Option.bind, Option.map, getV_z, getV_s, gv_int, gv_bl, gv_str, gv_ref, gv_lst, gv_tup, gv_dct, gv_non, startE, List.map, List.set_cons_zero, List.set_cons_succ, List.replicate, List.cons_append, List.nil_append, List.getElem?_cons_zero, List.getElem?_cons_succ, truth_bl, Bool.not_true, Bool.not_false, fin, P.put, lim, List.length_nil, List.length_cons, Nat.reduceAdd, Nat.reduceSub, Nat.reduceLeDiff, if_true, Rf.then, Rf.res, noexc, setAll, isn_non, isD_non, cop_lt, cop_le, cop_gt, cop_ge, eq_int, ne_int, bop_add, bop_sub, bound, e1, e3]
theorem c_lproduct (n : Nat) {m l : List (List D)} {w w' : Nat} (r : Rect m w) (r' : Rect l w') (hw : l.length = w) (h : Lh) : callPure (run prog (n + 3)) 43 [mat false m, mat false l] h = .ok (mat false (pr m l w')) h :=
  pure_ok (n2 (mat_nref r) (mat_nref r')) (r_lproduct n r r' hw []) (mat_nref (pr_rect r r'))
/-! ### the law's far powers -/
def grB : Ss := match b__law_great with
  | .cons _ (.cons (.fr _ _ b) _) => b
  | _ => .nil
theorem gr_yes {cx : Cx} {A F Q F' Q' : D} {a k y z : Int} {x5 x6 : Option D} {h : Lh} (hF : nx F = true) (hQ : nx Q = true) (e1 : bop h .shr (.int a) (.int k) = some (.v (.int y))) (e2 : bop h .band (.int y) (.int 1) = some (.v (.int z))) (tz : truth h (.int z) = some true) (c1 : callPure cx.call 43 [F, Q] h = .ok F' h) (c2 : callPure cx.call 43 [Q, Q] h = .ok Q' h) :
    grB.ev cx [some A, some (.int a), some F, some Q, some (.int k), x5, x6] h = .ok (.nx [some A, some (.int a), some F', some Q', some (.int k), x5, x6]) h := by
  simp only [grB, b__law_great, wipe, Ss.ev, S.ev, E.ev, Es.ev, Eo.ev, It.ev, Tg.as, Tgs.as, arrange, callM, Rs.bind, Rs.at, rsO, Option.bind, Option.map, getV_z, getV_s, gv_int, gv_bl, gv_str, gv_ref, gv_lst, gv_tup, gv_dct, gv_non, startE, List.map, List.set_cons_zero, List.set_cons_succ, List.replicate, List.cons_append, List.nil_append, List.getElem?_cons_zero, List.getElem?_cons_succ, truth_bl, Bool.not_true, Bool.not_false, fin, P.put, lim, List.length_nil, List.length_cons, Nat.reduceAdd, Nat.reduceSub, Nat.reduceLeDiff, if_true, Rf.then, Rf.res, noexc, setAll, isn_non, isD_non, cop_lt, cop_le, cop_gt, cop_ge, eq_int, ne_int, bop_add, bop_sub, bound, hF, hQ, e1, e2, tz, c1, c2]
theorem gr_no {cx : Cx} {A F Q Q' : D} {a k y z : Int} {x5 x6 : Option D} {h : Lh} (hF : nx F = true) (hQ : nx Q = true) (e1 : bop h .shr (.int a) (.int k) = some (.v (.int y))) (e2 : bop h .band (.int y) (.int 1) = some (.v (.int z))) (tz : truth h (.int z) = some false) (c2 : callPure cx.call 43 [Q, Q] h = .ok Q' h) :
    grB.ev cx [some A, some (.int a), some F, some Q, some (.int k), x5, x6] h = .ok (.nx [some A, some (.int a), some F, some Q', some (.int k), x5, x6]) h := by
  simp only [grB, b__law_great, wipe, Ss.ev, S.ev, E.ev, Es.ev, Eo.ev, It.ev, Tg.as, Tgs.as, arrange, callM, Rs.bind, Rs.at, rsO, Option.bind, Option.map, getV_z, getV_s, gv_int, gv_bl, gv_str, gv_ref, gv_lst, gv_tup, gv_dct, gv_non, startE, List.map, List.set_cons_zero, List.set_cons_succ, List.replicate, List.cons_append, List.nil_append, List.getElem?_cons_zero, List.getElem?_cons_succ, truth_bl, Bool.not_true, Bool.not_false, fin, P.put, lim, List.length_nil, List.length_cons, Nat.reduceAdd, Nat.reduceSub, Nat.reduceLeDiff, if_true, Rf.then, Rf.res, noexc, setAll, isn_non, isD_non, cop_lt, cop_le, cop_gt, cop_ge, eq_int, ne_int, bop_add, bop_sub, bound, hF, hQ, e1, e2, tz, c2]
theorem bit_ok {a k : Nat} (ha : a ≤ 200) (hk : k < 8) : Builtin.bitAnd ((a : Int) / 2 ^ ((k : Nat) : Int).toNat) 1 = if a / 2 ^ k % 2 = 1 then 1 else 0 := by
  have : ∀ a : Fin 201, ∀ k : Fin 8, Builtin.bitAnd (((a.val : Nat) : Int) / 2 ^ ((k.val : Nat) : Int).toNat) 1 = if a.val / 2 ^ k.val % 2 = 1 then 1 else 0 := by decide +kernel
  exact this ⟨a, by omega⟩ ⟨k, hk⟩
theorem r_lgreat (n : Nat) {A : List (List D)} {s : Nat} (ra : Rect A s) (la : A.length = s) {a : Nat} (ha : a ≤ 200) (h : Lh) : run prog (n + 4) 44 [mat false A, .int (a : Nat)] h = .ok (mat false (pwr A s a)) h := by
  have nA : nx (mat false A) = true := nx_sq _ _
  have w2 := ra.w2
  have lm := len_mat h false A
  rw [la] at lm
  obtain ⟨s', h', ⟨rfl, x4, rfl⟩, e⟩ := fr_inv (cx := ⟨run prog (n + 3), prog.loop, prog.sub⟩) (t := .nm 4) (it := .r1 (.cst (.int 8))) (b := grB) (s := [some (mat false A), some (.int (a : Nat)), some (mat false (unitM s)), some (mat false A), none, none, none]) (h := h) (src := .rng 0 1 8) (ds := iotaD 8)
    (Inv := fun k s' h' => h = h' ∧ ∃ x4, s' = [some (mat false A), some (.int (a : Nat)), some (mat false (pwr A s (a % 2 ^ k))), some (mat false (pwr A s (2 ^ k))), x4, none, none]) rfl (fun h => rfl) (fun h i hi => rng_at hi) ⟨rfl, none, by
      have e1 : a % 2 ^ 0 = 0 := Nat.mod_one a
      rw [e1, show (2 : Nat) ^ 0 = 1 from rfl, pw_one ra la]
      rfl⟩ (by
      rintro k d s' h' hd ⟨rfl, x4, rfl⟩
      obtain ⟨hk, rfl⟩ := iota_get hd
      have f1 := pw_ok ra la (a % 2 ^ k)
      have f2 := pw_ok ra la (2 ^ k)
      have c1 := c_lproduct n f1.1 f2.1 f2.2 h
      rw [pw_add ra la (2 ^ k) (a % 2 ^ k)] at c1
      have c2 := c_lproduct n f2.1 f2.1 f2.2 h
      rw [pw_add ra la (2 ^ k) (2 ^ k)] at c2
      have e1 : bop h .shr (.int (a : Nat)) (.int (k : Nat)) = some (.v (.int ((a : Int) / 2 ^ ((k : Nat) : Int).toNat))) := by
        show (if (0 : Int) ≤ ((k : Nat) : Int) then some (P.v (D.int ((a : Int) / 2 ^ ((k : Nat) : Int).toNat))) else none) = _
        rw [if_pos (by omega)]
      have e2 : bop h .band (.int ((a : Int) / 2 ^ ((k : Nat) : Int).toNat)) (.int 1) = some (.v (.int (if a / 2 ^ k % 2 = 1 then 1 else 0))) := by rw [← bit_ok ha hk]; rfl
      have pk : (2 : Nat) ^ (k + 1) = 2 ^ k + 2 ^ k := by rw [Nat.pow_succ]; omega
      have md := Nat.mod_pow_succ (x := a) (b := 2) (k := k)
      by_cases z : a / 2 ^ k % 2 = 1
      · rw [if_pos z] at e2
        rw [z, Nat.mul_one] at md
        refine ⟨_, _, ⟨rfl, some (.int (k : Nat)), ?_⟩, gr_yes (nx_sq _ _) (nx_sq _ _) e1 e2 rfl c1 c2⟩
        rw [md, pk]
      · rw [if_neg z] at e2
        have z : a / 2 ^ k % 2 = 0 := by omega
        have md : a % 2 ^ (k + 1) = a % 2 ^ k := by rw [md, z]; rfl
        refine ⟨_, _, ⟨rfl, some (.int (k : Nat)), ?_⟩, gr_no (nx_sq _ _) (nx_sq _ _) e1 e2 rfl c2⟩
        rw [md, pk])
  rw [iota_len] at e
  have e8 : a % 2 ^ 8 = a := Nat.mod_eq_of_lt (by omega)
  rw [e8] at e
  rw [run_env (n := n + 3) (fd := f__law_great) (env := [some (mat false A), some (.int (a : Nat)), none, none, none, none, none]) (by rfl) rfl rfl]
  have v0 : getV [some (mat false A), some (.int (a : Nat)), none, none, none, none, none] 0 = some (mat false A) := getV_z (s := []) nA
  have cu : (E.comp true [5] (.nm 5) (.r1 (.bi .len true (.cons (.var 0) .nil))) .no (.comp true [6] (.nm 6) (.r1 (.bi .len true (.cons (.var 0) .nil))) .no (.ite (.cmp .eq (.var 5) (.var 6)) (.cst (.int 0)) (.cst .non)))).ev ⟨run prog (n + 3), prog.loop, prog.sub⟩ [some (mat false A), some (.int (a : Nat)), none, none, none, none, none] h = .ok (mat false (unitM s)) h := by
    rw [rng_map (fun i => .lst ((List.range s).map fun j => if i = j then .int 0 else .non)) (r1_ev (w := s) (by omega) (by simp only [E.ev, Es.ev, Rs.bind, rsO, v0, lm, fin, P.put])) (by omega) fun i hi => ?_]
    · unfold unitM mat
      rw [List.map_map]
      rfl
    · have v0' : getV [some (mat false A), some (.int (a : Nat)), none, none, none, some (.int (i : Nat)), none] 0 = some (mat false A) := getV_z (s := []) nA
      exact (unit_row (i := i) (k := 6) (a := 5) (env := [some (mat false A), some (.int (a : Nat)), none, none, none, some (.int (i : Nat)), none]) (own := [6]) (r1_ev (w := s) (by omega) (by simp only [E.ev, Es.ev, Rs.bind, rsO, v0', lm, fin, P.put])) (by omega) (fun _ => rfl) (fun _ => rfl)).trans rfl
  rw [show f__law_great.body = .cons (.par [2, 3] (.cons (.comp true [5] (.nm 5) (.r1 (.bi .len true (.cons (.var 0) .nil))) .no (.comp true [6] (.nm 6) (.r1 (.bi .len true (.cons (.var 0) .nil))) .no (.ite (.cmp .eq (.var 5) (.var 6)) (.cst (.int 0)) (.cst .non)))) (.cons (.var 0) .nil))) (.cons (.fr (.nm 4) (.r1 (.cst (.int 8))) grB) (.cons (.ret (.var 2)) .nil)) from rfl]
  generalize E.comp true [5] (.nm 5) (.r1 (.bi .len true (.cons (.var 0) .nil))) .no (.comp true [6] (.nm 6) (.r1 (.bi .len true (.cons (.var 0) .nil))) .no (.ite (.cmp .eq (.var 5) (.var 6)) (.cst (.int 0)) (.cst .non))) = C at cu
  generalize grB = T at e
  have k5 : (S.par [2, 3] (.cons C (.cons (.var 0) .nil))).ev ⟨run prog (n + 3), prog.loop, prog.sub⟩ [some (mat false A), some (.int (a : Nat)), none, none, none, none, none] h = .ok (.nx [some (mat false A), some (.int (a : Nat)), some (mat false (unitM s)), some (mat false A), none, none, none]) h := by
    simp only [wipe, Ss.ev, S.ev, E.ev, Es.ev, Eo.ev, It.ev, Tg.as, Tgs.as, arrange, callM, Rs.bind, Rs.at, rsO, Option.bind, Option.map, getV_z, getV_s, gv_int, gv_bl, gv_str, gv_ref, gv_lst, gv_tup, gv_dct, gv_non, startE, List.map, List.set_cons_zero, List.set_cons_succ, List.replicate, List.cons_append, List.nil_append, List.getElem?_cons_zero, List.getElem?_cons_succ, truth_bl, Bool.not_true, Bool.not_false, fin, P.put, lim, List.length_nil, List.length_cons, Nat.reduceAdd, Nat.reduceSub, Nat.reduceLeDiff, if_true, Rf.then, Rf.res, noexc, setAll, isn_non, isD_non, cop_lt, cop_le, cop_gt, cop_ge, eq_int, ne_int, bop_add, bop_sub, bound, cu, nA]
  have nF : nx (mat false (pwr A s a)) = true := nx_sq _ _
  generalize mat false (pwr A s a) = F at e nF
  simp only [Ss.ev, k5, Rf.then, e]
  simp only [wipe, Ss.ev, S.ev, E.ev, Es.ev, Eo.ev, It.ev, Tg.as, Tgs.as, arrange, callM, Rs.bind, Rs.at, rsO, Option.bind, Option.map, getV_z, getV_s, gv_int, gv_bl, gv_str, gv_ref, gv_lst, gv_tup, gv_dct, gv_non, startE, List.map, List.set_cons_zero, List.set_cons_succ, List.replicate, List.cons_append, List.nil_append, List.getElem?_cons_zero, List.getElem?_cons_succ, truth_bl, Bool.not_true, Bool.not_false, fin, P.put, lim, List.length_nil, List.length_cons, Nat.reduceAdd, Nat.reduceSub, Nat.reduceLeDiff, if_true, Rf.then, Rf.res, noexc, setAll, isn_non, isD_non, cop_lt, cop_le, cop_gt, cop_ge, eq_int, ne_int, bop_add, bop_sub, bound, nF]
theorem c_lgreat (n : Nat) {A : List (List D)} {s : Nat} (ra : Rect A s) (la : A.length = s) {a : Nat} (ha : a ≤ 200) (h : Lh) : callPure (run prog (n + 4)) 44 [mat false A, .int (a : Nat)] h = .ok (mat false (pwr A s a)) h :=
  pure_ok (n2 (mat_nref ra) rfl) (r_lgreat n ra la ha []) (mat_nref (pw_ok ra la a).1)
end K02
end TB

end

section
set_option Elab.async false
set_option linter.all false
set_option maxRecDepth 100000
set_option maxHeartbeats 1000000
namespace TB
namespace K02
open PySem
theorem un_rect {m l : List (List D)} {w : Nat} (r : Rect m w) (r' : Rect l w) (hl : l.length = m.length) : Rect (un m l) w := by
  have le : (un m l).length = m.length := by unfold un; rw [List.length_zipWith]; omega
  refine ⟨by rw [le]; exact r.l1, by rw [le]; exact r.l2, r.w1, r.w2, fun x hx => ?_⟩
  obtain ⟨i, hi, rfl⟩ := List.getElem_of_mem hx
  unfold un at hi ⊢
  rw [List.length_zipWith] at hi
  rw [List.getElem_zipWith]
  have qa := r.hr m[i] (List.getElem_mem _)
  have qb := r'.hr l[i] (List.getElem_mem _)
  unfold unR
  refine ⟨by rw [List.length_zipWith, qa.1, qb.1]; omega, fun y hy => ?_⟩
  obtain ⟨j, hj, rfl⟩ := List.getElem_of_mem hy
  rw [List.getElem_zipWith]
  exact mx2_num _ _
theorem sh_rect {m : List (List D)} {w : Nat} (r : Rect m w) (x : D) : Rect (sh m x) w := by
  refine ⟨by unfold sh; rw [List.length_map]; exact r.l1, by unfold sh; rw [List.length_map]; exact r.l2, r.w1, r.w2, fun y hy => ?_⟩
  obtain ⟨z, hz, rfl⟩ := List.mem_map.mp hy
  refine ⟨by rw [List.length_map]; exact (r.hr z hz).1, fun d hd => ?_⟩
  obtain ⟨e, he, rfl⟩ := List.mem_map.mp hd
  exact addD_num _ _
theorem num_turn {x : D} (h : isNum x = true) (t : Nat) : secD t x = x := by
  unfold secD
  split
  · cases x <;> first | rfl | cases h
  · rfl
theorem mat_turn {m : List (List D)} {w : Nat} (r : Rect m w) (t : Nat) : secD t (mat false m) = mat (decide (t = 1)) m := by
  unfold secD
  by_cases e : t = 1
  · rw [if_pos e, decide_eq_true e]; exact turn_mat r
  · rw [if_neg e, decide_eq_false e]
theorem vec_turn {vs : List D} (hv : ∀ d ∈ vs, isNum d = true) (t : Nat) : secD t (.lst vs) = sq (decide (t = 1)) vs := by
  unfold secD
  by_cases e : t = 1
  · rw [if_pos e, decide_eq_true e]
    show D.tup (vs.map tupD) = D.tup vs
    have : vs.map tupD = vs.map id := List.map_congr_left fun x hx => by
      have := hv x hx
      cases x <;> first | rfl | cases this
    rw [this, List.map_id]
  · rw [if_neg e, decide_eq_false e]; rfl
theorem t_pow (n : Nat) {A : List (List D)} {s : Nat} (ra : Rect A s) (la : A.length = s) {a : Nat} (ha : a ≤ 200) (b : Bool) (h : Lh) : callPure (run prog (n + 10)) 45 [.int 4, mat false A, .int (a : Nat), mat false (pwr A s a), .bl b] h = .ok (.bl true) h :=
  c_told_mat n (w := 4) (by decide) (by decide) ra (pw_ok ra la a).1 (V := .int (a : Nat)) rfl (fun t ht h => by rw [num_turn rfl]; exact d_power n ra la ha h) b h
theorem t_pr (n : Nat) {m l : List (List D)} {w w' : Nat} (r : Rect m w) (r' : Rect l w') (hw : l.length = w) (b : Bool) (h : Lh) : callPure (run prog (n + 10)) 45 [.int 0, mat false m, mat false l, mat false (pr m l w'), .bl b] h = .ok (.bl true) h :=
  c_told_mat n (w := 0) (by decide) (by decide) r (pr_rect r r') (V := mat false l) (r'.sm false) (fun t ht h => by rw [mat_turn r']; exact ⟨_, _, d_times n r r' hw h, grid_new _ _⟩) b h
theorem t_un (n : Nat) {m l : List (List D)} {w : Nat} (r : Rect m w) (r' : Rect l w) (hl : l.length = m.length) (b : Bool) (h : Lh) : callPure (run prog (n + 10)) 45 [.int 2, mat false m, mat false l, mat false (un m l), .bl b] h = .ok (.bl true) h :=
  c_told_mat n (w := 2) (by decide) (by decide) r (un_rect r r' hl) (V := mat false l) (r'.sm false) (fun t ht h => by rw [mat_turn r']; exact ⟨_, _, d_united n r r' hl h, grid_new _ _⟩) b h
theorem t_sh (n : Nat) {m : List (List D)} {w : Nat} (r : Rect m w) {x : D} (hx : isNum x = true) (b : Bool) (h : Lh) : callPure (run prog (n + 10)) 45 [.int 3, mat false m, x, mat false (sh m x), .bl b] h = .ok (.bl true) h :=
  c_told_mat n (w := 3) (by decide) (by decide) r (sh_rect r x) (V := x) (num_sm hx) (fun t ht h => by rw [num_turn hx]; exact ⟨_, _, d_shifted n r hx h, grid_new _ _⟩) b h
theorem t_ap (n : Nat) {m : List (List D)} {w : Nat} (r : Rect m w) {vs : List D} (hv : ∀ d ∈ vs, isNum d = true) (lv : vs.length = w) (b : Bool) (h : Lh) : callPure (run prog (n + 10)) 45 [.int 1, mat false m, .lst vs, .lst (appl m vs), .bl b] h = .ok (.bl true) h := by
  have w2 := r.w2
  have l2 := r.l2
  exact c_told_vec n r (appl_num m vs) (by rw [appl_len]; omega) (V := .lst vs) (vec_sm false hv (by omega)) (fun t ht h => by rw [vec_turn hv]; exact d_applied n r hv lv h) b h
/-! ### powers, judged -/
theorem end_mat (n : Nat) {ds : List D} {N : Int} (hb : BoxAt N ds) (hN : N + 3000 < 999999999) {a c w : Int} (a1 : 1 ≤ a) (ha : a ≤ 20) (c1 : 1 ≤ c) (hc : c ≤ 20) (w1 : 1 ≤ w) (w2 : okDiv (2 * w + 1) = true) (w3 : okMul 2 w = true) :
    ∃ (m : List (List D)) (ds' : List D), Rect m c.toNat ∧ m.length = a.toNat ∧ BoxAt (N + 800) ds' ∧ callBox (run prog (n + 2)) 35 [.ref 0, .int a, .int c, .int w] [.lst ds] = .ok (mat false m) [.lst ds'] := by
  obtain ⟨m, ds', r, l, hb', e⟩ := r_law_matrix n hb hN (a := a.toNat) (c := c.toNat) (w := w) (by omega) (by omega) (by omega) (by omega) w1 w2 w3
  rw [Int.toNat_of_nonneg (by omega), Int.toNat_of_nonneg (by omega)] at e
  refine ⟨m, ds', r, l, hb', box_call (h := [.lst ds]) (k := 0) rfl rfl hb.nref e hb'.nref (thawF_lst (H := [.gone, .lst (m.map .lst)]) (k := 1) rfl (binds_nref _ _ (sms_nref _ (sms_of fun d hd => ?_))))⟩
  obtain ⟨x, hx, rfl⟩ := List.mem_map.mp hd
  exact r.row_sm false x hx
theorem wide3 {h : Lh} {d : Int} (d0 : 0 ≤ d) (d1 : d < 3) : ∃ w : Int, (w = 1 ∨ w = 3 ∨ w = 10 ^ 18) ∧ item h (.lst [.int 1, .int 3, .int (10 ^ 18)]) (.int d) = some (.int w) := by
  obtain ⟨x, hx, ex⟩ := item_lst (h := h) (ds := [.int 1, .int 3, .int (10 ^ 18)]) d0 (by exact d1) (by simp)
  rcases List.mem_cons.mp hx with rfl | hx
  · exact ⟨1, .inl rfl, ex⟩
  rcases List.mem_cons.mp hx with rfl | hx
  · exact ⟨3, .inr (.inl rfl), ex⟩
  · rw [List.mem_singleton.mp hx] at ex
    exact ⟨_, .inr (.inr rfl), ex⟩
theorem wide3_ok {w : Int} (h : w = 1 ∨ w = 3 ∨ w = 10 ^ 18) : 1 ≤ w ∧ okDiv (2 * w + 1) = true ∧ okMul 2 w = true := by
  rcases h with rfl | rfl | rfl <;> exact ⟨by decide, by decide, by decide⟩
theorem great_pick {h : Lh} {d e : Int} (d0 : 0 ≤ d) (d1 : d < 100) (e0 : 0 ≤ e) (e1 : e < 3) : ∃ s : Nat, s ≤ 200 ∧ item h (.lst [.int 200, .int 199, .int (100 + d)]) (.int e) = some (.int (s : Nat)) := by
  obtain ⟨x, hx, ex⟩ := item_lst (h := h) (ds := [.int 200, .int 199, .int (100 + d)]) e0 (by exact e1) (by simp)
  rcases List.mem_cons.mp hx with rfl | hx
  · exact ⟨200, by omega, ex⟩
  rcases List.mem_cons.mp hx with rfl | hx
  · exact ⟨199, by omega, ex⟩
  · rw [List.mem_singleton.mp hx] at ex
    refine ⟨(100 + d).toNat, by omega, ?_⟩
    rw [ex, Int.toNat_of_nonneg (by omega)]
def poB : Ss := match dropS 3 b__law_powers_right with
  | .cons (.fr _ _ b) _ => b
  | _ => .nil
abbrev unE (a i j : Nat) : E := .comp true [i] (.nm i) (.r1 (.var a)) .no (.comp true [j] (.nm j) (.r1 (.var a)) .no (.ite (.cmp .eq (.var i) (.var j)) (.cst (.int 0)) (.cst .non)))
theorem po_turn {cx : Cx} {x0 x2 x3 x5 x8 x9 x10 : Option D} {A F F' : D} {a : Int} {b : Bool} {h : Lh} (hA : nx A = true) (hF : nx F = true) (c1 : callPure cx.call 45 [.int 4, A, .int a, F, .bl b] h = .ok (.bl true) h) (c2 : callPure cx.call 43 [A, F] h = .ok F' h) :
    poB.ev cx [x0, some (.bl b), x2, x3, some A, x5, some F, some (.int a), x8, x9, x10] h = .ok (.nx [x0, some (.bl (!b)), x2, x3, some A, x5, some F', some (.int a), x8, x9, x10]) h := by
  simp only [poB, dropS, b__law_powers_right, wipe, Ss.ev, S.ev, E.ev, Es.ev, Eo.ev, It.ev, Tg.as, Tgs.as, arrange, callM, Rs.bind, Rs.at, rsO, Option.bind, Option.map, getV_z, getV_s, gv_int, gv_bl, gv_str, gv_ref, gv_lst, gv_tup, gv_dct, gv_non, startE, List.map, List.set_cons_zero, List.set_cons_succ, List.replicate, List.cons_append, List.nil_append, List.getElem?_cons_zero, List.getElem?_cons_succ, truth_bl, Bool.not_true, Bool.not_false, fin, P.put, lim, List.length_nil, List.length_cons, Nat.reduceAdd, Nat.reduceSub, Nat.reduceLeDiff, if_true, Rf.then, Rf.res, noexc, setAll, isn_non, isD_non, cop_lt, cop_le, cop_gt, cop_ge, eq_int, ne_int, bop_add, bop_sub, bound, hA, hF, c1, c2]
theorem po_head {cx : Cx} {b : Bool} {ds ds1 ds2 ds3 ds4 : List D} {d1 d2 d4 w T : Int} {A U : D} (hA : nx A = true) (e1 : callBox cx.call 30 [.ref 0, .int 4] [.lst ds] = .ok (.int d1) [.lst ds1]) (pwr : bop [.lst ds1] .pow (.int 10) (.int 18) = some (.v (.int T))) (e2 : callBox cx.call 30 [.ref 0, .int 3] [.lst ds1] = .ok (.int d2) [.lst ds2]) (i2 : item [.lst ds2] (.lst [.int 1, .int 3, .int T]) (.int d2) = some (.int w))
    (vt : vw [.lst ds2] (.tup [.int (1 + d1), .int w]) = some (true, [.int (1 + d1), .int w])) (e3 : callBox cx.call 35 [.ref 0, .int (1 + d1), .int (1 + d1), .int w] [.lst ds2] = .ok A [.lst ds3]) (e4 : callBox cx.call 30 [.ref 0, .int 9] [.lst ds3] = .ok (.int d4) [.lst ds4])
    (u : (unE 2 9 10).ev cx [some (.ref 0), some (.bl b), some (.int (1 + d1)), some (.int w), some A, some (.int (1 + d4)), none, none, none, none, none] [.lst ds4] = .ok U [.lst ds4]) :
    b__law_powers_right.ev cx [some (.ref 0), some (.bl b), none, none, none, none, none, none, none, none, none] [.lst ds] = (dropS 3 b__law_powers_right).ev cx [some (.ref 0), some (.bl b), some (.int (1 + d1)), some (.int w), some A, some (.int (1 + d4)), some U, none, none, none, none] [.lst ds4] := by
  have sp : b__law_powers_right = .cons (match b__law_powers_right with | .cons s _ => s | _ => .pas) (.cons (match dropS 1 b__law_powers_right with | .cons s _ => s | _ => .pas) (.cons (.asg (.nm 6) (unE 2 9 10)) (dropS 3 b__law_powers_right))) := rfl
  conv => lhs; rw [sp]
  generalize dropS 3 b__law_powers_right = T
  generalize unE 2 9 10 = C at u ⊢
  simp only [dropS, b__law_powers_right, wipe, Ss.ev, S.ev, E.ev, Es.ev, Eo.ev, It.ev, Tg.as, Tgs.as, arrange, callM, Rs.bind, Rs.at, rsO, Option.bind, Option.map, getV_z, getV_s, gv_int, gv_bl, gv_str, gv_ref, gv_lst, gv_tup, gv_dct, gv_non, startE, List.map, List.set_cons_zero, List.set_cons_succ, List.replicate, List.cons_append, List.nil_append, List.getElem?_cons_zero, List.getElem?_cons_succ, truth_bl, Bool.not_true, Bool.not_false, fin, P.put, lim, List.length_nil, List.length_cons, Nat.reduceAdd, Nat.reduceSub, Nat.reduceLeDiff, if_true, Rf.then, Rf.res, noexc, setAll, isn_non, isD_non, cop_lt, cop_le, cop_gt, cop_ge, eq_int, ne_int, bop_add, bop_sub, bound, Tgs.as, hA, e1, pwr, e2, i2, vt, e3, e4, u]
theorem po_tail {cx : Cx} {x2 x3 x5 x7 x9 x10 : Option D} {A F G : D} {b : Bool} {ds ds1 ds2 : List D} {d1 d2 g : Int} (hA : nx A = true) (hG : nx G = true) (e1 : callBox cx.call 30 [.ref 0, .int 100] [.lst ds] = .ok (.int d1) [.lst ds1]) (e2 : callBox cx.call 30 [.ref 0, .int 3] [.lst ds1] = .ok (.int d2) [.lst ds2]) (i2 : item [.lst ds2] (.lst [.int 200, .int 199, .int (100 + d1)]) (.int d2) = some (.int g))
    (c1 : callPure cx.call 44 [A, .int g] [.lst ds2] = .ok G [.lst ds2]) (c2 : callPure cx.call 45 [.int 4, A, .int g, G, .bl b] [.lst ds2] = .ok (.bl true) [.lst ds2]) :
    ((dropS 4 b__law_powers_right).ev cx [some (.ref 0), some (.bl b), x2, x3, some A, x5, some F, x7, none, x9, x10] [.lst ds]).res = .ok (.bl true) [.lst ds2] := by
  simp only [dropS, b__law_powers_right, wipe, Ss.ev, S.ev, E.ev, Es.ev, Eo.ev, It.ev, Tg.as, Tgs.as, arrange, callM, Rs.bind, Rs.at, rsO, Option.bind, Option.map, getV_z, getV_s, gv_int, gv_bl, gv_str, gv_ref, gv_lst, gv_tup, gv_dct, gv_non, startE, List.map, List.set_cons_zero, List.set_cons_succ, List.replicate, List.cons_append, List.nil_append, List.getElem?_cons_zero, List.getElem?_cons_succ, truth_bl, Bool.not_true, Bool.not_false, fin, P.put, lim, List.length_nil, List.length_cons, Nat.reduceAdd, Nat.reduceSub, Nat.reduceLeDiff, if_true, Rf.then, Rf.res, noexc, setAll, isn_non, isD_non, cop_lt, cop_le, cop_gt, cop_ge, eq_int, ne_int, bop_add, bop_sub, bound, hA, hG, e1, e2, i2, c1, c2]
theorem un_ev {cx : Cx} {Z : Env} {s a i j : Nat} {h : Lh} (hs : s ≤ 1000) (g1 : getV Z a = some (.int s)) (g2 : ∀ x : Nat, getV ((wipe Z [i]).set i (some (.int x))) a = some (.int s)) (g3 : ∀ x y : Nat, getV ((wipe ((wipe Z [i]).set i (some (.int x))) [j]).set j (some (.int y))) i = some (.int x)) (g4 : ∀ x y : Nat, getV ((wipe ((wipe Z [i]).set i (some (.int x))) [j]).set j (some (.int y))) j = some (.int y)) :
    (unE a i j).ev cx Z h = .ok (mat false (unitM s)) h := by
  rw [rng_map (fun i => .lst ((List.range s).map fun j => if i = j then .int 0 else .non)) (r1_ev (w := s) (by omega) (by simp only [E.ev, rsO, g1])) (by omega) fun x hx => ?_]
  · unfold unitM mat
    rw [List.map_map]
    rfl
  · exact (unit_row (i := x) (k := j) (a := i) (env := (wipe Z [i]).set i (some (.int x))) (own := [j]) (r1_ev (w := s) (by omega) (by simp only [E.ev, rsO, g2])) (by omega) (g3 x) (g4 x)).trans rfl
theorem po_loop (n : Nat) {A : List (List D)} {s : Nat} (ra : Rect A s) (la : A.length = s) {far : Nat} (hf : far ≤ 10) (x0 x2 x3 : Option D) (b : Bool) (ds : List D) :
    ∃ b' x7 F, (S.fr (.nm 7) (.r1 (.bin .add true (.var 5) (.cst (.int 1)))) poB).ev ⟨run prog (n + 10), prog.loop, prog.sub⟩ [x0, some (.bl b), x2, x3, some (mat false A), some (.int (far : Nat)), some (mat false (unitM s)), none, none, none, none] [.lst ds] = .ok (.nx [x0, some (.bl b'), x2, x3, some (mat false A), some (.int (far : Nat)), some (mat false F), x7, none, none, none]) [.lst ds] := by
  obtain ⟨s', h', ⟨rfl, b', x7, rfl⟩, e⟩ := fr_inv (cx := ⟨run prog (n + 10), prog.loop, prog.sub⟩) (t := .nm 7) (it := .r1 (.bin .add true (.var 5) (.cst (.int 1)))) (b := poB) (s := [x0, some (.bl b), x2, x3, some (mat false A), some (.int (far : Nat)), some (mat false (unitM s)), none, none, none, none]) (h := [.lst ds]) (src := .rng 0 1 (far + 1)) (ds := iotaD (far + 1))
    (Inv := fun k s' h' => [.lst ds] = h' ∧ ∃ b' x7, s' = [x0, some (.bl b'), x2, x3, some (mat false A), some (.int (far : Nat)), some (mat false (pwr A s k)), x7, none, none, none]) (r1_ev (w := far + 1) (by omega) (by
      have g5 : getV [x0, some (.bl b), x2, x3, some (mat false A), some (.int (far : Nat)), some (mat false (unitM s)), none, none, none, none] 5 = some (.int (far : Nat)) := rfl
      have ad : bop [.lst ds] .add (.int (far : Nat)) (.int 1) = some (.v (.int ((far + 1 : Nat) : Int))) := by push_cast; rfl
      generalize ((far : Nat) : Int) = q at g5 ad ⊢
      generalize ((far + 1 : Nat) : Int) = q1 at ad ⊢
      simp only [E.ev, Rs.bind, rsO, g5, ad, fin, P.put])) (fun h => by rw [iota_len]; rfl) (fun h i hi => rng_at (by rw [iota_len] at hi; exact hi)) ⟨rfl, b, none, rfl⟩ (by
      rintro k d s' h' hd ⟨rfl, b', x7, rfl⟩
      obtain ⟨hk, rfl⟩ := iota_get hd
      have f1 := pw_ok ra la k
      exact ⟨_, _, ⟨rfl, !b', some (.int (k : Nat)), rfl⟩, po_turn (nx_sq _ _) (nx_sq _ _) (t_pow n ra la (by omega) b' [.lst ds]) (c_lproduct (n + 7) ra f1.1 f1.2 [.lst ds])⟩)
  exact ⟨b', x7, _, e⟩
theorem r_powers (n : Nat) {ds : List D} {N : Int} (hb : BoxAt N ds) (hN : N + 5000 < 999999999) (b : Bool) : ∃ ds', BoxAt (N + 1000) ds' ∧ run prog (n + 11) 46 [.ref 0, .bl b] [.lst ds] = .ok (.bl true) [.lst ds'] := by
  obtain ⟨d1, ds1, a1, a2, hb1, e1⟩ := c_take (n := n + 9) (H := []) hb (by omega) (many := 4) (by decide) (by decide)
  obtain ⟨d2, ds2, a3, a4, hb2, e2⟩ := c_take (n := n + 9) (H := []) hb1 (by omega) (many := 3) (by decide) (by decide)
  obtain ⟨w, hw, iw⟩ := wide3 (h := [.lst ds2]) a3 a4
  obtain ⟨w1, w2, w3⟩ := wide3_ok hw
  obtain ⟨A, ds3, ra, la, hb3, e3⟩ := end_mat (n + 8) hb2 (by omega) (a := 1 + d1) (c := 1 + d1) (by omega) (by omega) (by omega) (by omega) w1 w2 w3
  obtain ⟨d4, ds4, a5, a6, hb4, e4⟩ := c_take (n := n + 9) (H := []) hb3 (by omega) (many := 9) (by decide) (by decide)
  obtain ⟨d5, ds5, a7, a8, hb5, e5⟩ := c_take (n := n + 9) (H := []) hb4 (by omega) (many := 100) (by decide) (by decide)
  obtain ⟨d6, ds6, a9, a10, hb6, e6⟩ := c_take (n := n + 9) (H := []) hb5 (by omega) (many := 3) (by decide) (by decide)
  obtain ⟨g, g2, ig⟩ := great_pick (h := [.lst ds6]) a7 a8 a9 a10
  have nA : nx (mat false A) = true := nx_sq _ _
  have nG : nx (mat false (pwr A (1 + d1).toNat g)) = true := nx_sq _ _
  have pT : bop [.lst ds1] .pow (.int 10) (.int 18) = some (.v (.int (10 ^ 18))) := by
    rw [bop_pow _ _ _ (by decide)]; rfl
  have hs : ((1 + d1).toNat : Int) = 1 + d1 := Int.toNat_of_nonneg (by omega)
  have hs4 : ((1 + d4).toNat : Int) = 1 + d4 := Int.toNat_of_nonneg (by omega)
  have u := un_ev (cx := ⟨run prog (n + 10), prog.loop, prog.sub⟩) (Z := [some (.ref 0), some (.bl b), some (.int ((1 + d1).toNat : Int)), some (.int w), some (mat false A), some (.int (1 + d4)), none, none, none, none, none]) (s := (1 + d1).toNat) (a := 2) (i := 9) (j := 10) (h := [.lst ds4]) (by omega) rfl (fun _ => rfl) (fun _ _ => rfl) (fun _ _ => rfl)
  rw [hs] at u
  obtain ⟨b', x7, F, e7⟩ := po_loop n ra la (far := (1 + d4).toNat) (by omega) (some (.ref 0)) (some (.int (1 + d1))) (some (.int w)) b ds4
  rw [hs4] at e7
  refine ⟨ds6, hb6.mono (by omega), ?_⟩
  rw [run_env (n := n + 10) (fd := f__law_powers_right) (env := [some (.ref 0), some (.bl b), none, none, none, none, none, none, none, none, none]) (by rfl) rfl rfl]
  show (b__law_powers_right.ev _ _ _).res = _
  rw [po_head (cx := ⟨run prog (n + 10), prog.loop, prog.sub⟩) nA e1 pT e2 iw rfl e3 e4 u]
  rw [show dropS 3 b__law_powers_right = .cons (.fr (.nm 7) (.r1 (.bin .add true (.var 5) (.cst (.int 1)))) poB) (dropS 4 b__law_powers_right) from rfl]
  have tl := po_tail (cx := ⟨run prog (n + 10), prog.loop, prog.sub⟩) (x2 := some (.int (1 + d1))) (x3 := some (.int w)) (x5 := some (.int (1 + d4))) (x7 := x7) (x9 := none) (x10 := none) (F := mat false F) (b := b') nA nG e5 e6 ig (c_lgreat (n + 6) ra la g2 [.lst ds6]) (t_pow n ra la g2 b' [.lst ds6])
  generalize dropS 4 b__law_powers_right = T at tl
  generalize poB = T2 at e7
  simp only [Ss.ev, e7, Rf.then]
  exact tl
end K02
end TB

end

section
set_option Elab.async false
set_option linter.all false
set_option maxRecDepth 100000
set_option maxHeartbeats 1000000
namespace TB
namespace K02
open PySem
/-! ### what is due, by own loops -/
abbrev beC : E := .call .pure 33 (.cons (.lst true (.cons (.ix (.ix (.var 6) (.var 13)) (.var 15)) (.cons (.ix (.ix (.var 8) (.var 13)) (.var 15)) .nil))) .nil) [0]
abbrev beI : E := .comp true [15] (.nm 15) (.r1 (.var 3)) .no beC
abbrev beE : E := .comp true [13] (.nm 13) (.r1 (.var 2)) .no beI
abbrev moC : E := .call .pure 32 (.cons (.var 16) (.cons (.var 10) .nil)) [0, 1]
abbrev moI : E := .comp true [16] (.nm 16) (.ex (.var 14)) .no moC
abbrev moE : E := .comp true [14] (.nm 14) (.ex (.var 6)) .no moI
theorem bcell {cx : Cx} {Z : Env} {h : Lh} {i j : Int} {M L rm rl x y z : D} (g6 : getV Z 6 = some M) (g8 : getV Z 8 = some L) (g13 : getV Z 13 = some (.int i)) (g15 : getV Z 15 = some (.int j)) (i1 : item h M (.int i) = some rm) (i2 : item h rm (.int j) = some x) (i3 : item h L (.int i) = some rl) (i4 : item h rl (.int j) = some y) (c : callPure cx.call 33 [.lst [x, y]] h = .ok z h) : beC.ev cx Z h = .ok z h := by
  simp only [wipe, Ss.ev, S.ev, E.ev, Es.ev, Eo.ev, It.ev, Tg.as, Tgs.as, arrange, callM, Rs.bind, Rs.at, rsO, Option.bind, Option.map, getV_z, getV_s, gv_int, gv_bl, gv_str, gv_ref, gv_lst, gv_tup, gv_dct, gv_non, startE, List.map, List.set_cons_zero, List.set_cons_succ, List.replicate, List.cons_append, List.nil_append, List.getElem?_cons_zero, List.getElem?_cons_succ, truth_bl, Bool.not_true, Bool.not_false, fin, P.put, lim, List.length_nil, List.length_cons, Nat.reduceAdd, Nat.reduceSub, Nat.reduceLeDiff, if_true, Rf.then, Rf.res, noexc, setAll, isn_non, isD_non, cop_lt, cop_le, cop_gt, cop_ge, eq_int, ne_int, bop_add, bop_sub, bound, g6, g8, g13, g15, i1, i2, i3, i4, c]
theorem zip_of (f : D → D → D) {a b : List D} {n : Nat} (ha : a.length = n) (hb : b.length = n) : ((List.range n).map fun j => f ((a[j]?).getD .non) ((b[j]?).getD .non)) = List.zipWith f a b := by
  apply List.ext_getElem?
  intro i
  rw [List.getElem?_map, List.getElem?_zipWith]
  by_cases h : i < n
  · have e1 : a[i]? = some (a[i]'(by omega)) := List.getElem?_eq_getElem _
    have e2 : b[i]? = some (b[i]'(by omega)) := List.getElem?_eq_getElem _
    rw [List.getElem?_range h, e1, e2]
    show some (f ((a[i]?).getD .non) ((b[i]?).getD .non)) = some (f _ _)
    rw [e1, e2]
    rfl
  · rw [List.getElem?_eq_none (show (List.range n).length ≤ i by simp; omega), List.getElem?_eq_none (show a.length ≤ i by omega)]
    rfl
theorem nums2 {x y : D} (hx : isNum x = true) (hy : isNum y = true) : ∀ d ∈ [x, y], isNum d = true := fun d hd => by
  rcases List.mem_cons.mp hd with rfl | hd
  · exact hx
  · rw [List.mem_singleton.mp hd]; exact hy
theorem beI_ev (n : Nat) {m l : List (List D)} {w i : Nat} (r : Rect m w) (r' : Rect l w) (hl : l.length = m.length) (hi : i < m.length) {Z : Env} (g3 : getV Z 3 = some (.int (w : Nat))) (g6 : ∀ j : Nat, getV ((wipe Z [15]).set 15 (some (.int j))) 6 = some (mat false m)) (g8 : ∀ j : Nat, getV ((wipe Z [15]).set 15 (some (.int j))) 8 = some (mat false l)) (g13 : ∀ j : Nat, getV ((wipe Z [15]).set 15 (some (.int j))) 13 = some (.int i)) (g15 : ∀ j : Nat, getV ((wipe Z [15]).set 15 (some (.int j))) 15 = some (.int j)) (h : Lh) :
    beI.ev ⟨run prog (n + 1), prog.loop, prog.sub⟩ Z h = .ok (.lst (unR m[i] (l[i]'(by omega)))) h := by
  have w2 := r.w2
  have q := r.hr m[i] (List.getElem_mem _)
  have q' := r'.hr (l[i]'(by omega)) (List.getElem_mem _)
  rw [rng_map (fun j => mx2 ((m[i][j]?).getD .non) (((l[i]'(by omega))[j]?).getD .non)) (r1_ev (w := w) (by omega) (by simp only [E.ev, rsO, g3])) (by omega) fun j hj => ?_]
  · rw [zip_of mx2 q.1 q'.1]; rfl
  · have e1 : m[i][j]? = some (m[i][j]'(by omega)) := List.getElem?_eq_getElem _
    have e2 : (l[i]'(by omega))[j]? = some ((l[i]'(by omega))[j]'(by omega)) := List.getElem?_eq_getElem _
    rw [e1, e2]
    have c := c_most n (nums2 (q.2 _ (List.getElem_mem (by omega : j < m[i].length))) (q'.2 _ (List.getElem_mem (by omega : j < (l[i]'(by omega)).length)))) (by simp) h
    exact bcell (g6 j) (g8 j) (g13 j) (g15 j) (item_mat false r hi) (item_sq false (by omega) (by omega)) (item_mat false r' (by omega)) (item_sq false (by omega) (by omega)) c
abbrev riE (b : Bool) (R C K : Int) (w : Int) (A B F V X : D) (x11 : Option D) : Env := [some (.ref 0), some (.bl b), some (.int R), some (.int C), some (.int K), some (.int w), some A, some B, some F, some V, some X, x11, none, none, none, none, none]
theorem beE_ev (n : Nat) {m l : List (List D)} {w : Nat} (r : Rect m w) (r' : Rect l w) (hl : l.length = m.length) (b : Bool) (K W : Int) (B V X : D) (h : Lh) :
    beE.ev ⟨run prog (n + 1), prog.loop, prog.sub⟩ (riE b (m.length : Nat) (w : Nat) K W (mat false m) B (mat false l) V X none) h = .ok (mat false (un m l)) h := by
  have l2 := r.l2
  rw [rng_map (fun i => .lst (unR ((m[i]?).getD []) ((l[i]?).getD []))) (r1_ev (w := m.length) (by omega) rfl) (by omega) fun i hi => ?_]
  · have : ((List.range m.length).map fun i => D.lst (unR ((m[i]?).getD []) ((l[i]?).getD []))) = (un m l).map (sq false) := by
      apply List.ext_getElem?
      intro i
      unfold un
      rw [List.getElem?_map, List.getElem?_map, List.getElem?_zipWith]
      by_cases h : i < m.length
      · have e1 : m[i]? = some m[i] := List.getElem?_eq_getElem _
        have e2 : l[i]? = some (l[i]'(by omega)) := List.getElem?_eq_getElem _
        rw [List.getElem?_range h, e1, e2]
        show some (D.lst (unR ((m[i]?).getD []) ((l[i]?).getD []))) = some (D.lst (unR _ _))
        rw [e1, e2]
        rfl
      · rw [List.getElem?_eq_none (show (List.range m.length).length ≤ i by simp; omega), List.getElem?_eq_none (show m.length ≤ i by omega)]
        rfl
    rw [this]; rfl
  · have e1 : m[i]? = some m[i] := List.getElem?_eq_getElem _
    have e2 : l[i]? = some (l[i]'(by omega)) := List.getElem?_eq_getElem _
    rw [e1, e2]
    exact beI_ev n r r' hl hi rfl (fun j => rfl) (fun j => rfl) (fun j => rfl) (fun j => rfl) h
theorem mcell {cx : Cx} {Z : Env} {h : Lh} {x y z : D} (g16 : getV Z 16 = some x) (g10 : getV Z 10 = some y) (c : callPure cx.call 32 [x, y] h = .ok z h) : moC.ev cx Z h = .ok z h := by
  simp only [wipe, Ss.ev, S.ev, E.ev, Es.ev, Eo.ev, It.ev, Tg.as, Tgs.as, arrange, callM, Rs.bind, Rs.at, rsO, Option.bind, Option.map, getV_z, getV_s, gv_int, gv_bl, gv_str, gv_ref, gv_lst, gv_tup, gv_dct, gv_non, startE, List.map, List.set_cons_zero, List.set_cons_succ, List.replicate, List.cons_append, List.nil_append, List.getElem?_cons_zero, List.getElem?_cons_succ, truth_bl, Bool.not_true, Bool.not_false, fin, P.put, lim, List.length_nil, List.length_cons, Nat.reduceAdd, Nat.reduceSub, Nat.reduceLeDiff, if_true, Rf.then, Rf.res, noexc, setAll, isn_non, isD_non, cop_lt, cop_le, cop_gt, cop_ge, eq_int, ne_int, bop_add, bop_sub, bound, g16, g10, c]
theorem moI_ev (n : Nat) {ro : List D} (hr : ∀ d ∈ ro, isNum d = true) (lr : ro.length ≤ 1000) {X : D} (hx : isNum X = true) {Z : Env} (g14 : getV Z 14 = some (.lst ro)) (g10 : ∀ y, getV ((wipe Z [16]).set 16 (some y)) 10 = some X) (g16 : ∀ y, nx y = true → getV ((wipe Z [16]).set 16 (some y)) 16 = some y) (h : Lh) :
    moI.ev ⟨run prog (n + 1), prog.loop, prog.sub⟩ Z h = .ok (.lst (ro.map fun d => addD d X)) h := by
  rw [comp_ev (src := .seq (.lst ro)) (ds := ro) (fun d => [addD d X]) (by simp only [It.ev, E.ev, rsO, g14, Rs.bind]) rfl (by unfold lim; omega) fun y hy acc => step_map acc ?_, map_of]
  · rfl
  · exact mcell (g16 y (num_nx (hr y hy))) (g10 y) (c_lsum n (hr y hy) hx h)
theorem moE_ev (n : Nat) {m : List (List D)} {w : Nat} (r : Rect m w) {X : D} (hx : isNum X = true) (b : Bool) (R C K W : Int) (B F V U : D) (h : Lh) :
    moE.ev ⟨run prog (n + 1), prog.loop, prog.sub⟩ (riE b R C K W (mat false m) B F V X (some U)) h = .ok (mat false (sh m X)) h := by
  have l2 := r.l2
  have w2 := r.w2
  rw [comp_ev (src := .seq (mat false m)) (ds := m.map (sq false)) (fun d => [.lst ((row d).map fun d => addD d X)]) rfl (mat_items false m) (by rw [List.length_map]; unfold lim; omega) fun x hx' acc => step_map acc ?_, map_of]
  · have : (m.map (sq false)).map (fun d => D.lst ((row d).map fun d => addD d X)) = (sh m X).map (sq false) := by
      unfold sh
      rw [List.map_map, List.map_map]
      rfl
    rw [this]; rfl
  · obtain ⟨ro, hro, rfl⟩ := List.mem_map.mp hx'
    have q := r.hr ro hro
    have xn := num_nx hx
    exact moI_ev n (ro := ro) (Z := (wipe (riE b R C K W (mat false m) B F V X (some U)) [14]).set 14 (some (.lst ro))) q.2 (by omega) hx rfl (fun y => getV_z (s := []) xn) (fun y hy => getV_z (s := []) hy) h
/-! ### sizes -/
theorem ra_no {cx : Cx} {b : Bool} {ds ds1 ds2 ds3 ds4 : List D} {d1 d2 d3 d4 : Int} (e1 : callBox cx.call 30 [.ref 0, .int 4] [.lst ds] = .ok (.int d1) [.lst ds1]) (e2 : callBox cx.call 30 [.ref 0, .int 4] [.lst ds1] = .ok (.int d2) [.lst ds2]) (e3 : callBox cx.call 30 [.ref 0, .int 4] [.lst ds2] = .ok (.int d3) [.lst ds3])
    (vt : ∀ (h : Lh) (x y z : D), vw h (.tup [x, y, z]) = some (true, [x, y, z])) (e4 : callBox cx.call 30 [.ref 0, .int 8] [.lst ds3] = .ok (.int d4) [.lst ds4]) (z : d4 ≠ 0) :
    b__law_right.ev cx [some (.ref 0), some (.bl b), none, none, none, none, none, none, none, none, none, none, none, none, none, none, none] [.lst ds] = (dropS 2 b__law_right).ev cx [some (.ref 0), some (.bl b), some (.int (1 + d1)), some (.int (1 + d2)), some (.int (1 + d3)), none, none, none, none, none, none, none, none, none, none, none, none] [.lst ds4] := by
  have sp : b__law_right = .cons (match b__law_right with | .cons s _ => s | _ => .pas) (.cons (match dropS 1 b__law_right with | .cons s _ => s | _ => .pas) (dropS 2 b__law_right)) := rfl
  conv => lhs; rw [sp]
  generalize dropS 2 b__law_right = T
  have c0 := eq_f [.lst ds4] d4 0 z
  simp only [dropS, b__law_right, wipe, Ss.ev, S.ev, E.ev, Es.ev, Eo.ev, It.ev, Tg.as, Tgs.as, arrange, callM, Rs.bind, Rs.at, rsO, Option.bind, Option.map, getV_z, getV_s, gv_int, gv_bl, gv_str, gv_ref, gv_lst, gv_tup, gv_dct, gv_non, startE, List.map, List.set_cons_zero, List.set_cons_succ, List.replicate, List.cons_append, List.nil_append, List.getElem?_cons_zero, List.getElem?_cons_succ, truth_bl, Bool.not_true, Bool.not_false, fin, P.put, lim, List.length_nil, List.length_cons, Nat.reduceAdd, Nat.reduceSub, Nat.reduceLeDiff, if_true, Rf.then, Rf.res, noexc, setAll, isn_non, isD_non, cop_lt, cop_le, cop_gt, cop_ge, bop_add, bop_sub, bound, Tgs.as, e1, e2, e3, vt, e4, c0]
theorem ra_yes {cx : Cx} {b : Bool} {ds ds1 ds2 ds3 ds4 ds5 ds6 : List D} {d1 d2 d3 d5 d6 s1 s2 : Int} (e1 : callBox cx.call 30 [.ref 0, .int 4] [.lst ds] = .ok (.int d1) [.lst ds1]) (e2 : callBox cx.call 30 [.ref 0, .int 4] [.lst ds1] = .ok (.int d2) [.lst ds2]) (e3 : callBox cx.call 30 [.ref 0, .int 4] [.lst ds2] = .ok (.int d3) [.lst ds3])
    (vt : ∀ (h : Lh) (x y z : D), vw h (.tup [x, y, z]) = some (true, [x, y, z])) (e4 : callBox cx.call 30 [.ref 0, .int 8] [.lst ds3] = .ok (.int 0) [.lst ds4]) (e5 : callBox cx.call 30 [.ref 0, .int 3] [.lst ds4] = .ok (.int d5) [.lst ds5]) (i5 : item [.lst ds5] (.lst [.int 20, .int 7, .int 3]) (.int d5) = some (.int s1))
    (e6 : callBox cx.call 30 [.ref 0, .int 2] [.lst ds5] = .ok (.int d6) [.lst ds6]) (i6 : item [.lst ds6] (.lst [.int 20, .int 1]) (.int d6) = some (.int s2)) :
    b__law_right.ev cx [some (.ref 0), some (.bl b), none, none, none, none, none, none, none, none, none, none, none, none, none, none, none] [.lst ds] = (dropS 2 b__law_right).ev cx [some (.ref 0), some (.bl b), some (.int s1), some (.int 20), some (.int s2), none, none, none, none, none, none, none, none, none, none, none, none] [.lst ds6] := by
  have sp : b__law_right = .cons (match b__law_right with | .cons s _ => s | _ => .pas) (.cons (match dropS 1 b__law_right with | .cons s _ => s | _ => .pas) (dropS 2 b__law_right)) := rfl
  conv => lhs; rw [sp]
  generalize dropS 2 b__law_right = T
  have c0 := eq_t [.lst ds4] 0 0 rfl
  simp only [dropS, b__law_right, wipe, Ss.ev, S.ev, E.ev, Es.ev, Eo.ev, It.ev, Tg.as, Tgs.as, arrange, callM, Rs.bind, Rs.at, rsO, Option.bind, Option.map, getV_z, getV_s, gv_int, gv_bl, gv_str, gv_ref, gv_lst, gv_tup, gv_dct, gv_non, startE, List.map, List.set_cons_zero, List.set_cons_succ, List.replicate, List.cons_append, List.nil_append, List.getElem?_cons_zero, List.getElem?_cons_succ, truth_bl, Bool.not_true, Bool.not_false, fin, P.put, lim, List.length_nil, List.length_cons, Nat.reduceAdd, Nat.reduceSub, Nat.reduceLeDiff, if_true, Rf.then, Rf.res, noexc, setAll, isn_non, isD_non, cop_lt, cop_le, cop_gt, cop_ge, bop_add, bop_sub, bound, Tgs.as, e1, e2, e3, vt, e4, c0, e5, i5, e6, i6]
theorem pick3 {h : Lh} {d : Int} (d0 : 0 ≤ d) (d1 : d < 3) : ∃ s : Int, 1 ≤ s ∧ s ≤ 20 ∧ item h (.lst [.int 20, .int 7, .int 3]) (.int d) = some (.int s) := by
  obtain ⟨x, hx, ex⟩ := item_lst (h := h) (ds := [.int 20, .int 7, .int 3]) d0 (by exact d1) (by simp)
  rcases List.mem_cons.mp hx with rfl | hx
  · exact ⟨20, by omega, by omega, ex⟩
  rcases List.mem_cons.mp hx with rfl | hx
  · exact ⟨7, by omega, by omega, ex⟩
  · rw [List.mem_singleton.mp hx] at ex
    exact ⟨3, by omega, by omega, ex⟩
theorem pick2 {h : Lh} {d : Int} (d0 : 0 ≤ d) (d1 : d < 2) : ∃ s : Int, 1 ≤ s ∧ s ≤ 20 ∧ item h (.lst [.int 20, .int 1]) (.int d) = some (.int s) := by
  obtain ⟨x, hx, ex⟩ := item_lst (h := h) (ds := [.int 20, .int 1]) d0 (by exact d1) (by simp)
  rcases List.mem_cons.mp hx with rfl | hx
  · exact ⟨20, by omega, by omega, ex⟩
  · rw [List.mem_singleton.mp hx] at ex
    exact ⟨1, by omega, by omega, ex⟩
theorem vt3 (h : Lh) (x y z : D) : vw h (.tup [x, y, z]) = some (true, [x, y, z]) := rfl
theorem vt2 (h : Lh) (x y : D) : vw h (.tup [x, y]) = some (true, [x, y]) := rfl
theorem ra_ok (n : Nat) {ds : List D} {N : Int} (hb : BoxAt N ds) (hN : N + 100 < 999999999) (b : Bool) : ∃ R C K ds', 1 ≤ R ∧ R ≤ 20 ∧ 1 ≤ C ∧ C ≤ 20 ∧ 1 ≤ K ∧ K ≤ 20 ∧ BoxAt (N + 10) ds' ∧
    b__law_right.ev ⟨run prog (n + 1), prog.loop, prog.sub⟩ [some (.ref 0), some (.bl b), none, none, none, none, none, none, none, none, none, none, none, none, none, none, none] [.lst ds] = (dropS 2 b__law_right).ev ⟨run prog (n + 1), prog.loop, prog.sub⟩ [some (.ref 0), some (.bl b), some (.int R), some (.int C), some (.int K), none, none, none, none, none, none, none, none, none, none, none, none] [.lst ds'] := by
  obtain ⟨d1, ds1, a1, a2, hb1, e1⟩ := c_take (n := n) (H := []) hb (by omega) (many := 4) (by decide) (by decide)
  obtain ⟨d2, ds2, a3, a4, hb2, e2⟩ := c_take (n := n) (H := []) hb1 (by omega) (many := 4) (by decide) (by decide)
  obtain ⟨d3, ds3, a5, a6, hb3, e3⟩ := c_take (n := n) (H := []) hb2 (by omega) (many := 4) (by decide) (by decide)
  obtain ⟨d4, ds4, a7, a8, hb4, e4⟩ := c_take (n := n) (H := []) hb3 (by omega) (many := 8) (by decide) (by decide)
  by_cases z : d4 = 0
  · subst z
    obtain ⟨d5, ds5, a9, a10, hb5, e5⟩ := c_take (n := n) (H := []) hb4 (by omega) (many := 3) (by decide) (by decide)
    obtain ⟨d6, ds6, a11, a12, hb6, e6⟩ := c_take (n := n) (H := []) hb5 (by omega) (many := 2) (by decide) (by decide)
    obtain ⟨s1, p1, p2, i5⟩ := pick3 (h := [.lst ds5]) a9 a10
    obtain ⟨s2, p3, p4, i6⟩ := pick2 (h := [.lst ds6]) a11 a12
    exact ⟨s1, 20, s2, ds6, p1, p2, by omega, by omega, p3, p4, hb6.mono (by omega), ra_yes e1 e2 e3 vt3 e4 e5 i5 e6 i6⟩
  · exact ⟨1 + d1, 1 + d2, 1 + d3, ds4, by omega, by omega, by omega, by omega, by omega, by omega, hb4.mono (by omega), ra_no e1 e2 e3 vt3 e4 z⟩
/-! ### matrices -/
theorem rb_ok {cx : Cx} {b : Bool} {ds ds1 ds2 ds3 ds4 ds5 ds6 ds7 : List D} {R C K w d6 d7 : Int} {A B F V X : D} (hA : nx A = true) (hB : nx B = true) (hF : nx F = true) (hV : nx V = true) (hX : nx X = true) (e1 : callBox cx.call 37 [.ref 0] [.lst ds] = .ok (.int w) [.lst ds1])
    (e2 : callBox cx.call 35 [.ref 0, .int R, .int C, .int w] [.lst ds1] = .ok A [.lst ds2]) (e3 : callBox cx.call 35 [.ref 0, .int C, .int K, .int w] [.lst ds2] = .ok B [.lst ds3]) (vt : ∀ (h : Lh) (x y : D), vw h (.tup [x, y]) = some (true, [x, y]))
    (e4 : callBox cx.call 35 [.ref 0, .int R, .int C, .int w] [.lst ds3] = .ok F [.lst ds4]) (e5 : callBox cx.call 36 [.ref 0, .int C, .int w] [.lst ds4] = .ok V [.lst ds5]) (m1 : bop [.lst ds5] .mul (.int 2) (.int w) = some (.v (.int (2 * w)))) (e6 : callBox cx.call 30 [.ref 0, .int (2 * w + 1)] [.lst ds5] = .ok (.int d6) [.lst ds6]) (e7 : callBox cx.call 30 [.ref 0, .int 3] [.lst ds6] = .ok (.int d7) [.lst ds7])
    (i7 : item [.lst ds7] (.lst [.non, .int 0, .int (d6 - w)]) (.int d7) = some X) :
    (dropS 2 b__law_right).ev cx [some (.ref 0), some (.bl b), some (.int R), some (.int C), some (.int K), none, none, none, none, none, none, none, none, none, none, none, none] [.lst ds] = (dropS 6 b__law_right).ev cx (riE b R C K w A B F V X none) [.lst ds7] := by
  have sp : dropS 2 b__law_right = .cons (match dropS 2 b__law_right with | .cons s _ => s | _ => .pas) (.cons (match dropS 3 b__law_right with | .cons s _ => s | _ => .pas) (.cons (match dropS 4 b__law_right with | .cons s _ => s | _ => .pas) (.cons (match dropS 5 b__law_right with | .cons s _ => s | _ => .pas) (dropS 6 b__law_right)))) := rfl
  conv => lhs; rw [sp]
  generalize dropS 6 b__law_right = T
  simp only [dropS, b__law_right, wipe, Ss.ev, S.ev, E.ev, Es.ev, Eo.ev, It.ev, Tg.as, Tgs.as, arrange, callM, Rs.bind, Rs.at, rsO, Option.bind, Option.map, getV_z, getV_s, gv_int, gv_bl, gv_str, gv_ref, gv_lst, gv_tup, gv_dct, gv_non, startE, List.map, List.set_cons_zero, List.set_cons_succ, List.replicate, List.cons_append, List.nil_append, List.getElem?_cons_zero, List.getElem?_cons_succ, truth_bl, Bool.not_true, Bool.not_false, fin, P.put, lim, List.length_nil, List.length_cons, Nat.reduceAdd, Nat.reduceSub, Nat.reduceLeDiff, if_true, Rf.then, Rf.res, noexc, setAll, isn_non, isD_non, cop_lt, cop_le, cop_gt, cop_ge, eq_int, ne_int, bop_add, bop_sub, bound, Tgs.as, hA, hB, hF, hV, hX, e1, e2, e3, vt, e4, e5, m1, e6, e7, i7]
theorem rc_ok {cx : Cx} {b : Bool} {h : Lh} {R C K w : Int} {A B F V X U S1 P1 L1 : D} (hA : nx A = true) (hB : nx B = true) (hF : nx F = true) (hV : nx V = true) (hX : nx X = true) (hU : nx U = true) (hS : nx S1 = true) (be : beE.ev cx (riE b R C K w A B F V X none) h = .ok U h) (mo : moE.ev cx (riE b R C K w A B F V X (some U)) h = .ok S1 h)
    (c1 : callPure cx.call 43 [A, B] h = .ok P1 h) (t1 : callPure cx.call 45 [.int 0, A, B, P1, .bl b] h = .ok (.bl true) h) (c2 : callPure cx.call 34 [A, V] h = .ok L1 h) (t2 : callPure cx.call 45 [.int 1, A, V, L1, .bl (!b)] h = .ok (.bl true) h) (t3 : callPure cx.call 45 [.int 2, A, F, U, .bl b] h = .ok (.bl true) h) (t4 : callPure cx.call 45 [.int 3, A, X, S1, .bl (!b)] h = .ok (.bl true) h) :
    ((dropS 6 b__law_right).ev cx (riE b R C K w A B F V X none) h).res = .ok (.bl true) h := by
  rw [show dropS 6 b__law_right = .cons (.asg (.nm 11) beE) (.cons (.asg (.nm 12) moE) (dropS 8 b__law_right)) from rfl]
  have e : (dropS 8 b__law_right).ev cx [some (.ref 0), some (.bl b), some (.int R), some (.int C), some (.int K), some (.int w), some A, some B, some F, some V, some X, some U, some S1, none, none, none, none] h = .ok (.rt (.bl true)) h := by
    simp only [dropS, b__law_right, wipe, Ss.ev, S.ev, E.ev, Es.ev, Eo.ev, It.ev, Tg.as, Tgs.as, arrange, callM, Rs.bind, Rs.at, rsO, Option.bind, Option.map, getV_z, getV_s, gv_int, gv_bl, gv_str, gv_ref, gv_lst, gv_tup, gv_dct, gv_non, startE, List.map, List.set_cons_zero, List.set_cons_succ, List.replicate, List.cons_append, List.nil_append, List.getElem?_cons_zero, List.getElem?_cons_succ, truth_bl, Bool.not_true, Bool.not_false, fin, P.put, lim, List.length_nil, List.length_cons, Nat.reduceAdd, Nat.reduceSub, Nat.reduceLeDiff, if_true, Rf.then, Rf.res, noexc, setAll, isn_non, isD_non, cop_lt, cop_le, cop_gt, cop_ge, eq_int, ne_int, bop_add, bop_sub, bound, hA, hB, hF, hV, hX, hU, hS, c1, t1, c2, t2, t3, t4]
  generalize dropS 8 b__law_right = T at e
  generalize beE = E1 at be
  generalize moE = E2 at mo
  have s1 : (S.asg (.nm 11) E1).ev cx (riE b R C K w A B F V X none) h = .ok (.nx (riE b R C K w A B F V X (some U))) h := by
    simp only [S.ev, be, Rs.at, Tg.as, noexc, riE, List.set_cons_zero, List.set_cons_succ]
  have s2 : (S.asg (.nm 12) E2).ev cx (riE b R C K w A B F V X (some U)) h = .ok (.nx [some (.ref 0), some (.bl b), some (.int R), some (.int C), some (.int K), some (.int w), some A, some B, some F, some V, some X, some U, some S1, none, none, none, none]) h := by
    simp only [S.ev, mo, Rs.at, Tg.as, noexc, riE, List.set_cons_zero, List.set_cons_succ]
  simp only [Ss.ev, s1, s2, Rf.then, e, Rf.res]
theorem pickN {h : Lh} {x d : Int} (d0 : 0 ≤ d) (d1 : d < 3) : ∃ y : D, isNum y = true ∧ item h (.lst [.non, .int 0, .int x]) (.int d) = some y := by
  obtain ⟨y, hy, ey⟩ := item_lst (h := h) (ds := [.non, .int 0, .int x]) d0 (by exact d1) (by simp)
  rcases List.mem_cons.mp hy with rfl | hy
  · exact ⟨_, rfl, ey⟩
  rcases List.mem_cons.mp hy with rfl | hy
  · exact ⟨_, rfl, ey⟩
  · rw [List.mem_singleton.mp hy] at ey
    exact ⟨_, rfl, ey⟩
theorem r_right (n : Nat) {ds : List D} {N : Int} (hb : BoxAt N ds) (hN : N + 6000 < 999999999) (b : Bool) : ∃ ds', BoxAt (N + 3000) ds' ∧ run prog (n + 11) 47 [.ref 0, .bl b] [.lst ds] = .ok (.bl true) [.lst ds'] := by
  obtain ⟨R, C, K, ds0, R1, R2, C1, C2, K1, K2, hb0, e0⟩ := ra_ok (n + 9) hb (by omega) b
  obtain ⟨w, ds1, hw, hb1, e1'⟩ := r_law_wide (n + 8) (h := [.lst ds0]) (k := 0) rfl hb0 (by omega)
  obtain ⟨w1, w2, w3⟩ := wide_ok hw
  have e1 : callBox (run prog (n + 10)) 37 [.ref 0] [.lst ds0] = .ok (.int w) [.lst ds1] := box_call (h := [.lst ds0]) (k := 0) (rest := []) rfl rfl hb0.nref e1' hb1.nref rfl
  obtain ⟨A, ds2, rA, lA, hb2, e2⟩ := end_mat (n + 8) hb1 (by omega) (a := R) (c := C) R1 R2 C1 C2 w1 w2 w3
  obtain ⟨B, ds3, rB, lB, hb3, e3⟩ := end_mat (n + 8) hb2 (by omega) (a := C) (c := K) C1 C2 K1 K2 w1 w2 w3
  obtain ⟨F, ds4, rF, lF, hb4, e4⟩ := end_mat (n + 8) hb3 (by omega) (a := R) (c := C) R1 R2 C1 C2 w1 w2 w3
  obtain ⟨vs, ds5, lv, hv, hb5, e5⟩ := c_lvector (n + 8) hb4 (by omega) (c := C.toNat) (w := w) (by omega) w1 w2 w3 []
  rw [Int.toNat_of_nonneg (by omega)] at e5
  obtain ⟨d6, ds6, a1, a2, hb6, e6⟩ := c_take (n := n + 9) (H := []) hb5 (by omega) (many := 2 * w + 1) (by omega) w2
  obtain ⟨d7, ds7, a3, a4, hb7, e7⟩ := c_take (n := n + 9) (H := []) hb6 (by omega) (many := 3) (by decide) (by decide)
  obtain ⟨X, hX, i7⟩ := pickN (h := [.lst ds7]) (x := d6 - w) a3 a4
  have nA : nx (mat false A) = true := nx_sq _ _
  have nB : nx (mat false B) = true := nx_sq _ _
  have nF : nx (mat false F) = true := nx_sq _ _
  have nX := num_nx hX
  have l1 : F.length = A.length := by omega
  have hR : ((A.length : Nat) : Int) = R := by omega
  have hC : ((C.toNat : Nat) : Int) = C := Int.toNat_of_nonneg (by omega)
  have be := beE_ev (n + 9) rA rF l1 b K w (mat false B) (.lst vs) X [.lst ds7]
  rw [hR, hC] at be
  have mo := moE_ev (n + 9) rA hX b R C K w (mat false B) (mat false F) (.lst vs) (mat false (un A F)) [.lst ds7]
  refine ⟨ds7, hb7.mono (by omega), ?_⟩
  rw [run_env (n := n + 10) (fd := f__law_right) (env := [some (.ref 0), some (.bl b), none, none, none, none, none, none, none, none, none, none, none, none, none, none, none]) (by rfl) rfl rfl]
  show (b__law_right.ev _ _ _).res = _
  rw [e0, rb_ok nA nB nF (rfl : nx (.lst vs) = true) nX e1 e2 e3 vt2 e4 e5 (bop_mul _ _ _ w3) e6 e7 i7]
  exact rc_ok nA nB nF rfl nX (nx_sq _ _) (nx_sq _ _) be mo (c_lproduct (n + 7) rA rB lB [.lst ds7]) (t_pr n rA rB lB b [.lst ds7]) (c_lapplied (n + 8) (k := false) rA hv lv [.lst ds7]) (t_ap n rA hv lv (!b) [.lst ds7]) (t_un n rA rF l1 b [.lst ds7]) (t_sh n rA hX (!b) [.lst ds7])
end K02
end TB

end

section
set_option Elab.async false
set_option linter.all false
set_option maxRecDepth 100000
set_option maxHeartbeats 1000000
namespace TB
namespace K02
open PySem
/-! ### odd values -/
def oddN : List D := [.bl true, .str "1", .tup [.int 1], .lst [.int 1], .dct [] [], .bl false, .str "."]
def oddM : List D := [.int (-1), .int 201, .non, .bl true, .str "2", .tup [.int 2], .dct [] [], .int (10 ^ 20)]
theorem oddN_ok : oddN.all (fun d => d.sm && (decide (d.dep ≤ 4) && !isNum d)) = true := by decide +kernel
theorem oddM_ok : oddM.all (fun d => d.sm && (decide (d.dep ≤ 4) && !btw d)) = true := by decide +kernel
theorem oddN_of {d : D} (h : d ∈ oddN) : d.sm = true ∧ d.dep ≤ 4 ∧ isNum d = false := by
  obtain ⟨h1, h2⟩ := sp2 (List.all_eq_true.mp oddN_ok d h)
  obtain ⟨h2, h3⟩ := sp2 h2
  exact ⟨h1, of_decide_eq_true h2, by simpa using h3⟩
theorem oddM_of {d : D} (h : d ∈ oddM) : d.sm = true ∧ d.dep ≤ 4 ∧ btw d = false := by
  obtain ⟨h1, h2⟩ := sp2 (List.all_eq_true.mp oddM_ok d h)
  obtain ⟨h2, h3⟩ := sp2 h2
  exact ⟨h1, of_decide_eq_true h2, by simpa using h3⟩
abbrev nsE : E := .lst true (.cons (.lst true (.cons (.lst true (.cons (.cst (.int 1)) (.cons (.cst (.int 2)) .nil))) .nil)) (.cons (.lst true (.cons (.lst true (.cons (.cst (.int 1)) .nil)) (.cons (.lst true (.cons (.cst (.int 2)) .nil)) .nil))) (.cons (.lst true (.cons (.lst true (.cons (.cst (.int 1)) (.cons (.cst (.int 2)) (.cons (.cst (.int 3)) .nil)))) (.cons (.lst true (.cons (.cst (.int 4)) (.cons (.cst (.int 5)) (.cons (.cst (.int 6)) .nil)))) .nil))) (.cons (.tup (.cons (.lst true (.cons (.cst .non) (.cons (.cst (.int 0)) .nil))) .nil)) .nil))))
theorem nsE_ev (cx : Cx) (Z : Env) (h : Lh) : nsE.ev cx Z h = .ok (.lst nsq) h := by
  simp only [wipe, Ss.ev, S.ev, E.ev, Es.ev, Eo.ev, It.ev, Tg.as, Tgs.as, arrange, callM, Rs.bind, Rs.at, rsO, Option.bind, Option.map, getV_z, getV_s, gv_int, gv_bl, gv_str, gv_ref, gv_lst, gv_tup, gv_dct, gv_non, startE, List.map, List.set_cons_zero, List.set_cons_succ, List.replicate, List.cons_append, List.nil_append, List.getElem?_cons_zero, List.getElem?_cons_succ, truth_bl, Bool.not_true, Bool.not_false, fin, P.put, lim, List.length_nil, List.length_cons, Nat.reduceAdd, Nat.reduceSub, Nat.reduceLeDiff, if_true, Rf.then, Rf.res, noexc, setAll, isn_non, isD_non, cop_lt, cop_le, cop_gt, cop_ge, eq_int, ne_int, bop_add, bop_sub, bound, nsq]
abbrev nuE : E := .lst true (.cons (.cst (.bl true)) (.cons (.cst (.str "1")) (.cons (.tup (.cons (.cst (.int 1)) .nil)) (.cons (.lst true (.cons (.cst (.int 1)) .nil)) (.cons (.dct true [] .nil) (.cons (.cst (.bl false)) (.cons (.cst (.str ".")) .nil)))))))
theorem nuE_ev (cx : Cx) (Z : Env) (h : Lh) : nuE.ev cx Z h = .ok (.lst oddN) h := by
  simp only [wipe, Ss.ev, S.ev, E.ev, Es.ev, Eo.ev, It.ev, Tg.as, Tgs.as, arrange, callM, Rs.bind, Rs.at, rsO, Option.bind, Option.map, getV_z, getV_s, gv_int, gv_bl, gv_str, gv_ref, gv_lst, gv_tup, gv_dct, gv_non, startE, List.map, List.set_cons_zero, List.set_cons_succ, List.replicate, List.cons_append, List.nil_append, List.getElem?_cons_zero, List.getElem?_cons_succ, truth_bl, Bool.not_true, Bool.not_false, fin, P.put, lim, List.length_nil, List.length_cons, Nat.reduceAdd, Nat.reduceSub, Nat.reduceLeDiff, if_true, Rf.then, Rf.res, noexc, setAll, isn_non, isD_non, cop_lt, cop_le, cop_gt, cop_ge, eq_int, ne_int, bop_add, bop_sub, bound, oddN]
abbrev maE : E := .lst true (.cons (.neg (.cst (.int 1))) (.cons (.cst (.int 201)) (.cons (.cst .non) (.cons (.cst (.bl true)) (.cons (.cst (.str "2")) (.cons (.tup (.cons (.cst (.int 2)) .nil)) (.cons (.dct true [] .nil) (.cons (.bin .pow true (.cst (.int 10)) (.cst (.int 20))) .nil))))))))
theorem maE_ev (cx : Cx) (Z : Env) (h : Lh) : maE.ev cx Z h = .ok (.lst oddM) h := by
  have pT : bop h .pow (.int 10) (.int 20) = some (.v (.int (10 ^ 20))) := by
    rw [bop_pow _ _ _ (by decide)]; rfl
  simp only [wipe, Ss.ev, S.ev, E.ev, Es.ev, Eo.ev, It.ev, Tg.as, Tgs.as, arrange, callM, Rs.bind, Rs.at, rsO, Option.bind, Option.map, getV_z, getV_s, gv_int, gv_bl, gv_str, gv_ref, gv_lst, gv_tup, gv_dct, gv_non, startE, List.map, List.set_cons_zero, List.set_cons_succ, List.replicate, List.cons_append, List.nil_append, List.getElem?_cons_zero, List.getElem?_cons_succ, truth_bl, Bool.not_true, Bool.not_false, fin, P.put, lim, List.length_nil, List.length_cons, Nat.reduceAdd, Nat.reduceSub, Nat.reduceLeDiff, if_true, Rf.then, Rf.res, noexc, setAll, isn_non, isD_non, cop_lt, cop_le, cop_gt, cop_ge, eq_int, ne_int, bop_add, bop_sub, bound, oddM, pT]
theorem ns_a {cx : Cx} {ds ds1 ds2 : List D} {d1 : Int} {d : D} (e1 : callBox cx.call 30 [.ref 0, .int 3] [.lst ds] = .ok (.int d1) [.lst ds1]) (z : 0 < d1) (e2 : callBox cx.call 39 [.ref 0] [.lst ds1] = .ok d [.lst ds2]) : (b__law_no_square.ev cx [some (.ref 0)] [.lst ds]).res = .ok d [.lst ds2] := by
  have g := cop_gt [.lst ds1] d1 0
  rw [decide_eq_true z] at g
  rw [show b__law_no_square = .cons (.ret (.ite (.cmp .gt (.call .box 30 (.cons (.var 0) (.cons (.cst (.int 3)) .nil)) [0, 1]) (.cst (.int 0))) (.call .box 39 (.cons (.var 0) .nil) [0]) (.ix nsE (.call .box 30 (.cons (.var 0) (.cons (.cst (.int 4)) .nil)) [0, 1])))) .nil from rfl]
  generalize nsE = A
  simp only [Ss.ev, S.ev, E.ev, Es.ev, arrange, callM, Rs.bind, Rs.at, rsO, gv_ref, Option.bind, Option.map, List.getElem?_cons_zero, List.getElem?_cons_succ, e1, g, truth_bl, e2, Rf.then, Rf.res]
theorem ns_b {cx : Cx} {ds ds1 ds2 : List D} {d1 d2 : Int} {d : D} (e1 : callBox cx.call 30 [.ref 0, .int 3] [.lst ds] = .ok (.int d1) [.lst ds1]) (z : ¬ 0 < d1) (e2 : callBox cx.call 30 [.ref 0, .int 4] [.lst ds1] = .ok (.int d2) [.lst ds2]) (it : item [.lst ds2] (.lst nsq) (.int d2) = some d) : (b__law_no_square.ev cx [some (.ref 0)] [.lst ds]).res = .ok d [.lst ds2] := by
  have g := cop_gt [.lst ds1] d1 0
  rw [decide_eq_false z] at g
  rw [show b__law_no_square = .cons (.ret (.ite (.cmp .gt (.call .box 30 (.cons (.var 0) (.cons (.cst (.int 3)) .nil)) [0, 1]) (.cst (.int 0))) (.call .box 39 (.cons (.var 0) .nil) [0]) (.ix nsE (.call .box 30 (.cons (.var 0) (.cons (.cst (.int 4)) .nil)) [0, 1])))) .nil from rfl]
  have ev := nsE_ev cx [some (.ref 0)] [.lst ds1]
  generalize nsE = A at ev ⊢
  generalize nsq = Q at ev it
  simp only [Ss.ev, S.ev, E.ev, Es.ev, arrange, callM, Rs.bind, Rs.at, rsO, gv_ref, Option.bind, Option.map, List.getElem?_cons_zero, List.getElem?_cons_succ, e1, g, truth_bl, ev, e2, it, Rf.then, Rf.res]
theorem c_no_square (n : Nat) {ds : List D} {N : Int} (hb : BoxAt N ds) (hN : N + 10 < 999999999) : ∃ (d : D) (ds' : List D), d.sm = true ∧ d.dep ≤ 4 ∧ (∀ n h, callPure (run prog (n + 7)) 11 [d] h = .exc 2 [d] h) ∧ BoxAt (N + 2) ds' ∧ callBox (run prog (n + 3)) 40 [.ref 0] [.lst ds] = .ok d [.lst ds'] := by
  obtain ⟨d1, ds1, a1, a2, hb1, e1⟩ := c_take (n := n + 1) (H := []) hb (by omega) (many := 3) (by decide) (by decide)
  by_cases z : 0 < d1
  · obtain ⟨d, ds2, o1, o2, o3, hb2, e2⟩ := c_no_matrix n hb1 (by omega) []
    refine ⟨d, ds2, o1, o3, fun n h => c_sq_no n o1 o2 h, hb2.mono (by omega), box_call (h := [.lst ds]) (h1 := []) (k := 0) (rest := []) rfl rfl hb.nref ?_ hb2.nref (thaw_nref (D.sm_nref d o1))⟩
    rw [run_env (n := n + 2) (fd := f__law_no_square) (env := [some (.ref 0)]) (by rfl) rfl rfl]
    exact ns_a (cx := ⟨run prog (n + 2), prog.loop, prog.sub⟩) e1 z e2
  · obtain ⟨d2, ds2, a3, a4, hb2, e2⟩ := c_take (n := n + 1) (H := []) hb1 (by omega) (many := 4) (by decide) (by decide)
    obtain ⟨d, hd, it⟩ := item_lst (h := [.lst ds2]) (ds := nsq) a3 (by exact a4) (by show 4 ≤ 100000; decide)
    obtain ⟨o1, o2⟩ := sp2 (List.all_eq_true.mp nsq_ok d hd)
    refine ⟨d, ds2, o1, of_decide_eq_true o2, fun n h => c_sq_no4 n hd h, hb2.mono (by omega), box_call (h := [.lst ds]) (h1 := []) (k := 0) (rest := []) rfl rfl hb.nref ?_ hb2.nref (thaw_nref (D.sm_nref d o1))⟩
    rw [run_env (n := n + 2) (fd := f__law_no_square) (env := [some (.ref 0)]) (by rfl) rfl rfl]
    exact ns_b (cx := ⟨run prog (n + 2), prog.loop, prog.sub⟩) e1 z e2 it
/-! ### refused -/
abbrev exT (nm : Str) (x : D) : D := .lst [.str nm, x, .bl true]
theorem exT_ok {nm : Str} {x : D} (h1 : (D.str nm).sm = true) (h2 : x.sm = true) (h3 : x.dep ≤ 4) : (exT nm x).sm = true ∧ (exT nm x).dep ≤ 5 := ⟨lst_sm (by simp) (sms_cons h1 (sms_cons h2 rfl)), by show max 0 (max x.dep 0) + 1 ≤ 5; omega⟩
def rfB : Ss := match dropS 2 b__law_refused with
  | .cons (.fr _ _ b) _ => b
  | _ => .nil
abbrev rfE (b : Bool) (R C : Int) (A bd od : D) (x7 x8 x9 x10 x11 x12 : Option D) : Env := [some (.ref 0), some (.bl b), some (.int R), some (.int C), some A, some bd, some od, x7, x8, x9, x10, x11, x12, none, none, none, none]
theorem rf_a {cx : Cx} {b : Bool} {ds ds1 ds2 ds3 ds4 ds5 : List D} {d1 d2 : Int} {A bd od : D} (hA : nx A = true) (hb : nx bd = true) (ho : nx od = true) (e1 : callBox cx.call 30 [.ref 0, .int 3] [.lst ds] = .ok (.int d1) [.lst ds1]) (e2 : callBox cx.call 30 [.ref 0, .int 3] [.lst ds1] = .ok (.int d2) [.lst ds2])
    (e3 : callBox cx.call 35 [.ref 0, .int (1 + d1), .int (1 + d2), .int 3] [.lst ds2] = .ok A [.lst ds3]) (e4 : callBox cx.call 39 [.ref 0] [.lst ds3] = .ok bd [.lst ds4]) (e5 : callBox cx.call 39 [.ref 0] [.lst ds4] = .ok od [.lst ds5]) :
    b__law_refused.ev cx [some (.ref 0), some (.bl b), none, none, none, none, none, none, none, none, none, none, none, none, none, none, none] [.lst ds] = (Ss.cons (.fr (.nm 7) (.r1 (.cst (.int 5))) rfB) (dropS 3 b__law_refused)).ev cx (rfE b (1 + d1) (1 + d2) A bd od none none none none none none) [.lst ds5] := by
  have sp : b__law_refused = .cons (match b__law_refused with | .cons s _ => s | _ => .pas) (.cons (match dropS 1 b__law_refused with | .cons s _ => s | _ => .pas) (.cons (.fr (.nm 7) (.r1 (.cst (.int 5))) rfB) (dropS 3 b__law_refused))) := rfl
  conv => lhs; rw [sp]
  generalize Ss.cons (.fr (.nm 7) (.r1 (.cst (.int 5))) rfB) (dropS 3 b__law_refused) = T
  simp only [dropS, b__law_refused, wipe, Ss.ev, S.ev, E.ev, Es.ev, Eo.ev, It.ev, Tg.as, Tgs.as, arrange, callM, Rs.bind, Rs.at, rsO, Option.bind, Option.map, getV_z, getV_s, gv_int, gv_bl, gv_str, gv_ref, gv_lst, gv_tup, gv_dct, gv_non, startE, List.map, List.set_cons_zero, List.set_cons_succ, List.replicate, List.cons_append, List.nil_append, List.getElem?_cons_zero, List.getElem?_cons_succ, truth_bl, Bool.not_true, Bool.not_false, fin, P.put, lim, List.length_nil, List.length_cons, Nat.reduceAdd, Nat.reduceSub, Nat.reduceLeDiff, if_true, Rf.then, Rf.res, noexc, setAll, isn_non, isD_non, cop_lt, cop_le, cop_gt, cop_ge, eq_int, ne_int, bop_add, bop_sub, bound, hA, hb, ho, e1, e2, e3, e4, e5]
theorem rf_turn {cx : Cx} {b : Bool} {R C w : Int} {A bd od : D} {x8 x9 x10 x11 x12 : Option D} {h : Lh} (hb : nx bd = true) (ho : nx od = true) (c1 : callPure cx.call 42 [.int w, bd, od, .bl b] h = .ok (exT "matrix" bd) h) (c2 : callPure cx.call 31 [exT "matrix" bd, exT "matrix" bd] h = .ok (.bl true) h) :
    rfB.ev cx (rfE b R C A bd od (some (.int w)) x8 x9 x10 x11 x12) h = .ok (.nx (rfE b R C A bd od (some (.int w)) x8 x9 x10 x11 x12)) h := by
  simp only [rfB, dropS, b__law_refused, wipe, Ss.ev, S.ev, E.ev, Es.ev, Eo.ev, It.ev, Tg.as, Tgs.as, arrange, callM, Rs.bind, Rs.at, rsO, Option.bind, Option.map, getV_z, getV_s, gv_int, gv_bl, gv_str, gv_ref, gv_lst, gv_tup, gv_dct, gv_non, startE, List.map, List.set_cons_zero, List.set_cons_succ, List.replicate, List.cons_append, List.nil_append, List.getElem?_cons_zero, List.getElem?_cons_succ, truth_bl, Bool.not_true, Bool.not_false, fin, P.put, lim, List.length_nil, List.length_cons, Nat.reduceAdd, Nat.reduceSub, Nat.reduceLeDiff, if_true, Rf.then, Rf.res, noexc, setAll, isn_non, isD_non, cop_lt, cop_le, cop_gt, cop_ge, eq_int, ne_int, bop_add, bop_sub, bound, hb, ho, c1, c2]
theorem rf_c {cx : Cx} {b : Bool} {R C d1 d2 d3 : Int} {A bd od P1 P2 AP Q1 Q2 WD V X : D} {x7 : Option D} {ds ds1 ds2 ds3 ds4 ds5 ds6 ds7 ds8 : List D} (hP1 : nx P1 = true) (hP2 : nx P2 = true) (e1 : callBox cx.call 35 [.ref 0, .int (C + 1), .int R, .int 3] [.lst ds] = .ok P1 [.lst ds1]) (e2 : callBox cx.call 35 [.ref 0, .int (C + 1), .int 1, .int 2] [.lst ds1] = .ok P2 [.lst ds2]) (e3 : callBox cx.call 30 [.ref 0, .int 2] [.lst ds2] = .ok (.int d1) [.lst ds3]) (i1 : item [.lst ds3] (.lst [P1, P2]) (.int d1) = some AP)
    (e4 : callBox cx.call 35 [.ref 0, .int (R + 1), .int C, .int 3] [.lst ds3] = .ok Q1 [.lst ds4]) (e5 : callBox cx.call 35 [.ref 0, .int R, .int (C + 1), .int 3] [.lst ds4] = .ok Q2 [.lst ds5]) (e6 : callBox cx.call 30 [.ref 0, .int 2] [.lst ds5] = .ok (.int d2) [.lst ds6]) (i2 : item [.lst ds6] (.lst [Q1, Q2]) (.int d2) = some WD)
    (e7 : callBox cx.call 41 [.ref 0, .int C] [.lst ds6] = .ok V [.lst ds7]) (e8 : callBox cx.call 30 [.ref 0, .int 7] [.lst ds7] = .ok (.int d3) [.lst ds8]) (i3 : item [.lst ds8] (.lst oddN) (.int d3) = some X) :
    (dropS 3 b__law_refused).ev cx (rfE b R C A bd od x7 none none none none none) [.lst ds] = (dropS 6 b__law_refused).ev cx (rfE b R C A bd od x7 (some AP) (some WD) (some V) (some X) none) [.lst ds8] := by
  have sp : dropS 3 b__law_refused = .cons (match dropS 3 b__law_refused with | .cons s _ => s | _ => .pas) (.cons (match dropS 4 b__law_refused with | .cons s _ => s | _ => .pas) (.cons (.par [10, 11] (.cons (.call .box 41 (.cons (.var 0) (.cons (.var 3) .nil)) [0, 1]) (.cons (.ix nuE (.call .box 30 (.cons (.var 0) (.cons (.cst (.int 7)) .nil)) [0, 1])) .nil))) (dropS 6 b__law_refused))) := rfl
  conv => lhs; rw [sp]
  generalize dropS 6 b__law_refused = T
  have ev := nuE_ev cx (rfE b R C A bd od x7 (some AP) (some WD) none none none) [.lst ds7]
  generalize nuE = U at ev ⊢
  generalize oddN = O at ev i3
  simp only [dropS, b__law_refused, wipe, Ss.ev, S.ev, E.ev, Es.ev, Eo.ev, It.ev, Tg.as, Tgs.as, arrange, callM, Rs.bind, Rs.at, rsO, Option.bind, Option.map, getV_z, getV_s, gv_int, gv_bl, gv_str, gv_ref, gv_lst, gv_tup, gv_dct, gv_non, startE, List.map, List.set_cons_zero, List.set_cons_succ, List.replicate, List.cons_append, List.nil_append, List.getElem?_cons_zero, List.getElem?_cons_succ, truth_bl, Bool.not_true, Bool.not_false, fin, P.put, lim, List.length_nil, List.length_cons, Nat.reduceAdd, Nat.reduceSub, Nat.reduceLeDiff, if_true, Rf.then, Rf.res, noexc, setAll, isn_non, isD_non, cop_lt, cop_le, cop_gt, cop_ge, eq_int, ne_int, bop_add, bop_sub, bound, e1, e2, e3, i1, e4, e5, e6, i2, e7, ev, e8, i3]
abbrev duC : E := .comp true [16] (.nm 16) (.ex (.lst true (.cons (.var 6) (.cons (.var 8) (.cons (.var 6) (.cons (.var 9) .nil)))))) .no (.lst true (.cons (.cst (.str "matrix")) (.cons (.var 16) (.cons (.cst (.bl true)) .nil))))
theorem duC_ev (cx : Cx) {Z : Env} {od AP WD : D} {h : Lh} (n1 : nx od = true) (n2 : nx AP = true) (n3 : nx WD = true) (g6 : getV Z 6 = some od) (g8 : getV Z 8 = some AP) (g9 : getV Z 9 = some WD) (g16 : ∀ y, nx y = true → getV ((wipe Z [16]).set 16 (some y)) 16 = some y) : duC.ev cx Z h = .ok (.lst [exT "matrix" od, exT "matrix" AP, exT "matrix" od, exT "matrix" WD]) h := by
  have i : (It.ex (.lst true (.cons (.var 6) (.cons (.var 8) (.cons (.var 6) (.cons (.var 9) .nil)))))).ev cx Z h = .ok (.seq (.lst [od, AP, od, WD])) h := by
    simp only [wipe, Ss.ev, S.ev, E.ev, Es.ev, Eo.ev, It.ev, Tg.as, Tgs.as, arrange, callM, Rs.bind, Rs.at, rsO, Option.bind, Option.map, getV_z, getV_s, gv_int, gv_bl, gv_str, gv_ref, gv_lst, gv_tup, gv_dct, gv_non, startE, List.map, List.set_cons_zero, List.set_cons_succ, List.replicate, List.cons_append, List.nil_append, List.getElem?_cons_zero, List.getElem?_cons_succ, truth_bl, Bool.not_true, Bool.not_false, fin, P.put, lim, List.length_nil, List.length_cons, Nat.reduceAdd, Nat.reduceSub, Nat.reduceLeDiff, if_true, Rf.then, Rf.res, noexc, setAll, isn_non, isD_non, cop_lt, cop_le, cop_gt, cop_ge, eq_int, ne_int, bop_add, bop_sub, bound, g6, g8, g9]
  rw [comp_ev (src := .seq (.lst [od, AP, od, WD])) (ds := [od, AP, od, WD]) (fun d => [exT "matrix" d]) i rfl (by unfold lim; simp) fun x hx acc => step_map acc ?_]
  · rfl
  · have xx : nx x = true := by
      simp only [List.mem_cons, List.not_mem_nil, or_false] at hx
      rcases hx with rfl | rfl | rfl | rfl <;> assumption
    have g := g16 x xx
    simp only [wipe] at g
    simp only [wipe, Ss.ev, S.ev, E.ev, Es.ev, Eo.ev, It.ev, Tg.as, Tgs.as, arrange, callM, Rs.bind, Rs.at, rsO, Option.bind, Option.map, getV_z, getV_s, gv_int, gv_bl, gv_str, gv_ref, gv_lst, gv_tup, gv_dct, gv_non, startE, List.map, List.set_cons_zero, List.set_cons_succ, List.replicate, List.cons_append, List.nil_append, List.getElem?_cons_zero, List.getElem?_cons_succ, truth_bl, Bool.not_true, Bool.not_false, fin, P.put, lim, List.length_nil, List.length_cons, Nat.reduceAdd, Nat.reduceSub, Nat.reduceLeDiff, if_true, Rf.then, Rf.res, noexc, setAll, isn_non, isD_non, cop_lt, cop_le, cop_gt, cop_ge, eq_int, ne_int, bop_add, bop_sub, bound, g]
theorem rf_d {cx : Cx} {b : Bool} {R C : Int} {A bd od AP WD V X : D} {x7 : Option D} {h : Lh} (hA : nx A = true) (ho : nx od = true) (hP : nx AP = true) (hW : nx WD = true) (hV : nx V = true) (hX : nx X = true)
    (c1 : callPure cx.call 42 [.int 0, A, od, .bl b] h = .ok (exT "matrix" od) h) (c2 : callPure cx.call 42 [.int 0, A, AP, .bl (!b)] h = .ok (exT "matrix" AP) h) (c3 : callPure cx.call 42 [.int 2, A, od, .bl b] h = .ok (exT "matrix" od) h) (c4 : callPure cx.call 42 [.int 2, A, WD, .bl (!b)] h = .ok (exT "matrix" WD) h)
    (s1 : callPure cx.call 31 [.lst [exT "matrix" od, exT "matrix" AP, exT "matrix" od, exT "matrix" WD], .lst [exT "matrix" od, exT "matrix" AP, exT "matrix" od, exT "matrix" WD]] h = .ok (.bl true) h)
    (c5 : callPure cx.call 42 [.int 1, A, V, .bl b] h = .ok (exT "vector" V) h) (c6 : callPure cx.call 42 [.int 3, A, X, .bl b] h = .ok (exT "number" X) h) (s2 : callPure cx.call 31 [.lst [exT "vector" V, exT "number" X], .lst [exT "vector" V, exT "number" X]] h = .ok (.bl true) h) :
    (dropS 6 b__law_refused).ev cx (rfE b R C A bd od x7 (some AP) (some WD) (some V) (some X) none) h = (dropS 9 b__law_refused).ev cx (rfE b R C A bd od x7 (some AP) (some WD) (some V) (some X) (some (.lst [exT "matrix" od, exT "matrix" AP, exT "matrix" od, exT "matrix" WD]))) h := by
  have sp : dropS 6 b__law_refused = .cons (match dropS 6 b__law_refused with | .cons s _ => s | _ => .pas) (.cons (.ite (.not (.call .pure 31 (.cons (.var 12) (.cons duC .nil)) [0, 1])) (.cons (.ret (.cst (.bl false))) .nil) .nil) (.cons (match dropS 8 b__law_refused with | .cons s _ => s | _ => .pas) (dropS 9 b__law_refused))) := rfl
  conv => lhs; rw [sp]
  generalize dropS 9 b__law_refused = T
  have ev := duC_ev cx (Z := rfE b R C A bd od x7 (some AP) (some WD) (some V) (some X) (some (.lst [exT "matrix" od, exT "matrix" AP, exT "matrix" od, exT "matrix" WD]))) (h := h) ho hP hW (getV_z (s := []) ho) (getV_z (s := []) hP) (getV_z (s := []) hW) (fun y hy => getV_z (s := []) hy)
  generalize duC = U at ev ⊢
  simp only [dropS, b__law_refused, wipe, Ss.ev, S.ev, E.ev, Es.ev, Eo.ev, It.ev, Tg.as, Tgs.as, arrange, callM, Rs.bind, Rs.at, rsO, Option.bind, Option.map, getV_z, getV_s, gv_int, gv_bl, gv_str, gv_ref, gv_lst, gv_tup, gv_dct, gv_non, startE, List.map, List.set_cons_zero, List.set_cons_succ, List.replicate, List.cons_append, List.nil_append, List.getElem?_cons_zero, List.getElem?_cons_succ, truth_bl, Bool.not_true, Bool.not_false, fin, P.put, lim, List.length_nil, List.length_cons, Nat.reduceAdd, Nat.reduceSub, Nat.reduceLeDiff, if_true, Rf.then, Rf.res, noexc, setAll, isn_non, isD_non, cop_lt, cop_le, cop_gt, cop_ge, eq_int, ne_int, bop_add, bop_sub, bound, hA, ho, hP, hW, hV, hX, c1, c2, c3, c4, ev, s1, c5, c6, s2]
theorem rf_e {cx : Cx} {b : Bool} {R C d1 : Int} {A bd od B mn nn : D} {x7 x8 x9 x10 x11 x12 : Option D} {ds ds1 ds2 ds3 : List D} (hB : nx B = true) (hm : nx mn = true) (hn : nx nn = true) (e1 : callBox cx.call 35 [.ref 0, .int R, .int R, .int 3] [.lst ds] = .ok B [.lst ds1]) (e2 : callBox cx.call 30 [.ref 0, .int 8] [.lst ds1] = .ok (.int d1) [.lst ds2]) (i1 : item [.lst ds2] (.lst oddM) (.int d1) = some mn)
    (e3 : callBox cx.call 40 [.ref 0] [.lst ds2] = .ok nn [.lst ds3]) (c1 : callPure cx.call 42 [.int 4, nn, mn, .bl b] [.lst ds3] = .ok (exT "matrix" nn) [.lst ds3]) (c2 : callPure cx.call 42 [.int 4, B, mn, .bl (!b)] [.lst ds3] = .ok (exT "many" mn) [.lst ds3]) (s1 : callPure cx.call 31 [.lst [exT "matrix" nn, exT "many" mn], .lst [exT "matrix" nn, exT "many" mn]] [.lst ds3] = .ok (.bl true) [.lst ds3]) :
    ((dropS 9 b__law_refused).ev cx (rfE b R C A bd od x7 x8 x9 x10 x11 x12) [.lst ds]).res = .ok (.bl true) [.lst ds3] := by
  have sp : dropS 9 b__law_refused = .cons (.par [13, 14] (.cons (.call .box 35 (.cons (.var 0) (.cons (.var 2) (.cons (.var 2) (.cons (.cst (.int 3)) .nil)))) [0, 1, 2, 3]) (.cons (.ix maE (.call .box 30 (.cons (.var 0) (.cons (.cst (.int 8)) .nil)) [0, 1])) .nil))) (dropS 10 b__law_refused) := rfl
  conv => lhs; rw [sp]
  have ev := maE_ev cx (rfE b R C A bd od x7 x8 x9 x10 x11 x12) [.lst ds1]
  generalize maE = U at ev ⊢
  generalize oddM = O at ev i1
  simp only [dropS, b__law_refused, wipe, Ss.ev, S.ev, E.ev, Es.ev, Eo.ev, It.ev, Tg.as, Tgs.as, arrange, callM, Rs.bind, Rs.at, rsO, Option.bind, Option.map, getV_z, getV_s, gv_int, gv_bl, gv_str, gv_ref, gv_lst, gv_tup, gv_dct, gv_non, startE, List.map, List.set_cons_zero, List.set_cons_succ, List.replicate, List.cons_append, List.nil_append, List.getElem?_cons_zero, List.getElem?_cons_succ, truth_bl, Bool.not_true, Bool.not_false, fin, P.put, lim, List.length_nil, List.length_cons, Nat.reduceAdd, Nat.reduceSub, Nat.reduceLeDiff, if_true, Rf.then, Rf.res, noexc, setAll, isn_non, isD_non, cop_lt, cop_le, cop_gt, cop_ge, eq_int, ne_int, bop_add, bop_sub, bound, hB, hm, hn, e1, ev, e2, i1, e3, c1, c2, s1]
end K02
end TB

end

section
set_option Elab.async false
set_option linter.all false
set_option maxRecDepth 100000
set_option maxHeartbeats 1000000
namespace TB
namespace K02
open PySem
theorem deps_le {k : Nat} : ∀ {ds : List D}, (∀ d ∈ ds, d.dep ≤ k) → deps ds ≤ k
  | [], _ => Nat.zero_le _
  | d :: ds, h => by
    show max d.dep (deps ds) ≤ k
    have h1 := h d List.mem_cons_self
    have h2 := deps_le fun x hx => h x (List.mem_cons_of_mem _ hx)
    omega
theorem lst_dep {k : Nat} {ds : List D} (h : ∀ d ∈ ds, d.dep ≤ k) : (D.lst ds).dep ≤ k + 1 := by
  show deps ds + 1 ≤ k + 1
  have := deps_le h
  omega
theorem lst_ok {ds : List D} (l : ds.length ≤ 100) (h : ∀ d ∈ ds, d.sm = true ∧ d.dep ≤ 5) : (D.lst ds).sm = true ∧ (D.lst ds).dep ≤ 6 := ⟨lst_sm (by omega) (sms_of fun d hd => (h d hd).1), lst_dep fun d hd => (h d hd).2⟩
theorem mat_d {m : List (List D)} {w : Nat} (r : Rect m w) : (mat false m).dep ≤ 4 := Nat.le_trans (rect_dep (k := false) fun x hx y hy => (r.hr x hx).2 y hy) (by omega)
theorem pick_ab {h : Lh} {a c : D} {d : Int} (d0 : 0 ≤ d) (d1 : d < 2) : item h (.lst [a, c]) (.int d) = some a ∨ item h (.lst [a, c]) (.int d) = some c := by
  obtain ⟨y, hy, ey⟩ := item_lst (h := h) (ds := [a, c]) d0 (by exact d1) (by simp)
  rcases List.mem_cons.mp hy with rfl | hy
  · exact .inl ey
  · rw [List.mem_singleton.mp hy] at ey
    exact .inr ey
theorem r_refused (n : Nat) {ds : List D} {N : Int} (hb : BoxAt N ds) (hN : N + 9000 < 999999999) (b : Bool) : ∃ ds', BoxAt (N + 6000) ds' ∧ run prog (n + 10) 48 [.ref 0, .bl b] [.lst ds] = .ok (.bl true) [.lst ds'] := by
  obtain ⟨d1, ds1, a1, a2, hb1, e1⟩ := c_take (n := n + 8) (H := []) hb (by omega) (many := 3) (by decide) (by decide)
  obtain ⟨d2, ds2, a3, a4, hb2, e2⟩ := c_take (n := n + 8) (H := []) hb1 (by omega) (many := 3) (by decide) (by decide)
  obtain ⟨A, ds3, rA, lA, hb3, e3⟩ := end_mat (n + 7) hb2 (by omega) (a := 1 + d1) (c := 1 + d2) (w := 3) (by omega) (by omega) (by omega) (by omega) (by decide) (by decide) (by decide)
  obtain ⟨bd, ds4, b1, b2, b3, hb4, e4⟩ := c_no_matrix (n + 7) hb3 (by omega) []
  obtain ⟨od, ds5, o1, o2, o3, hb5, e5⟩ := c_no_matrix (n + 7) hb4 (by omega) []
  obtain ⟨P1, ds6, rP1, lP1, hb6, e6⟩ := end_mat (n + 7) hb5 (by omega) (a := 1 + d2 + 1) (c := 1 + d1) (w := 3) (by omega) (by omega) (by omega) (by omega) (by decide) (by decide) (by decide)
  obtain ⟨P2, ds7, rP2, lP2, hb7, e7⟩ := end_mat (n + 7) hb6 (by omega) (a := 1 + d2 + 1) (c := 1) (w := 2) (by omega) (by omega) (by omega) (by omega) (by decide) (by decide) (by decide)
  obtain ⟨d3, ds8, a5, a6, hb8, e8⟩ := c_take (n := n + 8) (H := []) hb7 (by omega) (many := 2) (by decide) (by decide)
  obtain ⟨Q1, ds9, rQ1, lQ1, hb9, e9⟩ := end_mat (n + 7) hb8 (by omega) (a := 1 + d1 + 1) (c := 1 + d2) (w := 3) (by omega) (by omega) (by omega) (by omega) (by decide) (by decide) (by decide)
  obtain ⟨Q2, ds10, rQ2, lQ2, hb10, e10⟩ := end_mat (n + 7) hb9 (by omega) (a := 1 + d1) (c := 1 + d2 + 1) (w := 3) (by omega) (by omega) (by omega) (by omega) (by decide) (by decide) (by decide)
  obtain ⟨d4, ds11, a7, a8, hb11, e11⟩ := c_take (n := n + 8) (H := []) hb10 (by omega) (many := 2) (by decide) (by decide)
  obtain ⟨V, ds12, v1, v2, v3, hb12, e12⟩ := c_no_vector (n + 7) hb11 (by omega) (c := (1 + d2).toNat) (by omega) (by omega) []
  rw [Int.toNat_of_nonneg (by omega)] at e12
  obtain ⟨d5, ds13, a9, a10, hb13, e13⟩ := c_take (n := n + 8) (H := []) hb12 (by omega) (many := 7) (by decide) (by decide)
  obtain ⟨X, hX, i3⟩ := item_lst (h := [.lst ds13]) (ds := oddN) a9 (by exact a10) (by show 7 ≤ 100000; decide)
  obtain ⟨x1, x2, x3⟩ := oddN_of hX
  obtain ⟨AP, wA, rAP, hAP, i1⟩ : ∃ (AP : List (List D)) (wA : Nat), Rect AP wA ∧ AP.length ≠ (1 + d2).toNat ∧ item [.lst ds8] (.lst [mat false P1, mat false P2]) (.int d3) = some (mat false AP) := by
    rcases pick_ab (h := [.lst ds8]) (a := mat false P1) (c := mat false P2) a5 a6 with e | e
    · exact ⟨P1, _, rP1, by omega, e⟩
    · exact ⟨P2, _, rP2, by omega, e⟩
  obtain ⟨WD, wW, rWD, hWD, i2⟩ : ∃ (WD : List (List D)) (wW : Nat), Rect WD wW ∧ ¬ (WD.length = A.length ∧ wW = (1 + d2).toNat) ∧ item [.lst ds11] (.lst [mat false Q1, mat false Q2]) (.int d4) = some (mat false WD) := by
    rcases pick_ab (h := [.lst ds11]) (a := mat false Q1) (c := mat false Q2) a7 a8 with e | e
    · exact ⟨Q1, _, rQ1, by omega, e⟩
    · exact ⟨Q2, _, rQ2, by omega, e⟩
  obtain ⟨B, ds14, rB, lB, hb14, e14⟩ := end_mat (n + 7) hb13 (by omega) (a := 1 + d1) (c := 1 + d1) (w := 3) (by omega) (by omega) (by omega) (by omega) (by decide) (by decide) (by decide)
  obtain ⟨d6, ds15, a11, a12, hb15, e15⟩ := c_take (n := n + 8) (H := []) hb14 (by omega) (many := 8) (by decide) (by decide)
  obtain ⟨mn, hmn, i4⟩ := item_lst (h := [.lst ds15]) (ds := oddM) a11 (by exact a12) (by show 8 ≤ 100000; decide)
  obtain ⟨m1, m2, m3⟩ := oddM_of hmn
  obtain ⟨nn, ds16, q1, q2, q3, hb16, e16⟩ := c_no_square (n + 6) hb15 (by omega)
  have nA : nx (mat false A) = true := nx_sq _ _
  have nB : nx (mat false B) = true := nx_sq _ _
  have nP1 : nx (mat false P1) = true := nx_sq _ _
  have nP2 : nx (mat false P2) = true := nx_sq _ _
  have nAP : nx (mat false AP) = true := nx_sq _ _
  have nWD : nx (mat false WD) = true := nx_sq _ _
  have nb := sm_nx b1
  have no := sm_nx o1
  have nV := sm_nx v1
  have nX := sm_nx x1
  have nm := sm_nx m1
  have nn' := sm_nx q1
  have sA := rA.sm false
  obtain ⟨T1, T1'⟩ := exT_ok nm_sm.1 b1 b3
  obtain ⟨T2, T2'⟩ := exT_ok nm_sm.1 o1 o3
  obtain ⟨T3, T3'⟩ := exT_ok nm_sm.1 (rAP.sm false) (mat_d rAP)
  obtain ⟨T4, T4'⟩ := exT_ok nm_sm.1 (rWD.sm false) (mat_d rWD)
  obtain ⟨T5, T5'⟩ := exT_ok nm_sm.2.1 v1 (by omega)
  obtain ⟨T6, T6'⟩ := exT_ok nm_sm.2.2.1 x1 x2
  obtain ⟨T7, T7'⟩ := exT_ok nm_sm.1 q1 q2
  obtain ⟨T8, T8'⟩ := exT_ok nm_sm.2.2.2.1 m1 m2
  obtain ⟨L1, L1'⟩ := lst_ok (ds := [exT "matrix" od, exT "matrix" (mat false AP), exT "matrix" od, exT "matrix" (mat false WD)]) (by simp) fun d hd => by
    simp only [List.mem_cons, List.not_mem_nil, or_false] at hd
    rcases hd with rfl | rfl | rfl | rfl
    · exact ⟨T2, T2'⟩
    · exact ⟨T3, T3'⟩
    · exact ⟨T2, T2'⟩
    · exact ⟨T4, T4'⟩
  obtain ⟨L2, L2'⟩ := lst_ok (ds := [exT "vector" V, exT "number" X]) (by simp) fun d hd => by
    simp only [List.mem_cons, List.not_mem_nil, or_false] at hd
    rcases hd with rfl | rfl
    · exact ⟨T5, T5'⟩
    · exact ⟨T6, T6'⟩
  obtain ⟨L3, L3'⟩ := lst_ok (ds := [exT "matrix" nn, exT "many" mn]) (by simp) fun d hd => by
    simp only [List.mem_cons, List.not_mem_nil, or_false] at hd
    rcases hd with rfl | rfl
    · exact ⟨T7, T7'⟩
    · exact ⟨T8, T8'⟩
  have c1 : callPure (run prog (n + 9)) 42 [.int 0, mat false A, od, .bl b] [.lst ds13] = .ok (exT "matrix" od) [.lst ds13] := c_met_exc (.inl ⟨rfl, rfl⟩) (w := 0) (by decide) sA o1 (D.sm_nref _ o1) (fun h => d_times_no n (k := false) rA o1 o2 h) _
  have c2 : callPure (run prog (n + 9)) 42 [.int 0, mat false A, mat false AP, .bl (!b)] [.lst ds13] = .ok (exT "matrix" (mat false AP)) [.lst ds13] := c_met_exc (.inl ⟨rfl, rfl⟩) (w := 0) (by decide) sA (rAP.sm false) (mat_nref rAP) (fun h => d_times_apart n (k := false) (k' := false) rA rAP hAP h) _
  have c3 : callPure (run prog (n + 9)) 42 [.int 2, mat false A, od, .bl b] [.lst ds13] = .ok (exT "matrix" od) [.lst ds13] := c_met_exc (.inl ⟨rfl, rfl⟩) (w := 2) (by decide) sA o1 (D.sm_nref _ o1) (fun h => un_exc n nA no (fun h => c_size_no2 n (k := false) rA o1 o2 h) h) _
  have c4 : callPure (run prog (n + 9)) 42 [.int 2, mat false A, mat false WD, .bl (!b)] [.lst ds13] = .ok (exT "matrix" (mat false WD)) [.lst ds13] := c_met_exc (.inl ⟨rfl, rfl⟩) (w := 2) (by decide) sA (rWD.sm false) (mat_nref rWD) (fun h => un_exc n nA nWD (fun h => (c_size n (k := false) (k' := false) rA rWD h).trans (if_neg hWD)) h) _
  have c5 : callPure (run prog (n + 9)) 42 [.int 1, mat false A, V, .bl b] [.lst ds13] = .ok (exT "vector" V) [.lst ds13] := c_met_exc (.inr (.inl ⟨rfl, rfl⟩)) (w := 1) (by decide) sA v1 (D.sm_nref _ v1) (fun h => d_applied_no n (k := false) rA v1 v3 h) _
  have c6 : callPure (run prog (n + 9)) 42 [.int 3, mat false A, X, .bl b] [.lst ds13] = .ok (exT "number" X) [.lst ds13] := c_met_exc (.inr (.inr (.inl ⟨rfl, rfl⟩))) (w := 3) (by decide) sA x1 (D.sm_nref _ x1) (fun h => d_shifted_no n (k := false) rA x1 x3 h) _
  have c7 : callPure (run prog (n + 9)) 42 [.int 4, nn, mn, .bl b] [.lst ds16] = .ok (exT "matrix" nn) [.lst ds16] := c_met_exc (.inl ⟨rfl, rfl⟩) (w := 4) (by decide) q1 m1 (D.sm_nref _ q1) (fun h => pow_exc n nn' (fun h => q3 n h) h) _
  have c8 : callPure (run prog (n + 9)) 42 [.int 4, mat false B, mn, .bl (!b)] [.lst ds16] = .ok (exT "many" mn) [.lst ds16] := c_met_exc (.inr (.inr (.inr ⟨rfl, rfl⟩))) (w := 4) (by decide) (rB.sm false) m1 (D.sm_nref _ m1) (fun h => d_power_no n (k := false) rB lB m1 m3 h) _
  obtain ⟨s', h', ⟨rfl, x7, rfl⟩, e⟩ := fr_inv (cx := ⟨run prog (n + 9), prog.loop, prog.sub⟩) (t := .nm 7) (it := .r1 (.cst (.int 5))) (b := rfB) (s := rfE b (1 + d1) (1 + d2) (mat false A) bd od none none none none none none) (h := [.lst ds5]) (src := .rng 0 1 5) (ds := iotaD 5)
    (Inv := fun _ s h => [.lst ds5] = h ∧ ∃ x7, s = rfE b (1 + d1) (1 + d2) (mat false A) bd od x7 none none none none none) rfl (fun h => rfl) (fun h i hi => rng_at hi) ⟨rfl, none, rfl⟩ (by
      rintro w d s h hd ⟨rfl, x7, rfl⟩
      obtain ⟨hw, rfl⟩ := iota_get hd
      have hw : w < 5 := hw
      exact ⟨_, _, ⟨rfl, some (.int (w : Nat)), rfl⟩, rf_turn nb no (c_met_exc (.inl ⟨rfl, rfl⟩) hw b1 o1 (D.sm_nref _ b1) (fun h => d_bad n b1 o1 b2 w hw h) _) (c_same (n + 8) T1 (by omega) _)⟩)
  refine ⟨ds16, hb16.mono (by omega), ?_⟩
  rw [run_env (n := n + 9) (fd := f__law_refused) (env := [some (.ref 0), some (.bl b), none, none, none, none, none, none, none, none, none, none, none, none, none, none, none]) (by rfl) rfl rfl]
  show (b__law_refused.ev _ _ _).res = _
  rw [rf_a (cx := ⟨run prog (n + 9), prog.loop, prog.sub⟩) nA nb no e1 e2 e3 e4 e5]
  have st := rf_c (cx := ⟨run prog (n + 9), prog.loop, prog.sub⟩) (b := b) (R := 1 + d1) (C := 1 + d2) (A := mat false A) (bd := bd) (od := od) (x7 := x7) nP1 nP2 e6 e7 e8 i1 e9 e10 e11 i2 e12 e13 i3
  have sd := rf_d (cx := ⟨run prog (n + 9), prog.loop, prog.sub⟩) (b := b) (R := 1 + d1) (C := 1 + d2) (bd := bd) (x7 := x7) nA no nAP nWD nV nX c1 c2 c3 c4 (c_same (n + 8) L1 (by omega) _) c5 c6 (c_same (n + 8) L2 (by omega) _)
  have se := rf_e (cx := ⟨run prog (n + 9), prog.loop, prog.sub⟩) (b := b) (R := 1 + d1) (C := 1 + d2) (A := mat false A) (bd := bd) (od := od) (x7 := x7) (x8 := some (mat false AP)) (x9 := some (mat false WD)) (x10 := some V) (x11 := some X) (x12 := some (.lst [exT "matrix" od, exT "matrix" (mat false AP), exT "matrix" od, exT "matrix" (mat false WD)])) nB nm nn' e14 e15 i4 e16 c7 c8 (c_same (n + 8) L3 (by omega) _)
  rw [← sd, ← st] at se
  generalize dropS 3 b__law_refused = T at se
  generalize rfB = T2 at e
  simp only [Ss.ev, e, Rf.then]
  exact se
/-! ### the law -/
theorem end_of {f : Nat} {n : Nat} {ds ds' : List D} {N : Int} (h0 : Lh) (b : Bool) (hb : BoxAt N ds) {M : Int} (hb' : BoxAt M ds') (e : run prog n f [.ref 0, .bl b] [.lst ds] = .ok (.bl true) [.lst ds']) : callBox (run prog n) f [.ref h0.length, .bl b] (h0 ++ [.lst ds]) = .ok (.bl true) (h0 ++ [.lst ds']) :=
  end_call (h1 := []) h0 rfl hb.nref e hb'.nref rfl
def lawB : Ss := match b_law with
  | .cons (.fr _ _ b) _ => b
  | _ => .nil
theorem law_a {cx : Cx} {k x : Int} {j : Nat} {h h1 h2 : Lh} {d : Int} {x2 x3 : Option D} (e1 : cx.call 28 [.ref 0, .int k] h = .ok (.int x) h) (e2 : cx.call 29 [.int x] h = .ok (.ref j) h1) (e3 : callBox cx.call 30 [.ref j, .int 2] h1 = .ok (.int d) h2) :
    lawB.ev cx [some (.ref 0), some (.int k), x2, x3] h = (dropS 2 lawB).ev cx [some (.ref 0), some (.int k), some (.ref j), some (.bl (decide (d = 1)))] h2 := by
  have sp : lawB = .cons (match lawB with | .cons s _ => s | _ => .pas) (.cons (match dropS 1 lawB with | .cons s _ => s | _ => .pas) (dropS 2 lawB)) := rfl
  conv => lhs; rw [sp]
  generalize dropS 2 lawB = T
  have ec := eq_int h2 d 1
  simp only [dropS, lawB, b_law, wipe, Ss.ev, S.ev, E.ev, Es.ev, Eo.ev, It.ev, Tg.as, Tgs.as, arrange, callM, Rs.bind, Rs.at, rsO, Option.bind, Option.map, getV_z, getV_s, gv_int, gv_bl, gv_str, gv_ref, gv_lst, gv_tup, gv_dct, gv_non, startE, List.map, List.set_cons_zero, List.set_cons_succ, List.replicate, List.cons_append, List.nil_append, List.getElem?_cons_zero, List.getElem?_cons_succ, truth_bl, Bool.not_true, Bool.not_false, fin, P.put, lim, List.length_nil, List.length_cons, Nat.reduceAdd, Nat.reduceSub, Nat.reduceLeDiff, if_true, Rf.then, Rf.res, noexc, setAll, isn_non, isD_non, cop_lt, cop_le, cop_gt, cop_ge, bop_add, bop_sub, bound, e1, e2, e3, ec]
theorem law_b {cx : Cx} {x0 x1 : Option D} {k : Nat} {b : Bool} {h h1 h2 h3 h4 : Lh} (e1 : callBox cx.call 47 [.ref k, .bl b] h = .ok (.bl true) h1) (e2 : callBox cx.call 46 [.ref k, .bl (!b)] h1 = .ok (.bl true) h2) (e3 : callBox cx.call 48 [.ref k, .bl b] h2 = .ok (.bl true) h3) (e4 : callBox cx.call 48 [.ref k, .bl (!b)] h3 = .ok (.bl true) h4) : (dropS 2 lawB).ev cx [x0, x1, some (.ref k), some (.bl b)] h = .ok (.nx [x0, x1, some (.ref k), some (.bl b)]) h4 := by
  simp only [dropS, lawB, b_law, wipe, Ss.ev, S.ev, E.ev, Es.ev, Eo.ev, It.ev, Tg.as, Tgs.as, arrange, callM, Rs.bind, Rs.at, rsO, Option.bind, Option.map, getV_z, getV_s, gv_int, gv_bl, gv_str, gv_ref, gv_lst, gv_tup, gv_dct, gv_non, startE, List.map, List.set_cons_zero, List.set_cons_succ, List.replicate, List.cons_append, List.nil_append, List.getElem?_cons_zero, List.getElem?_cons_succ, truth_bl, Bool.not_true, Bool.not_false, fin, P.put, lim, List.length_nil, List.length_cons, Nat.reduceAdd, Nat.reduceSub, Nat.reduceLeDiff, if_true, Rf.then, Rf.res, noexc, setAll, isn_non, isD_non, cop_lt, cop_le, cop_gt, cop_ge, eq_int, ne_int, bop_add, bop_sub, bound, e1, e2, e3, e4]
theorem law_turn (n : Nat) {ns : List Int} (hl : ns.length ≤ 63) (k : Nat) (hk : k < 3) (h : Lh) (hh : h[0]? = some (.ro (ns.map .int))) (x2 x3 : Option D) :
    ∃ y2 y3 ds', lawB.ev ⟨run prog (n + 11), prog.loop, prog.sub⟩ [some (.ref 0), some (.int k), x2, x3] h = .ok (.nx [some (.ref 0), some (.int k), y2, y3]) (h ++ [.lst ds']) := by
  obtain ⟨x, ex⟩ := r_law_cell (n + 10) hl k hk hh
  obtain ⟨ds0, hb0, e0⟩ := r_law_box (n + 10) x h
  obtain ⟨d1, ds1, a1, a2, hb1, e1⟩ := end_take (n + 10) h hb0 (by decide) (many := 2) (by decide) (by decide)
  obtain ⟨ds2, hb2, e2⟩ := r_right n hb1 (by decide) (decide (d1 = 1))
  obtain ⟨ds3, hb3, e3⟩ := r_powers n hb2 (by decide) (!decide (d1 = 1))
  obtain ⟨ds4, hb4, e4⟩ := r_refused (n + 1) hb3 (by decide) (decide (d1 = 1))
  obtain ⟨ds5, hb5, e5⟩ := r_refused (n + 1) hb4 (by decide) (!decide (d1 = 1))
  refine ⟨some (.ref h.length), some (.bl (decide (d1 = 1))), ds5, ?_⟩
  rw [law_a (cx := ⟨run prog (n + 11), prog.loop, prog.sub⟩) (x2 := x2) (x3 := x3) ex e0 e1]
  exact law_b (end_of h _ hb1 hb2 e2) (end_of h _ hb2 hb3 e3) (end_of h _ hb3 hb4 e4) (end_of h _ hb4 hb5 e5)
theorem law_plain (ns : List Int) (hl : ns.length ≤ 63) : ∃ h', run prog 30 49 [.ref 0] [.ro (ns.map .int)] = .ok (.bl true) h' := by
  obtain ⟨s', h', ⟨_, x1, x2, x3, rfl⟩, e⟩ := fr_inv (cx := ⟨run prog 29, prog.loop, prog.sub⟩) (t := .nm 1) (it := .r1 (.cst (.int 3))) (b := lawB) (s := [some (.ref 0), none, none, none]) (h := [.ro (ns.map .int)]) (src := .rng 0 1 3) (ds := iotaD 3)
    (Inv := fun _ s h => h[0]? = some (.ro (ns.map .int)) ∧ ∃ x1 x2 x3, s = [some (.ref 0), x1, x2, x3]) rfl (fun h => rfl) (fun h i hi => rng_at hi) ⟨rfl, none, none, none, rfl⟩ (by
      rintro i d s h hd ⟨hh, x1, x2, x3, rfl⟩
      obtain ⟨hi, rfl⟩ := iota_get hd
      obtain ⟨y2, y3, ds', e⟩ := law_turn 18 hl i hi h hh x2 x3
      refine ⟨_, _, ⟨?_, _, _, _, rfl⟩, e⟩
      rw [List.getElem?_append_left (List.getElem?_eq_some_iff.mp hh).1]
      exact hh)
  refine ⟨h', ?_⟩
  rw [run_env (n := 29) (fd := f_law) (env := [some (.ref 0), none, none, none]) rfl rfl rfl]
  show ((S.ev ⟨run prog 29, prog.loop, prog.sub⟩ (.fr (.nm 1) (.r1 (.cst (.int 3))) lawB) _ _).then _).res = _
  rw [e]
  rfl
end K02
end TB

end

section
set_option Elab.async false
set_option maxRecDepth 100000
set_option maxHeartbeats 0
open PySem PySem.W PySem.Calls PyProof.Rows
theorem PySem.Challenge.cw_tropicbench_k02_products_and_powers_holds : PySem.Challenge.rw_tropicbench_k02_products_and_powers.Holds := by
  w_on; o_law
  refine HandSHeadRun.head_any (r := OpenLaw.row PySem.Challenge.rw_tropicbench_k02_products_and_powers) (q := view (OpenLaw.row PySem.Challenge.rw_tropicbench_k02_products_and_powers).prog [60]) (H := TB.K02.hk) (ob := TB.K02.ob) (M := 8000) (loose := TB.K02.names) (d := HandSHeadRun.topDef (OpenLaw.row PySem.Challenge.rw_tropicbench_k02_products_and_powers).prog 60) (kwd := []) TB.K02.ob_eq
    (by kernel_rfl) (fun s => by kernel_rfl) TB.K02.run_ok (by kernel_rfl) (by kernel_rfl) (by kernel_rfl) (by rfl) (by first | assumption | decide +kernel) (by decide +kernel) ⟨rfl, rfl, rfl, rfl, rfl, by decide +kernel⟩ ?hw ?hc
  case hw => w_witness2
  case hc =>
    exact TB.law_fn (l := PySem.Challenge.rw_tropicbench_k02_products_and_powers) (x := "script") (lvl := 30) (fl := 49) rfl (by kernel_rfl) ⟨rfl, by decide, by decide⟩ TB.K02.text (TB.subOf_lt rfl) TB.K02.ini_ok ⟨TB.K02.t_law, rfl, by kernel_rfl, rfl, TB.K02.kb54⟩ TB.K02.law_plain

end
