import PyProof.Rows.All
import Wide.All
import OpenK.AllK
import Wide.FinOn
import HandS.ForMost
import HandS.ForExc
import HandS.Flow
import HandS.More
import HandS.Star
import HandS.Deep
import HandS.TupAny
import HandS.IsInst
import HandS.WordsDict
import HandS.Text
import HandS.Property
import HandS.Walk
import HandS.Zip
import KE.GoesMore
import HandS.Small
import HandS.Style
import HandS.Codes
import HandS.WordsExc
import KE.KExcSuper
import HandS.ExcInit
import HandS.ExcSuper
import HandS.ExcField
import HandS.ExcIs
import HandS.TryMany
import KE.KEqNest
import KE.KDictLaw
import KE.KDictWalk
import KE.GoesZip
import KE.KDictZip
import KE.KDictPairs
import HandS.DictComp
import OpenK.KMake
import HandS.SortInts
import HandS.ListItems
import HandS.HeadHook3
import HandS.HeadEnd
import PySem.Challenge.RW_meanshown_k03_names_refused
import KE.KStateDown
import HandS.Head0
import HandS.Head1
import HandS.Head2
set_option Elab.async false
set_option linter.all false
set_option maxRecDepth 100000
set_option autoImplicit false
set_option maxHeartbeats 0
namespace Pm
open PySem (Str PyData)

inductive D where
  | non | bl (b : Bool) | int (i : Int) | str (x : Str)
  | tup (l : List D) | lst (l : List D) | dct (l : List (D × D)) | kdc (l : List (D × D))
  | obj (c : Nat) (fs : List (Nat × D))
  | res (k : Nat)
  | scr (ns : List Int)

mutual
def D.py : D → Option PyData
  | .non => some .none
  | .bl b => some (.bool b)
  | .int i => some (.int i)
  | .str x => some (.str x)
  | .tup l => (D.pyL l).map .tuple
  | .lst l => (D.pyL l).map .list
  | .dct _ => none
  | .kdc _ => none
  | .obj _ _ => none
  | .res _ => none
  | .scr _ => none
def D.pyL : List D → Option (List PyData)
  | [] => some []
  | d :: r => match D.py d, D.pyL r with
    | some x, some xs => some (x :: xs)
    | _, _ => none
end
def eqD (a b : D) : Option Bool := match a.py, b.py with
  | some x, some y => if PySem.SeqAt.shaped x && PySem.SeqAt.shaped y then some (PyData.eqv x y) else none
  | _, _ => none

inductive Cell where
  | lst (l : List D) | dct (l : List (D × D)) | ins (c : Nat) (fs : List (Nat × D)) | hst (st : Int) (cs : List Int) (ix : Int) | scr (ns : List Int) | dead
def Cell.d : Cell → D
  | .lst l => .lst l
  | .dct l => .dct l
  | .ins c fs => .obj c fs
  | .hst _ _ _ => .non
  | .scr _ => .non
  | .dead => .non
def Cell.con : Cell → Bool
  | .lst _ => true
  | .dct _ => true
  | _ => false
inductive Sl where
  | fz (d : D) | ow (c : Cell) | xc (c : Nat) (fs : List (Nat × D))
def Sl.d : Sl → D
  | .fz d => d
  | .ow c => c.d
  | .xc _ _ => .non
def Sl.noxc : Option Sl → Bool
  | some (.xc _ _) => false
  | _ => true
structure S where
  loc : List (Option Sl)
  res : List Cell
inductive R (α : Type) where
  | ok (a : α) (s : S)
  | exc (c : Nat) (fs : List (Nat × D)) (s : S)
  | bad
def R.bind {α β : Type} (r : R α) (f : α → S → R β) : R β := match r with
  | .ok a s => f a s
  | .exc c fs s => .exc c fs s
  | .bad => .bad
inductive FR where
  | ok (a : Sl) (res : List Cell)
  | exc (c : Nat) (fs : List (Nat × D)) (res : List Cell)
  | bad
abbrev FS := List D → List Cell → FR
def FR.at (r : FR) (loc : List (Option Sl)) : R Sl := match r with
  | .ok a res => .ok a ⟨loc, res⟩
  | .exc c fs res => .exc c fs ⟨loc, res⟩
  | .bad => .bad

inductive Ty where
  | int | str | bool | tup | lst | dct | tupOrLst | cls (c : Nat)
inductive Bop where
  | add | sub | mul | fdiv | mod
inductive Cop where
  | eq | ne | lt | le | gt | ge
inductive Tg where
  | var (i : Nat)
  | tup (l : List Tg)

inductive Ik where
  | seq | rng1 | rng2 | items | values | enum | zip | zipK
def Ik.two : Ik → Bool
  | .rng2 => true
  | .zip => true
  | .zipK => true
  | _ => false
inductive P1 where
  | len | list | tuple | dict | sum | max | sorted | any | all | str | repr | int | isnil | nonnil | listItems | listValues
inductive P2 where
  | max | join | split | zipDict
inductive E where
  | var (i : Nat)
  | cst (d : D)
  | glob (g : Nat)
  | star (a : E)
  | tup (l : List E)
  | lst (l : List E)
  | dct0
  | dctOver (a : E) (k v : E)
  | bin (op : Bop) (a b : E)
  | addL (a b : E)
  | neg (a : E)
  | not_ (a : E)
  | cmp (op : Cop) (a b : E)
  | has (neg : Bool) (a b : E)
  | isN (a : E)
  | isnN (a : E)
  | chain (lo a hi : E)
  | and_ (a b : E)
  | or_ (a b : E)
  | ife (c a b : E)
  | ix (a b : E)
  | sl (a : E) (lo hi : Option E)
  | get (a k v : E)
  | fld (a : E) (f : Nat)
  | xfld (i : Nat) (f : Nat)
  | xis (i : Nat) (c : Nat)
  | prop (a : E) (m : Nat)
  | call (g : Nat) (l : List E)
  | new (c : Nat) (l : List E)
  | meth (a : E) (m : Nat) (l : List E)
  | oeq (a b : E)
  | olen (a : E) (m : Nat)
  | p1 (p : P1) (a : E)
  | p2 (p : P2) (a b : E)
  | isi (a : E) (t : Ty)
  | place (a : E)
  | pop (a : E)
  | popK (a k : E)
  | lc (own : List Nat) (elt : E) (tg : Tg) (k : Ik) (a b : E) (ifs : Option E)
  | dc (own : List Nat) (ke ve : E) (tg : Tg) (k : Ik) (a b : E) (ifs : Option E)

inductive St where
  | expr (e : E)
  | asg (tg : Tg) (e : E)
  | par (l : List (Nat × E))
  | setIx (o i v : E)
  | setF (o : E) (f : Nat) (v : E)
  | app (o v : E)
  | ite (c : E) (a b : List St)
  | forI (tg : Tg) (k : Ik) (a b : E) (body : List St)
  | whil (c : E) (body : List St)
  | ret (e : E)
  | raise (c : Nat) (l : List E)
  | tryX (body : List St) (hs : List (Nat × Option Nat × List St))
  | pass

structure Tab where
  fn : Nat → FS
  meth : Nat → Nat → Option Nat
  oeq : Nat → Option Nat
  prop : Nat → Nat → Option Nat
  init : Nat → Option Nat
  val : Nat → Bool
  glob : Nat → Option D
  exf : Nat → List Nat
  flds : Nat → List Nat
  isic : Nat → Ty → Option Bool
  sub : Nat → Nat → Bool

def lim : Nat := 1000000
def D.keyEq : D → D → Bool
  | .int i, .int j => decide (i = j)
  | .str x, .str y => decide (x = y)
  | _, _ => false
def D.isKey : D → Bool
  | .int _ => true
  | .str _ => true
  | _ => false
def dget (kvs : List (D × D)) (k : D) : Option D := (kvs.find? fun p => p.1.keyEq k).map (·.2)
def dput (kvs : List (D × D)) (k v : D) : List (D × D) := if kvs.any fun p => p.1.keyEq k then kvs.map fun p => if p.1.keyEq k then (p.1, v) else p else kvs ++ [(k, v)]
def bl? : D → Option Bool
  | .bl b => some b
  | _ => none
def D.flat : D → Bool
  | .non => true
  | .bl _ => true
  | .int _ => true
  | .str _ => true
  | _ => false
def binD : Bop → D → D → Option Sl
  | .add, .int i, .int j => some (.fz (.int (i + j)))
  | .add, .str x, .str y => if x.length + y.length ≤ lim then some (.fz (.str (x ++ y))) else none
  | .add, .lst a, .lst b => if a.length + b.length ≤ lim then some (.ow (.lst (a ++ b))) else none
  | .add, .tup a, .tup b => if a.length + b.length ≤ lim then some (.fz (.tup (a ++ b))) else none
  | .sub, .int i, .int j => some (.fz (.int (i - j)))
  | .mul, .int i, .int j => if (-(2 ^ 64) < i ∧ i < 2 ^ 64) ∨ (-(2 ^ 64) < j ∧ j < 2 ^ 64) then some (.fz (.int (i * j))) else none
  | .mul, .lst a, .int j => if 0 ≤ j ∧ j < 1000 ∧ a.length * j.toNat ≤ lim then some (.ow (.lst (List.replicate j.toNat a).flatten)) else none
  | .fdiv, .int i, .int j => if 0 < j ∧ j < 1073741824 then some (.fz (.int (i / j))) else none
  | .mod, .int i, .int j => if 0 < j then some (.fz (.int (i % j))) else none
  | _, _, _ => none
def addD : D → D → Option Sl
  | .lst a, .lst b => if a.length + b.length ≤ lim then some (.ow (.lst (a ++ b))) else none
  | _, _ => none
def flatEq : D → D → Bool
  | .non, .non => true
  | .bl a, .bl b => a == b
  | .bl a, .int b => (if a then 1 else 0) == b
  | .int a, .bl b => a == (if b then 1 else 0)
  | .int a, .int b => a == b
  | .str a, .str b => a == b
  | _, _ => false
def D.inL (x : D) (l : List D) : Option Bool := match x.py, D.pyL l with
  | some d, some ds => if PySem.SeqAt.shaped d && PySem.SeqAt.shaped (.list ds) then some (ds.any fun z => PyData.eqv z d) else none
  | _, _ => none
def D.inT (x : D) (l : List D) : Option Bool := if x.flat && l.all D.flat then some (l.any fun y => flatEq y x) else none
def D.badSide (ini : Nat → Option Nat) : D → Bool
  | .res _ => true
  | .scr _ => true
  | .obj c _ => (ini c).isNone
  | _ => false
def D.isInt : D → Bool
  | .int _ => true
  | _ => false
def D.isStr : D → Bool
  | .str _ => true
  | _ => false
def D.inD (k : D) (kvs : List (D × D)) : Option Bool := if k.isKey then some (dget kvs k).isSome else none
def D.inK (k : D) (kvs : List (D × D)) : Option Bool := if k.isStr then some (dget kvs k).isSome else none
def eqF (l m : List (D × D)) : Option Bool := if (l.all fun p => p.1.isKey && p.2.flat) && (m.all fun p => p.1.isKey && p.2.flat) then some (l.length == m.length && l.all fun p => match dget l p.1, dget m p.1 with
    | some x, some y => flatEq x y
    | _, _ => false) else none
def cmpD : Cop → D → D → Option Bool
  | .eq, .dct l, .dct m => eqF l m
  | .eq, a, b => eqD a b
  | .ne, a, b => (eqD a b).map (!·)
  | .lt, .int i, .int j => some (decide (i < j))
  | .le, .int i, .int j => some (decide (i ≤ j))
  | .gt, .int i, .int j => some (decide (j < i))
  | .ge, .int i, .int j => some (decide (j ≤ i))
  | _, _, _ => none
def D.inS (z : Str) : D → Option Bool
  | .str y => (match y.cps.toList with
    | [c] => some (decide (c ∈ z.cps.toList))
    | _ => none)
  | _ => none
def hasD (x : D) : D → Option Bool
  | .str z => x.inS z
  | .lst l => x.inL l
  | .tup l => x.inT l
  | .dct l => x.inD l
  | .kdc l => x.inK l
  | _ => none
def ixD : D → D → Option D
  | .lst l, .int i => L2.atI l i
  | .tup l, .int i => L2.atI l i
  | .dct kvs, k => if k.isKey then dget kvs k else none
  | .kdc kvs, k => if k.isStr then dget kvs k else none
  | _, _ => none
def cutD (l : List D) (lo hi : Option Int) : List D := (l.drop (HT.sIx l.length 0 lo)).take (HT.sIx l.length l.length hi - HT.sIx l.length 0 lo)
def slD : D → Option Int → Option Int → Option Sl
  | .lst l, lo, hi => some (.ow (.lst (cutD l lo hi)))
  | .tup l, lo, hi => if HT.sIx l.length 0 lo = 0 ∧ HT.sIx l.length l.length hi = l.length then none else some (.fz (.tup (cutD l lo hi)))
  | _, _, _ => none
def isiD (x : D) (t : Ty) (o : Nat → Ty → Option Bool) : Option Bool := match x with
  | .res _ => none
  | .scr _ => none
  | .obj c _ => o c t
  | .non => some false
  | .bl _ => some (match t with | .int => true | .bool => true | _ => false)
  | .int _ => some (match t with | .int => true | _ => false)
  | .str _ => some (match t with | .str => true | _ => false)
  | .tup _ => some (match t with | .tup => true | .tupOrLst => true | _ => false)
  | .lst _ => some (match t with | .lst => true | .tupOrLst => true | _ => false)
  | .dct _ => some (match t with | .dct => true | _ => false)
  | .kdc _ => some (match t with | .dct => true | _ => false)
mutual
def bindT : Tg → D → List (Option Sl) → Option (List (Option Sl))
  | .var i, d, loc => some (loc.set i (some (.fz d)))
  | .tup ts, .tup ds, loc => bindTs ts ds loc
  | .tup _, _, _ => none
def bindTs : List Tg → List D → List (Option Sl) → Option (List (Option Sl))
  | [], [], loc => some loc
  | t :: ts, d :: ds, loc => (bindT t d loc).bind fun loc => bindTs ts ds loc
  | _, _, _ => none
end
def itemsD : D → Option (List D)
  | .lst l => some l
  | .tup l => some l
  | _ => none
def pairL (l : List (D × D)) : List D := l.map fun p => .tup [p.1, p.2]
def rngL (lo hi : Int) : List D := (List.range (hi - lo).toNat).map fun j : Nat => D.int (lo + (j : Int))
def enumL : Nat → List D → List D
  | _, [] => []
  | n, d :: r => .tup [.int (n : Int), d] :: enumL (n + 1) r
def zipL (a b : List D) : List D := pairL (a.zip b)
def itemsI : Ik → D → D → Option (List D)
  | .seq, .lst l, _ => some l
  | .seq, .tup l, _ => some l
  | .seq, .scr ns, _ => some (ns.map D.int)
  | .seq, .str z, _ => some (z.cps.toList.map fun c => D.str ⟨#[c]⟩)
  | .seq, .dct l, _ => some (l.map (·.1))
  | .rng1, .int j, _ => if -(2 ^ 62) ≤ j ∧ j < 2 ^ 62 then some (rngL 0 j) else none
  | .rng2, .int i, .int j => if -(2 ^ 62) ≤ i ∧ i < 2 ^ 62 ∧ -(2 ^ 62) ≤ j ∧ j < 2 ^ 62 then some (rngL i j) else none
  | .items, .dct l, _ => some (pairL l)
  | .values, .dct l, _ => some (l.map (·.2))
  | .enum, .lst l, _ => some (enumL 0 l)
  | .enum, .tup l, _ => some (enumL 0 l)
  | .zip, .lst l, .lst m => some (zipL l m)
  | .zip, .tup l, .tup m => some (zipL l m)
  | .zipK, .kdc l, .tup m => some (zipL (l.map (·.1)) m)
  | _, _, _ => none
def sumL : List D → Option Int
  | [] => some 0
  | .int i :: r => (sumL r).map (i + ·)
  | _ => none
def maxL : Int → List D → Option Int
  | m, [] => some m
  | m, .int i :: r => maxL (if m < i then i else m) r
  | _, _ => none
def boolsL : List D → Option (List Bool)
  | [] => some []
  | .bl b :: r => (boolsL r).map (b :: ·)
  | _ => none
def wipeL (loc : List (Option Sl)) (own : List Nat) : List (Option Sl) := own.foldr (fun i l => l.set i none) loc
def backL (old new : List (Option Sl)) (own : List Nat) : List (Option Sl) := own.foldr (fun i l => l.set i (old.getD i none)) new
def R.calm {α : Type} : R α → R α
  | .exc _ _ _ => .bad
  | r => r
def ofO {α : Type} (o : Option α) (s : S) : R α := match o with
  | some a => .ok a s
  | none => .bad
def S.wipe (s : S) (own : List Nat) : S := { s with loc := wipeL s.loc own }
def S.over (s s2 : S) (own : List Nat) : S := { s2 with loc := backL s.loc s2.loc own }
def lcGo (own : List Nat) (tg : Tg) (ft : S → R Bool) (fe : S → R Sl) : List D → S → List D → R (List D)
  | [], s, acc => .ok acc s
  | x :: xs, s, acc => match bindT tg x s.loc with
    | none => .bad
    | some loc => (ft ⟨loc, s.res⟩).bind fun b s2 => if b then (fe s2).bind fun d s3 => lcGo own tg ft fe xs (s3.wipe own) (acc ++ [d.d]) else lcGo own tg ft fe xs (s2.wipe own) acc
def fieldD (fl : Nat → List Nat) (x : D) (f : Nat) (res : List Cell) : Option D := match x with
  | .obj c fs => if (fl c).contains f then fs.lookup f else none
  | .res k => match res[k]? with
    | some (.ins c fs) => if (fl c).contains f then fs.lookup f else none
    | _ => none
  | _ => none
def clsD (x : D) (res : List Cell) : Option Nat := match x with
  | .obj c _ => some c
  | .res k => match res[k]? with
    | some (.ins c _) => some c
    | _ => none
  | _ => none
mutual
def D.nores : D → Bool
  | .res _ => false
  | .tup l => noresL l
  | .lst l => noresL l
  | .dct l => noresD l
  | .kdc l => noresD l
  | .obj _ fs => noresF fs
  | _ => true
def noresL : List D → Bool
  | [] => true
  | d :: r => d.nores && noresL r
def noresD : List (D × D) → Bool
  | [] => true
  | (_, d) :: r => d.nores && noresD r
def noresF : List (Nat × D) → Bool
  | [] => true
  | (_, d) :: r => d.nores && noresF r
end
def newVal (s : S) : FR → R Sl
  | .ok (.fz .non) [.ins c fs] => if noresF fs then .ok (.fz (.obj c fs)) s else .bad
  | .exc e fs _ => if noresF fs then .exc e fs s else .bad
  | _ => .bad
def getEnd (s : S) : FR → R Sl
  | .ok a res => .ok a ⟨s.loc, res⟩
  | _ => .bad
def lenEnd (s : S) : FR → R Sl
  | .ok (.fz (.int i)) res => if 0 ≤ i ∧ i < 2 ^ 63 then .ok (.fz (.int i)) ⟨s.loc, res⟩ else .bad
  | _ => .bad
def newEnd (k : Nat) (loc : List (Option Sl)) : FR → R Sl
  | .ok (.fz .non) res => .ok (.fz (.res k)) ⟨loc, res⟩
  | .ok _ _ => .bad
  | .exc e fs res => .exc e fs ⟨loc, res⟩
  | .bad => .bad
inductive Rf where
  | val (d : D) | slot (i : Nat)
def slotOf (e : E) (s : S) : Option Nat := match e with
  | .var i => (match s.loc[i]? with
    | some (some (.ow _)) => some i
    | _ => none)
  | _ => none
def rfR (o : Option Nat) (s : S) (r : R Sl) : R Rf := match o with
  | some i => .ok (.slot i) s
  | none => r.bind fun x s => .ok (.val x.d) s
def Cell.look (c : Cell) : Option D := if c.con then some c.d else none
def lookR (r : Rf) (s : S) : Option D := match r with
  | .slot i => (match s.loc[i]? with
    | some (some (.ow c)) => c.look
    | some (some (.fz d)) => some d
    | _ => none)
  | .val (.res k) => (match s.res[k]? with
    | some c => c.look
    | none => none)
  | .val d => some d
inductive Pl where
  | loc (i : Nat) | res (k : Nat)
def S.cell (s : S) : Pl → Option Cell
  | .loc i => match s.loc[i]? with
    | some (some (.ow c)) => some c
    | _ => none
  | .res k => s.res[k]?
def S.put (s : S) : Pl → Cell → S
  | .loc i, c => { s with loc := s.loc.set i (some (.ow c)) }
  | .res k, c => { s with res := s.res.set k c }
def Rf.pl : Rf → Option Pl
  | .slot i => some (.loc i)
  | .val (.res k) => some (.res k)
  | _ => none
def cellR (r : Rf) (s : S) : Option (Pl × Cell) := r.pl.bind fun p => (s.cell p).map fun c => (p, c)
def isLst (r : Rf) (s : S) : Bool := match cellR r s with
  | some (_, .lst _) => true
  | _ => false
def isDct (r : Rf) (s : S) : Bool := match lookR r s with
  | some (.dct _) => true
  | _ => false
def popC : Cell → Option (D × Cell)
  | .lst l => l.getLast?.map fun d => (d, .lst l.dropLast)
  | _ => none
def popKC : Cell → D → Option (D × Cell)
  | .dct l, k => if k.isKey then (dget l k).map fun d => (d, .dct (l.filter fun p => !p.1.keyEq k)) else none
  | _, _ => none
def insI (x : Int) : List Int → List Int
  | [] => [x]
  | y :: r => if x ≤ y then x :: y :: r else y :: insI x r
def srtI : List Int → List Int
  | [] => []
  | x :: r => insI x (srtI r)
def ltS (a b : Str) : Bool := PySem.Spec.ltCps a.cps.toList b.cps.toList
def insS (x : Str) : List Str → List Str
  | [] => [x]
  | y :: r => if ltS y x then y :: insS x r else x :: y :: r
def srtS : List Str → List Str
  | [] => []
  | x :: r => insS x (srtS r)
def intsD : List D → Option (List Int)
  | [] => some []
  | .int i :: r => (intsD r).map (i :: ·)
  | _ => none
def strsD : List D → Option (List Str)
  | [] => some []
  | .str i :: r => (strsD r).map (i :: ·)
  | _ => none
def sortD (l : List D) : Option (List D) := match intsD l with
  | some ns => some ((srtI ns).map D.int)
  | none => (strsD l).bind fun ss => if ss.length < 64 then some ((srtS ss).map D.str) else none
def prim1 : P1 → D → Option Sl
  | .sorted, .lst l => (sortD l).map fun r => .ow (.lst r)
  | .sorted, .dct l => if l.length < 64 then (sortD (l.map (·.1))).map fun r => .ow (.lst r) else none
  | .len, .lst l => some (.fz (.int l.length))
  | .len, .tup l => some (.fz (.int l.length))
  | .len, .dct l => some (.fz (.int l.length))
  | .len, .str z => if z.length ≤ lim then some (.fz (.int z.length)) else none
  | .list, .lst l => some (.ow (.lst l))
  | .list, .tup l => some (.ow (.lst l))
  | .list, .scr ns => some (.ow (.lst (ns.map D.int)))
  | .list, .dct l => some (.ow (.lst (l.map (·.1))))
  | .tuple, .lst l => some (.fz (.tup l))
  | .dict, .dct l => some (.ow (.dct l))
  | .sum, .lst l => (sumL l).map fun i => .fz (.int i)
  | .max, .lst (.int i :: r) => (maxL i r).map fun i => .fz (.int i)
  | .any, .lst l => (boolsL l).map fun b => .fz (.bl (b.any id))
  | .all, .lst l => (boolsL l).map fun b => .fz (.bl (b.all id))
  | .int, .bl b => some (.fz (.int (if b then 1 else 0)))
  | .int, .int i => some (.fz (.int i))
  | .isnil, .lst l => some (.fz (.bl l.isEmpty))
  | .nonnil, .lst l => some (.fz (.bl (!l.isEmpty)))
  | .listItems, .dct l => some (.ow (.lst (pairL l)))
  | .listValues, .dct l => some (.ow (.lst (l.map (·.2))))
  | _, _ => none
def prim2 : P2 → D → D → Option Sl
  | .max, .int i, .int j => some (.fz (.int (if i < j then j else i)))
  | .zipDict, .kdc l, .tup m => if (l.all fun p => p.1.isStr) then some (.ow (.dct (((l.map (·.1)).zip m).foldl (fun acc p => dput acc p.1 p.2) []))) else none
  | _, _, _ => none
def dcGo (own : List Nat) (tg : Tg) (ft : S → R Bool) (fe : S → R (D × D)) : List D → S → List (D × D) → R (List (D × D))
  | [], s, acc => .ok acc s
  | x :: xs, s, acc => match bindT tg x s.loc with
    | none => .bad
    | some loc => (ft ⟨loc, s.res⟩).bind fun b s2 => if b then (fe s2).bind fun d s3 => if d.1.isKey ∧ acc.length < lim then dcGo own tg ft fe xs (s3.wipe own) (dput acc d.1 d.2) else .bad else dcGo own tg ft fe xs (s2.wipe own) acc
section
variable (T : Tab)
mutual
def ev : E → S → R Sl
  | .var i, s => match s.loc[i]? with
    | some (some (.fz d)) => .ok (.fz d) s
    | some (some (.ow c)) => if c.con then .ok (.fz c.d) { s with loc := s.loc.set i (some (.fz c.d)) } else .bad
    | _ => .bad
  | .cst d, s => .ok (.fz d) s
  | .glob g, s => ofO ((T.glob g).map .fz) s
  | .star _, _ => .bad
  | .tup l, s => (evL l s).bind fun ds s => if ds.length ≤ lim then .ok (.fz (.tup ds)) s else .bad
  | .lst l, s => (evL l s).bind fun ds s => if ds.length ≤ lim then .ok (.ow (.lst ds)) s else .bad
  | .dct0, s => .ok (.ow (.dct [])) s
  | .dctOver a k v, s => (rfR (slotOf a s) s (ev a s)).bind fun r s => match lookR r s with
    | some (.dct kvs) => if kvs.length < lim then (ev k s).bind fun y s => (ev v s).bind fun z s => if y.d.isKey then .ok (.ow (.dct (dput kvs y.d z.d))) s else .bad else .bad
    | _ => .bad
  | .bin op a b, s => (ev a s).bind fun x s => (ev b s).bind fun y s => ofO (binD op x.d y.d) s
  | .addL a b, s => (rfR (slotOf a s) s (ev a s)).bind fun r s => (ev b s).bind fun y s => ofO ((lookR r s).bind fun x => addD x y.d) s
  | .neg a, s => (ev a s).bind fun x s => match x.d with
    | .int i => .ok (.fz (.int (-i))) s
    | _ => .bad
  | .not_ a, s => (ev a s).bind fun x s => match x.d with
    | .bl b => .ok (.fz (.bl (!b))) s
    | _ => .bad
  | .cmp op a b, s => (ev a s).bind fun x s => (ev b s).bind fun y s => ofO ((cmpD op x.d y.d).map fun b => .fz (.bl b)) s
  | .has n a b, s => (ev a s).bind fun x s => (rfR (slotOf b s) s (ev b s)).bind fun r s => ofO (((lookR r s).bind fun y => hasD x.d y).map fun b => .fz (.bl (b != n))) s
  | .isN a, s => (ev a s).bind fun x s => match x.d with
    | .non => .ok (.fz (.bl true)) s
    | _ => .ok (.fz (.bl false)) s
  | .isnN a, s => (ev a s).bind fun x s => match x.d with
    | .non => .ok (.fz (.bl false)) s
    | _ => .ok (.fz (.bl true)) s
  | .chain lo a hi, s => (ev lo s).bind fun x s => (ev a s).bind fun y s => match x.d, y.d with
    | .int i, .int j => if i ≤ j then (ev hi s).bind fun z s => (match z.d with
        | .int k => .ok (.fz (.bl (decide (j ≤ k)))) s
        | _ => .bad) else .ok (.fz (.bl false)) s
    | _, _ => .bad
  | .and_ a b, s => (ev a s).bind fun x s => match x.d with
    | .bl true => (ev b s).bind fun y s => match y.d with
      | .bl c => .ok (.fz (.bl c)) s
      | _ => .bad
    | .bl false => .ok (.fz (.bl false)) s
    | _ => .bad
  | .or_ a b, s => (ev a s).bind fun x s => match x.d with
    | .bl false => (ev b s).bind fun y s => match y.d with
      | .bl c => .ok (.fz (.bl c)) s
      | _ => .bad
    | .bl true => .ok (.fz (.bl true)) s
    | _ => .bad
  | .ife c a b, s => (ev c s).bind fun x s => match x.d with
    | .bl true => ev a s
    | .bl false => ev b s
    | _ => .bad
  | .ix a b, s => (rfR (slotOf a s) s (ev a s)).bind fun r s => (ev b s).bind fun y s => ofO (((lookR r s).bind fun x => ixD x y.d).map .fz) s
  | .sl a lo hi, s => (rfR (slotOf a s) s (ev a s)).bind fun r s => (evO lo s).bind fun l s => (evO hi s).bind fun h s => ofO ((lookR r s).bind fun x => slD x l h) s
  | .get a k v, s => (rfR (slotOf a s) s (ev a s)).bind fun r s => if isDct r s then (ev k s).bind fun y s => (ev v s).bind fun z s => (match lookR r s with
    | some (.dct kvs) => if y.d.isKey then .ok (.fz ((dget kvs y.d).getD z.d)) s else .bad
    | _ => .bad) else .bad
  | .fld a f, s => (ev a s).bind fun x s => ofO ((fieldD T.flds x.d f s.res).map .fz) s
  | .xfld i f, s => match s.loc[i]? with
    | some (some (.xc c fs)) => if (T.exf c).contains f = true then ofO ((fs.lookup f).map .fz) s else .bad
    | _ => .bad
  | .xis i c, s => match s.loc[i]? with
    | some (some (.xc k _)) => if T.sub k k = true then .ok (.fz (.bl (T.sub k c))) s else .bad
    | _ => .bad
  | .prop a m, s => (ev a s).bind fun x s => match (clsD x.d s.res).bind fun c => T.prop c m with
    | some g => getEnd s (T.fn g [x.d] s.res)
    | none => .bad
  | .call g l, s => (evL l s).bind fun ds s => (T.fn g ds s.res).at s.loc
  | .new c l, s => (evL l s).bind fun ds s => match T.init c with
    | some g => if T.val c then (if noresL ds then newVal s (T.fn g (.res 0 :: ds) [.ins c []]) else .bad) else newEnd s.res.length s.loc (T.fn g (.res s.res.length :: ds) (s.res ++ [.ins c []]))
    | none => .bad
  | .oeq a b, s => (ev a s).bind fun x s => (ev b s).bind fun y s => match (clsD x.d s.res).bind T.oeq with
    | some g => if y.d.badSide T.init then .bad else getEnd s (T.fn g [x.d, y.d] s.res)
    | none => .bad
  | .olen a m, s => (ev a s).bind fun x s => match (clsD x.d s.res).bind fun c => T.meth c m with
    | some g => lenEnd s (T.fn g [x.d] s.res)
    | none => .bad
  | .meth a m l, s => (ev a s).bind fun x s => match (clsD x.d s.res).bind fun c => T.meth c m with
    | some g => (evL l s).bind fun ds s => (T.fn g (x.d :: ds) s.res).at s.loc
    | none => .bad
  | .p1 p a, s => (rfR (slotOf a s) s (ev a s)).bind fun r s => ofO ((lookR r s).bind (prim1 p)) s
  | .p2 p a b, s => (ev a s).bind fun x s => (ev b s).bind fun y s => ofO (prim2 p x.d y.d) s
  | .isi a t, s => (ev a s).bind fun x s => ofO ((isiD x.d t T.isic).map fun b => .fz (.bl b)) s
  | .place a, s => (ev a s).bind fun x s => match x with
    | .ow c => .ok (.fz (.res s.res.length)) { s with res := s.res ++ [c] }
    | _ => .bad
  | .pop a, s => (rfR (slotOf a s) s (ev a s)).bind fun r s => match cellR r s with
    | some (p, c) => (match popC c with
      | some (d, c') => .ok (.fz d) (s.put p c')
      | none => .bad)
    | none => .bad
  | .popK a k, s => (rfR (slotOf a s) s (ev a s)).bind fun r s => if isDct r s then (ev k s).bind fun y s => (match cellR r s with
    | some (p, c) => (match popKC c y.d with
      | some (d, c') => .ok (.fz d) (s.put p c')
      | none => .bad)
    | none => .bad) else .bad
  | .lc own elt tg k a b ifs, s => (ev a s).bind fun x s => (if k.two then ev b s else .ok (.fz .non) s).bind fun y s => match itemsI k x.d y.d with
    | some items => (lcGo own tg (fun s => evT ifs s) (fun s => ev elt s) items (s.wipe own) []).calm.bind fun acc s2 => if acc.length ≤ lim then .ok (.ow (.lst acc)) (s.over s2 own) else .bad
    | none => .bad
  | .dc own ke ve tg k a b ifs, s => (ev a s).bind fun x s => (if k.two then ev b s else .ok (.fz .non) s).bind fun y s => match itemsI k x.d y.d with
    | some items => (dcGo own tg (fun s => evT ifs s) (fun s => (ev ke s).bind fun q s => (ev ve s).bind fun w s => .ok (q.d, w.d) s) items (s.wipe own) []).calm.bind fun acc s2 => .ok (.ow (.dct acc)) (s.over s2 own)
    | none => .bad
def evL : List E → S → R (List D)
  | [], s => .ok [] s
  | .star e :: r, s => (ev e s).bind fun x s => match itemsD x.d with
    | some xs => (evL r s).bind fun ys s => .ok (xs ++ ys) s
    | none => .bad
  | e :: r, s => (ev e s).bind fun x s => (evL r s).bind fun xs s => .ok (x.d :: xs) s
def evO : Option E → S → R (Option Int)
  | none, s => .ok none s
  | some e, s => (ev e s).bind fun x s => match x.d with
    | .int i => .ok (some i) s
    | _ => .bad
def evT : Option E → S → R Bool
  | none, s => .ok true s
  | some e, s => (ev e s).bind fun x s => match x.d with
    | .bl b => .ok b s
    | _ => .bad
end
def evR (e : E) (s : S) : R Rf := rfR (slotOf e s) s (ev T e s)
def evI (k : Ik) (a b : E) (s : S) : R (List D) := (ev T a s).bind fun x s => (if k.two then ev T b s else .ok (.fz .non) s).bind fun y s => ofO (itemsI k x.d y.d) s
inductive Fl where
  | nx | ret (a : Sl)
def setCell (c : Cell) (i v : D) : Option Cell := match c, i with
  | .lst l, .int j => (L2.ixN l.length j).map fun k => .lst (l.set k v)
  | .dct kvs, k => if k.isKey ∧ kvs.length < lim then some (.dct (dput kvs k v)) else none
  | _, _ => none
def evM (e : E) (s : S) : R Sl := match e with
  | .var i => match s.loc[i]? with
    | some (some (.ow c)) => if c.con then .ok (.ow c) { s with loc := s.loc.set i none } else .bad
    | _ => ev T e s
  | e => ev T e s
def evS : List E → S → R (List Sl)
  | [], s => .ok [] s
  | e :: r, s => (ev T e s).bind fun x s => (evS r s).bind fun xs s => .ok (x :: xs) s
def setS : List Nat → List Sl → List (Option Sl) → Option (List (Option Sl))
  | [], [], loc => some loc
  | i :: is, x :: xs, loc => setS is xs (loc.set i (some x))
  | _, _, _ => none
def forGo (tg : Tg) (fb : S → R Fl) : List D → S → R Fl
  | [], s => .ok .nx s
  | x :: xs, s => match bindT tg x s.loc with
    | none => .bad
    | some loc => (fb ⟨loc, s.res⟩).bind fun f s2 => match f with
      | .nx => forGo tg fb xs s2
      | .ret a => .ok (.ret a) s2
def whGo (fc : S → R Bool) (fb : S → R Fl) : Nat → S → R Fl
  | 0, _ => .bad
  | n + 1, s => (fc s).bind fun b s => if b then (fb s).bind fun f s => (match f with
      | .nx => whGo fc fb n s
      | .ret a => .ok (.ret a) s) else .ok .nx s
def putF (fs : List (Nat × D)) (f : Nat) (v : D) : List (Nat × D) := match fs with
  | [] => [(f, v)]
  | (g, w) :: r => if g = f then (g, v) :: r else (g, w) :: putF r f v
def appC : Cell → D → Option Cell
  | .lst l, d => if l.length < lim then some (.lst (l ++ [d])) else none
  | _, _ => none
mutual
def ex : St → S → R Fl
  | .expr e, s => (ev T e s).bind fun _ s => .ok .nx s
  | .asg (.var i) e, s => (ev T e s).bind fun x s => .ok .nx { s with loc := s.loc.set i (some x) }
  | .asg tg e, s => (ev T e s).bind fun x s => match bindT tg x.d s.loc with
    | some loc => .ok .nx ⟨loc, s.res⟩
    | none => .bad
  | .par l, s => (evS T (l.map (·.2)) s).bind fun xs s => match setS (l.map (·.1)) xs s.loc with
    | some loc => .ok .nx ⟨loc, s.res⟩
    | none => .bad
  | .setIx o i v, s => (ev T v s).bind fun z s => (evR T o s).bind fun r s => (ev T i s).bind fun y s => match cellR r s with
    | some (p, c) => (match setCell c y.d z.d with
      | some c' => .ok .nx (s.put p c')
      | none => .bad)
    | none => .bad
  | .setF o f v, s => (ev T v s).bind fun z s => (ev T o s).bind fun x s => match x.d with
    | .res k => (match s.res[k]? with
      | some (.ins c fs) => if fs.length < 100 ∧ (T.flds c).contains f then .ok .nx { s with res := s.res.set k (.ins c (putF fs f z.d)) } else .bad
      | _ => .bad)
    | _ => .bad
  | .app o v, s => (evR T o s).bind fun r s => if isLst r s then (ev T v s).bind fun z s => (match cellR r s with
    | some (p, c) => (match appC c z.d with
      | some c' => .ok .nx (s.put p c')
      | none => .bad)
    | none => .bad) else .bad
  | .ite c a b, s => (ev T c s).bind fun x s => match x.d with
    | .bl true => exL a s
    | .bl false => exL b s
    | _ => .bad
  | .forI tg k a b body, s => (evI T k a b s).bind fun items s => forGo tg (fun s => exL body s) items s
  | .whil c body, s => whGo (fun s => (ev T c s).bind fun x s => match x.d with
    | .bl b => .ok b s
    | _ => .bad) (fun s => exL body s) 100000 s
  | .ret e, s => (evM T e s).bind fun x s => .ok (.ret x) s
  | .raise c l, s => (evL T l s).bind fun ds s => if ds.length = (T.exf c).length then .exc c ((T.exf c).zip ds) s else .bad
  | .tryX body hs, s => match exL body s with
    | .ok f s => .ok f s
    | .exc c fs s => exH hs c fs s
    | .bad => .bad
  | .pass, s => .ok .nx s
def exL : List St → S → R Fl
  | [], s => .ok .nx s
  | st :: r, s => (ex st s).bind fun f s => match f with
    | .nx => exL r s
    | .ret a => .ok (.ret a) s
def exH : List (Nat × Option Nat × List St) → Nat → List (Nat × D) → S → R Fl
  | [], c, fs, s => .exc c fs s
  | (h, n, b) :: r, c, fs, s => if T.sub c h then (match n with
      | none => (exL b s).calm.bind fun f s => if s.loc.all Sl.noxc then .ok f s else .bad
      | some i => (exL b { s with loc := s.loc.set i (some (.xc c fs)) }).calm.bind fun f s => if (s.loc.set i none).all Sl.noxc then .ok f { s with loc := s.loc.set i none } else .bad) else exH r c fs s
end
structure Code where
  n : Nat
  ar : Nat
  body : List St
def runCode (c : Code) : FS := fun ds res => if ds.length = c.ar then (match exL T c.body ⟨ds.map (fun d => some (.fz d)) ++ List.replicate (c.n - c.ar) none, res⟩ with
  | .ok .nx s => .ok (.fz .non) s.res
  | .ok (.ret a) s => .ok a s.res
  | .exc k fs s => .exc k fs s.res
  | .bad => .bad) else .bad
end
end Pm
namespace Pm
open PySem L2
open PySem.W (Frag)

structure Fnm where
  f : Nat → Str
  hx : Option (Addr × Nat × Option Addr) := none
instance : CoeFun Fnm fun _ => Nat → Str := ⟨Fnm.f⟩
structure Zx where
  K : Frag
  w : World
  cls : Nat → Addr
  fnm : Fnm
structure Gh where
  F : Hp
  rho : Nat → Option Addr
def keyD : D → Option Key
  | .int i => some (.inl i)
  | .str x => some (.inr x)
  | _ => none
def EntKV (kv : Key × V) (e : DictEntry) : Prop := ∃ x t, kv.1 = .inr x ∧ e.key = .str x t ∧ RelV kv.2 e.val
structure KDc (Z : Zx) (a : Addr) (kvs : List (Key × V)) : Prop where
  ex : ∃ es n, KDict Z.K Z.w a es n ∧ Paired EntKV kvs es.toList
  ne : kvs ≠ []
section
variable (Z : Zx)
mutual
def Is (g : Gh) : D → V → Prop
  | .non, v => v = .non
  | .bl b, v => v = .bl b
  | .int i, v => v = .int i
  | .str x, v => v = .str x
  | .tup l, v => ∃ a vs, v = .ref a ∧ SqT Z.K g.F a vs ∧ IsL g l vs
  | .lst l, v => ∃ a vs, v = .ref a ∧ g.F a = some (.lst vs) ∧ l.length ≤ sizeLine ∧ IsL g l vs
  | .dct l, v => ∃ a kvs, v = .ref a ∧ Rd g.F a (.dK kvs) ∧ IsD g l kvs
  | .kdc l, v => ∃ a kvs, v = .ref a ∧ KDc Z a kvs ∧ IsD g l kvs
  | .obj c fs, v => ∃ a dx ws, v = .ref a ∧ g.F a = some (.ins (Z.cls c) dx ws) ∧ IsF g fs ws
  | .res k, v => ∃ a, v = .ref a ∧ g.rho k = some a
  | .scr ns, v => ∃ a, v = .ref a ∧ SqL Z.K g.F a (ns.map V.int)
def IsL (g : Gh) : List D → List V → Prop
  | [], vs => vs = []
  | d :: r, vs => ∃ v ws, vs = v :: ws ∧ Is g d v ∧ IsL g r ws
def IsD (g : Gh) : List (D × D) → List (Key × V) → Prop
  | [], vs => vs = []
  | (k, d) :: r, vs => ∃ q v ws, vs = (q, v) :: ws ∧ keyD k = some q ∧ Is g d v ∧ IsD g r ws
def IsF (g : Gh) : List (Nat × D) → List (Str × V) → Prop
  | [], vs => vs = []
  | (f, d) :: r, vs => ∃ v ws, vs = (Z.fnm f, v) :: ws ∧ Is g d v ∧ IsF g r ws
end
end
def Sm (o o' : HO) : Prop := o' = o ∨ ∃ q kvs, o = .dK kvs ∧ o' = .frz q (.dK kvs)
theorem Sm.refl (o : HO) : Sm o o := .inl rfl
theorem Sm.trans {a b c : HO} (h : Sm a b) (k : Sm b c) : Sm a c := by
  rcases h with rfl | ⟨q, kvs, rfl, rfl⟩
  · exact k
  · rcases k with rfl | ⟨_, _, e, _⟩
    · exact .inr ⟨q, kvs, rfl, rfl⟩
    · cases e
def HO.isdK : HO → Bool
  | .dK _ => true
  | _ => false
theorem Sm.eq {o o' : HO} (h : Sm o o') (k : HO.isdK o = false) : o' = o := by
  rcases h with h | ⟨_, _, rfl, _⟩
  · exact h
  · cases k
structure Gh.Le (g g' : Gh) : Prop where
  F : ∀ a o, g.F a = some o → ∃ o', g'.F a = some o' ∧ Sm o o'
  rho : ∀ k a, g.rho k = some a → g'.rho k = some a
theorem Gh.Le.refl (g : Gh) : g.Le g := ⟨fun _ o h => ⟨o, h, .refl o⟩, fun _ _ h => h⟩
theorem Gh.Le.trans {a b c : Gh} (h : a.Le b) (k : b.Le c) : a.Le c := ⟨fun x o e => by
  obtain ⟨o1, e1, s1⟩ := h.F _ _ e
  obtain ⟨o2, e2, s2⟩ := k.F _ _ e1
  exact ⟨o2, e2, s1.trans s2⟩, fun i x e => k.rho _ _ (h.rho _ _ e)⟩
theorem Gh.Le.get {g g' : Gh} (h : g.Le g') {a : Addr} {o : HO} (e : g.F a = some o) (k : HO.isdK o = false) : g'.F a = some o := by
  obtain ⟨o', e', s⟩ := h.F _ _ e
  rw [s.eq k] at e'
  exact e'
theorem Gh.Le.rd {g g' : Gh} (h : g.Le g') {a : Addr} {u : HO} (r : Rd g.F a u) (k : HO.isdK u = false) : Rd g'.F a u := by
  rcases r with r | ⟨o, r⟩
  · exact .inl (h.get r k)
  · exact .inr ⟨o, h.get r rfl⟩
theorem Gh.Le.rdK {g g' : Gh} (h : g.Le g') {a : Addr} {kvs : List (Key × V)} (r : Rd g.F a (.dK kvs)) : Rd g'.F a (.dK kvs) := by
  rcases r with r | ⟨o, r⟩
  · obtain ⟨o', e', s⟩ := h.F _ _ r
    rcases s with rfl | ⟨q, kv, z, rfl⟩
    · exact .inl e'
    · cases z
      exact .inr ⟨q, e'⟩
  · exact .inr ⟨o, h.get r rfl⟩
theorem Gh.Le.sqT {g g' : Gh} (h : g.Le g') {K : Frag} {a : Addr} {xs : List V} (r : SqT K g.F a xs) : SqT K g'.F a xs := by
  rcases r with r | r
  · exact .inl (h.rd r rfl)
  · exact .inr r
theorem Gh.Le.sqL {g g' : Gh} (h : g.Le g') {K : Frag} {a : Addr} {xs : List V} (r : SqL K g.F a xs) : SqL K g'.F a xs := by
  rcases r with r | r
  · exact .inl (h.rd r rfl)
  · exact .inr r
theorem rd_mono {F F' : Hp} {a : Addr} {u : HO} (h : ∀ a o, F a = some o → F' a = some o) (r : Rd F a u) : Rd F' a u := by
  rcases r with r | ⟨o, r⟩
  · exact .inl (h _ _ r)
  · exact .inr ⟨o, h _ _ r⟩
theorem sqL_mono {K : Frag} {F F' : Hp} {a : Addr} {xs : List V} (h : ∀ a o, F a = some o → F' a = some o) (r : SqL K F a xs) : SqL K F' a xs := by
  rcases r with r | r
  · exact .inl (rd_mono h r)
  · exact .inr r
theorem sqT_mono {K : Frag} {F F' : Hp} {a : Addr} {xs : List V} (h : ∀ a o, F a = some o → F' a = some o) (r : SqT K F a xs) : SqT K F' a xs := by
  rcases r with r | r
  · exact .inl (rd_mono h r)
  · exact .inr r
section
variable {Z : Zx} {g g' : Gh}
mutual
theorem Is.mono (h : g.Le g') : ∀ (d : D) (v : V), Is Z g d v → Is Z g' d v
  | .non, _, e => e
  | .bl _, _, e => e
  | .int _, _, e => e
  | .str _, _, e => e
  | .tup l, _, ⟨a, vs, e1, e2, e3⟩ => ⟨a, vs, e1, h.sqT e2, IsL.mono h l vs e3⟩
  | .lst l, _, ⟨a, vs, e1, e2, e4, e3⟩ => ⟨a, vs, e1, h.get e2 rfl, e4, IsL.mono h l vs e3⟩
  | .dct l, _, ⟨a, vs, e1, e2, e3⟩ => ⟨a, vs, e1, h.rdK e2, IsD.mono h l vs e3⟩
  | .kdc l, _, ⟨a, vs, e1, e2, e3⟩ => ⟨a, vs, e1, e2, IsD.mono h l vs e3⟩
  | .obj _ fs, _, ⟨a, dx, ws, e1, e2, e3⟩ => ⟨a, dx, ws, e1, h.get e2 rfl, IsF.mono h fs ws e3⟩
  | .res j, _, ⟨a, e1, e2⟩ => ⟨a, e1, h.rho _ _ e2⟩
  | .scr ns, _, ⟨a, e1, e2⟩ => ⟨a, e1, h.sqL e2⟩
theorem IsL.mono (h : g.Le g') : ∀ (l : List D) (vs : List V), IsL Z g l vs → IsL Z g' l vs
  | [], _, e => e
  | d :: r, _, ⟨v, ws, e1, e2, e3⟩ => ⟨v, ws, e1, Is.mono h d v e2, IsL.mono h r ws e3⟩
theorem IsD.mono (h : g.Le g') : ∀ (l : List (D × D)) (vs : List (Key × V)), IsD Z g l vs → IsD Z g' l vs
  | [], _, e => e
  | (c, d) :: r, _, ⟨q, v, ws, e1, e0, e2, e3⟩ => ⟨q, v, ws, e1, e0, Is.mono h d v e2, IsD.mono h r ws e3⟩
theorem IsF.mono (h : g.Le g') : ∀ (l : List (Nat × D)) (vs : List (Str × V)), IsF Z g l vs → IsF Z g' l vs
  | [], _, e => e
  | (f, d) :: r, _, ⟨v, ws, e1, e2, e3⟩ => ⟨v, ws, e1, Is.mono h d v e2, IsF.mono h r ws e3⟩
end
end
end Pm
namespace Pm
open PySem L2
open PySem.W (Frag)
variable {Z : Zx} {g g' g1 g2 : Gh} {s s' s1 s2 : S} {σ : L2.St} {H H' H1 H2 : Hp} {p a : Addr} {c : Cell}

def CellAt (Z : Zx) (g : Gh) (H : Hp) (p : Addr) : Cell → Prop
  | .lst l => g.F p = none ∧ ∃ vs, H p = some (.lst vs) ∧ l.length ≤ sizeLine ∧ IsL Z g l vs
  | .dct l => g.F p = none ∧ ∃ kvs, H p = some (.dK kvs) ∧ IsD Z g l kvs
  | .ins c fs => g.F p = none ∧ ∃ dx ws, H p = some (.ins (Z.cls c) dx ws) ∧ H dx = some (.own p) ∧ g.F dx = none ∧ IsF Z g fs ws
  | .hst st cs ix => g.F p = none ∧ ∃ b, H p = some (.lst [.int st, .ref b, .int ix]) ∧ H b = some (.lst (cs.map V.int)) ∧ g.F b = none ∧ b ≠ p
  | .scr ns => g.F p = none ∧ ∃ o, H p = some (.frz o (.lst (ns.map V.int)))
  | .dead => True
def dxOf : Option HO → List Addr
  | some (.ins _ dx _) => [dx]
  | some (.lst [_, .ref b, _]) => [b]
  | _ => []
def foot (H : Hp) (p : Addr) : Cell → List Addr
  | .lst _ => [p]
  | .dct _ => [p]
  | .ins _ _ => p :: dxOf (H p)
  | .hst _ _ _ => p :: dxOf (H p)
  | .scr _ => [p]
  | .dead => []
theorem CellAt.none_foot (h : CellAt Z g H p c) : ∀ a ∈ foot H p c, g.F a = none ∧ H a ≠ none := by
  cases c with
  | lst l =>
    obtain ⟨h1, vs, h2, _⟩ := h
    intro a ha
    have e : a = p := by simpa [foot] using ha
    subst e
    exact ⟨h1, by rw [h2]; simp⟩
  | dct l =>
    obtain ⟨h1, vs, h2, _⟩ := h
    intro a ha
    have e : a = p := by simpa [foot] using ha
    subst e
    exact ⟨h1, by rw [h2]; simp⟩
  | ins c fs =>
    obtain ⟨h1, dx, ws, h2, h3, h4, _⟩ := h
    intro a ha
    have e : a = p ∨ a = dx := by simpa [foot, h2, dxOf] using ha
    rcases e with rfl | rfl
    · exact ⟨h1, by rw [h2]; simp⟩
    · exact ⟨h4, by rw [h3]; simp⟩
  | hst st cs ix =>
    obtain ⟨h1, b, h2, h3, h4, _⟩ := h
    intro a ha
    have e : a = p ∨ a = b := by simpa [foot, h2, dxOf] using ha
    rcases e with rfl | rfl
    · exact ⟨h1, by rw [h2]; simp⟩
    · exact ⟨h4, by rw [h3]; simp⟩
  | scr ns =>
    obtain ⟨h1, o, h2⟩ := h
    intro a ha
    have e : a = p := by simpa [foot] using ha
    subst e
    exact ⟨h1, by rw [h2]; simp⟩
  | dead => intro a ha; simp [foot] at ha
theorem foot_eq (h : ∀ a ∈ foot H p c, H' a = H a) : foot H' p c = foot H p c := by
  cases c with
  | lst l => rfl
  | dct l => rfl
  | ins c fs =>
    have e := h p (by simp [foot])
    simp [foot, e]
  | hst st cs ix =>
    have e := h p (by simp [foot])
    simp [foot, e]
  | scr ns => rfl
  | dead => rfl
theorem CellAt.move (h : CellAt Z g H p c) (le : g.Le g') (hH : ∀ a ∈ foot H p c, H' a = H a) (hF : ∀ a ∈ foot H p c, g'.F a = none) : CellAt Z g' H' p c := by
  cases c with
  | lst l =>
    obtain ⟨h1, vs, h2, h3, h4⟩ := h
    exact ⟨hF p (by simp [foot]), vs, (hH p (by simp [foot])).trans h2, h3, IsL.mono le _ _ h4⟩
  | dct l =>
    obtain ⟨h1, vs, h2, h4⟩ := h
    exact ⟨hF p (by simp [foot]), vs, (hH p (by simp [foot])).trans h2, IsD.mono le _ _ h4⟩
  | ins c fs =>
    obtain ⟨h1, dx, ws, h2, h3, h4, h5⟩ := h
    have m : dx ∈ foot H p (.ins c fs) := by simp [foot, h2, dxOf]
    exact ⟨hF p (by simp [foot]), dx, ws, (hH p (by simp [foot])).trans h2, (hH dx m).trans h3, hF dx m, IsF.mono le _ _ h5⟩
  | hst st cs ix =>
    obtain ⟨h1, b, h2, h3, h4, h5⟩ := h
    have m : b ∈ foot H p (.hst st cs ix) := by simp [foot, h2, dxOf]
    exact ⟨hF p (by simp [foot]), b, (hH p (by simp [foot])).trans h2, (hH b m).trans h3, hF b m, h5⟩
  | scr ns =>
    obtain ⟨h1, o, h2⟩ := h
    exact ⟨hF p (by simp [foot]), o, (hH p (by simp [foot])).trans h2⟩
  | dead => trivial

def padr (g : Gh) (σ : L2.St) : Pl → Option Addr
  | .loc i => match σ[i]? with
    | some (some (.ref p)) => some p
    | _ => none
  | .res k => g.rho k
def SlIs (Z : Zx) (g : Gh) (x : Sl) (v : V) : Prop := match x with
  | .fz d => Is Z g d v
  | .ow _ => True
  | .xc c fs => ∃ a d, v = .ref a ∧ Z.fnm.hx = some (a, c, d) ∧ ((fs = [] ∧ d = none) ∨ ∃ dd ws, d = some dd ∧ g.F dd = some (.xd ws) ∧ IsF Z g fs ws)
theorem SlIs.mono {x : Sl} {v : V} (h : g.Le g') (i : SlIs Z g x v) : SlIs Z g' x v := by
  cases x with
  | fz d => exact Is.mono h _ _ i
  | ow c => trivial
  | xc c fs =>
    obtain ⟨a, d, e1, e2, e3⟩ := i
    refine ⟨a, d, e1, e2, e3.imp id ?_⟩
    rintro ⟨dd, ws, k1, k2, k3⟩
    exact ⟨dd, ws, k1, h.get k2 rfl, IsF.mono h _ _ k3⟩
structure Rel (Z : Zx) (g : Gh) (s : S) (σ : L2.St) (H : Hp) : Prop where
  sub : ∀ a o, g.F a = some o → H a = some o
  fz : ∀ (i : Nat) (x : Sl), s.loc[i]? = some (some x) → ∃ v, σ[i]? = some (some v) ∧ SlIs Z g x v
  cell : ∀ q c, s.cell q = some c → ∃ p, padr g σ q = some p ∧ CellAt Z g H p c
  apart : ∀ q q' c c' p p', q ≠ q' → s.cell q = some c → s.cell q' = some c' → padr g σ q = some p → padr g σ q' = some p' → ∀ a ∈ foot H p c, a ∉ foot H p' c'
  len : s.loc.length = σ.length
  rdom : ∀ k p, g.rho k = some p → k < s.res.length
def Own (g : Gh) (s : S) (σ : L2.St) (H : Hp) (a : Addr) : Prop := ∃ q c p, s.cell q = some c ∧ padr g σ q = some p ∧ a ∈ foot H p c
theorem Rel.own_some (r : Rel Z g s σ H) (h : Own g s σ H a) : H a ≠ none ∧ g.F a = none := by
  obtain ⟨q, c, p, h1, h2, h3⟩ := h
  obtain ⟨p', e1, e2⟩ := r.cell q c h1
  rw [h2] at e1
  cases e1
  exact ⟨(e2.none_foot a h3).2, (e2.none_foot a h3).1⟩
structure Fr (σ σ' : L2.St) (g : Gh) (s : S) (H : Hp) (g' : Gh) (s' : S) (H' : Hp) (ex : List Addr) : Prop where
  le : g.Le g'
  keep : ∀ a o, H a = some o → ¬ Own g s σ H a → H' a = some o ∨ (g.F a ≠ none ∧ ∃ o', H' a = some o' ∧ Sm o o')
  fnew : ∀ a, H a ≠ none → ¬ Own g s σ H a → g.F a = none → g'.F a = none
  own : ∀ a, (Own g' s' σ' H' a ∨ a ∈ ex) → H a = none ∨ Own g s σ H a
  mono : ∀ a, H' a = none → H a = none
  rl : s.res.length ≤ s'.res.length
variable {σ' σ1 σ2 : L2.St} {ex ex' : List Addr}
theorem Fr.refl : Fr σ σ g s H g s H [] := ⟨.refl g, fun _ _ h _ => .inl h, fun _ _ _ h => h, fun a h => .inr (h.elim id fun z => nomatch z), fun _ h => h, Nat.le_refl _⟩
theorem Fr.trans (A : Fr σ σ1 g s H g1 s1 H1 ex) (B : Fr σ1 σ2 g1 s1 H1 g2 s2 H2 ex') : Fr σ σ2 g s H g2 s2 H2 ex' where
  le := A.le.trans B.le
  keep := fun a o h n => by
    have no : ¬ Own g1 s1 σ1 H1 a := fun q => (A.own a (.inl q)).elim (fun z => by rw [h] at z; cases z) n
    rcases A.keep a o h n with e | ⟨f, o1, e, m⟩
    · rcases B.keep a o e no with e | ⟨f, o2, e, m⟩
      · exact .inl e
      · refine .inr ⟨fun z => f (A.fnew a (by rw [h]; simp) n z), o2, e, m⟩
    · rcases B.keep a o1 e no with e | ⟨_, o2, e, m2⟩
      · exact .inr ⟨f, o1, e, m⟩
      · exact .inr ⟨f, o2, e, m.trans m2⟩
  fnew := fun a h n f => by
    obtain ⟨o, e⟩ := Option.ne_none_iff_exists'.mp h
    refine B.fnew a ?_ (fun q => (A.own a (.inl q)).elim h n) (A.fnew a h n f)
    rcases A.keep a o e n with q | ⟨z, _⟩
    · rw [q]; simp
    · exact absurd f z
  own := fun a h => (B.own a h).elim (fun z => .inl (A.mono a z)) fun z => A.own a (.inl z)
  mono := fun a h => A.mono a (B.mono a h)
  rl := Nat.le_trans A.rl B.rl
theorem Fr.kept (A : Fr σ σ1 g s H g1 s1 H1 ex) {o : HO} (h : H a = some o) (n : ¬ Own g s σ H a) (f : g.F a = none) : H1 a = some o := (A.keep a o h n).elim id fun z => absurd f z.1
theorem Fr.drop (A : Fr σ σ1 g s H g1 s1 H1 ex) : Fr σ σ1 g s H g1 s1 H1 [] := ⟨A.le, A.keep, A.fnew, fun a h => A.own a (h.elim .inl fun z => nomatch z), A.mono, A.rl⟩

def VR (Z : Zx) (g : Gh) (s : S) (σ : L2.St) (H : Hp) (x : Sl) (v : V) (ex : List Addr) : Prop := match x with
  | .fz d => Is Z g d v ∧ ex = []
  | .ow c => ∃ p, v = .ref p ∧ CellAt Z g H p c ∧ ex = foot H p c ∧ (∀ a ∈ ex, ¬ Own g s σ H a) ∧ c.con = true
  | .xc _ _ => False
def Gh.add (g : Gh) (p : Addr) (o : HO) : Gh := ⟨upd g.F p o, g.rho⟩
theorem Gh.add_le {o : HO} (h : g.F p = none) : g.Le (g.add p o) := ⟨fun a u e => ⟨u, by
  show upd g.F p o a = some u
  rw [upd_ne (ne_of_none e h)]
  exact e, .refl u⟩, fun _ _ e => e⟩
theorem padr_add {o : HO} (q : Pl) : padr (g.add p o) σ q = padr g σ q := by cases q <;> rfl
theorem own_add {o : HO} : Own (g.add p o) s σ H a ↔ Own g s σ H a := by
  constructor
  · rintro ⟨q, c, x, h1, h2, h3⟩
    exact ⟨q, c, x, h1, by rw [← padr_add q]; exact h2, h3⟩
  · rintro ⟨q, c, x, h1, h2, h3⟩
    exact ⟨q, c, x, h1, by rw [padr_add q]; exact h2, h3⟩
theorem Rel.addF {o : HO} (r : Rel Z g s σ H) (hp : H p = some o) (hf : g.F p = none) (n : ¬ Own g s σ H p) : Rel Z (g.add p o) s σ H where
  sub := fun a u e => by
    by_cases h : a = p
    · subst h
      have e2 : upd g.F a o a = some u := e
      rw [upd_same] at e2
      rw [hp]
      exact e2
    · have e2 : upd g.F p o a = some u := e
      rw [upd_ne h] at e2
      exact r.sub a u e2
  fz := fun i d h => by
    obtain ⟨v, h1, h2⟩ := r.fz i d h
    exact ⟨v, h1, h2.mono (Gh.add_le hf)⟩
  cell := fun q c h => by
    obtain ⟨x, h1, h2⟩ := r.cell q c h
    refine ⟨x, by rw [padr_add]; exact h1, h2.move (Gh.add_le hf) (fun _ _ => rfl) fun a ha => ?_⟩
    show upd g.F p o a = none
    rw [upd_ne (fun z => n (by rw [← z]; exact ⟨q, c, x, h, h1, ha⟩))]
    exact (h2.none_foot a ha).1
  apart := fun q q' c c' x x' ne h1 h2 h3 h4 => r.apart q q' c c' x x' ne h1 h2 (by rw [← padr_add q]; exact h3) (by rw [← padr_add q']; exact h4)
  len := r.len
  rdom := r.rdom
theorem Rel.alloc {o : HO} (r : Rel Z g s σ H) (hp : H p = none) : Rel Z g s σ (upd H p o) ∧ ∀ a, Own g s σ (upd H p o) a ↔ Own g s σ H a := by
  have fe : ∀ q c x, s.cell q = some c → padr g σ q = some x → (∀ a ∈ foot H x c, upd H p o a = H a) := fun q c x h1 h2 a ha => by
    obtain ⟨x', e1, e2⟩ := r.cell q c h1
    rw [h2] at e1
    cases e1
    refine upd_ne fun z => ?_
    subst z
    exact (e2.none_foot a ha).2 hp
  have fq : ∀ q c x, s.cell q = some c → padr g σ q = some x → foot (upd H p o) x c = foot H x c := fun q c x h1 h2 => foot_eq (fe q c x h1 h2)
  refine ⟨⟨fun a u e => ?_, r.fz, fun q c h => ?_, fun q q' c c' x x' ne h1 h2 h3 h4 a ha => ?_, r.len, r.rdom⟩, fun a => ⟨?_, ?_⟩⟩
  · have q := r.sub a u e
    rw [upd_ne (ne_of_none q hp)]
    exact q
  · obtain ⟨x, h1, h2⟩ := r.cell q c h
    exact ⟨x, h1, h2.move (.refl g) (fe q c x h h1) fun a ha => (h2.none_foot a ha).1⟩
  · rw [fq q c x h1 h3] at ha
    rw [fq q' c' x' h2 h4]
    exact r.apart q q' c c' x x' ne h1 h2 h3 h4 a ha
  · rintro ⟨q, c, x, h1, h2, h3⟩
    rw [fq q c x h1 h2] at h3
    exact ⟨q, c, x, h1, h2, h3⟩
  · rintro ⟨q, c, x, h1, h2, h3⟩
    rw [← fq q c x h1 h2] at h3
    exact ⟨q, c, x, h1, h2, h3⟩
theorem Rel.free (r : Rel Z g s σ H) (hp : H p = none) : g.F p = none ∧ ¬ Own g s σ H p := by
  refine ⟨?_, fun h => (r.own_some h).1 hp⟩
  cases e : g.F p with
  | none => rfl
  | some o =>
    have := r.sub p o e
    rw [hp] at this
    cases this
theorem mono_upd {o : HO} : ∀ a, upd H p o a = none → H a = none := fun a h => by
  by_cases e : a = p
  · subst e
    rw [upd_same] at h
    cases h
  · rw [upd_ne e] at h
    exact h
theorem Rel.allocF {o : HO} (r : Rel Z g s σ H) (hp : H p = none) : Rel Z (g.add p o) s σ (upd H p o) ∧ Fr σ σ g s H (g.add p o) s (upd H p o) [] := by
  obtain ⟨r1, ow⟩ := r.alloc (o := o) hp
  obtain ⟨f1, f2⟩ := r.free hp
  refine ⟨r1.addF upd_same f1 fun h => f2 ((ow p).mp h), ⟨Gh.add_le f1, fun a u e _ => .inl ?_, fun a h _ f => ?_, fun a h => ?_, mono_upd, Nat.le_refl _⟩⟩
  · rw [upd_ne (ne_of_none e hp)]
    exact e
  · show upd g.F p o a = none
    rw [upd_ne fun z => h (by rw [z]; exact hp)]
    exact f
  · rcases h with h | h
    · exact .inr ((ow a).mp (own_add.mp h))
    · cases h
theorem Rel.allocO {o : HO} (r : Rel Z g s σ H) (hp : H p = none) (hc : CellAt Z g (upd H p o) p c) (hf : foot (upd H p o) p c = [p]) (hl : c.con = true) :
    Rel Z g s σ (upd H p o) ∧ Fr σ σ g s H g s (upd H p o) [p] ∧ VR Z g s σ (upd H p o) (.ow c) (.ref p) [p] := by
  obtain ⟨r1, ow⟩ := r.alloc (o := o) hp
  obtain ⟨f1, f2⟩ := r.free hp
  refine ⟨r1, ⟨.refl g, fun a u e _ => .inl ?_, fun a _ _ f => f, fun a h => ?_, mono_upd, Nat.le_refl _⟩, p, rfl, hc, hf.symm, fun a ha => ?_, hl⟩
  · rw [upd_ne (ne_of_none e hp)]
    exact e
  · rcases h with h | h
    · exact .inr ((ow a).mp h)
    · have e : a = p := by simpa using h
      rw [e]
      exact .inl hp
  · have e : a = p := by simpa using ha
    rw [e]
    exact fun h => f2 ((ow p).mp h)
theorem VR.freeze {x : Sl} {v : V} (h : VR Z g1 s1 σ1 H1 x v ex) (r : Rel Z g1 s1 σ1 H1) (F : Fr σ σ1 g s H g1 s1 H1 ex) :
    ∃ g2, Rel Z g2 s1 σ1 H1 ∧ Fr σ σ1 g s H g2 s1 H1 [] ∧ Is Z g2 x.d v := by
  cases x with
  | xc _ _ => exact h.elim
  | fz d => exact ⟨g1, r, F.drop, h.1⟩
  | ow c =>
    obtain ⟨p, rfl, hc, rfl, ho, hl⟩ := h
    cases c with
    | lst l =>
      obtain ⟨f, vs, hp, hz, hi⟩ := hc
      have np : ¬ Own g1 s1 σ1 H1 p := ho p (by simp [foot])
      refine ⟨g1.add p (.lst vs), r.addF hp f np, ⟨F.le.trans (Gh.add_le f), F.keep, fun a h1 h2 h3 => ?_, fun a h1 => ?_, F.mono, F.rl⟩, p, vs, rfl, upd_same, hz, IsL.mono (Gh.add_le f) _ _ hi⟩
      · show upd g1.F p _ a = none
        rw [upd_ne]
        · exact F.fnew a h1 h2 h3
        · intro z
          subst z
          exact (F.own a (.inr (by simp [foot]))).elim h1 h2
      · exact F.own a (h1.elim (fun z => .inl (own_add.mp z)) fun z => nomatch z)
    | dct l =>
      obtain ⟨f, vs, hp, hi⟩ := hc
      have np : ¬ Own g1 s1 σ1 H1 p := ho p (by simp [foot])
      refine ⟨g1.add p (.dK vs), r.addF hp f np, ⟨F.le.trans (Gh.add_le f), F.keep, fun a h1 h2 h3 => ?_, fun a h1 => ?_, F.mono, F.rl⟩, p, vs, rfl, .inl upd_same, IsD.mono (Gh.add_le f) _ _ hi⟩
      · show upd g1.F p _ a = none
        rw [upd_ne]
        · exact F.fnew a h1 h2 h3
        · intro z
          subst z
          exact (F.own a (.inr (by simp [foot]))).elim h1 h2
      · exact F.own a (h1.elim (fun z => .inl (own_add.mp z)) fun z => nomatch z)
    | _ => cases hl

def S.rs (s : S) : S := ⟨[], s.res⟩
theorem cell_rs {q : Pl} (h : s.rs.cell q = some c) : s.cell q = some c ∧ ∃ k, q = .res k := by
  cases q with
  | loc i => simp [S.rs, S.cell] at h
  | res k => exact ⟨h, k, rfl⟩
theorem padr_rs {k : Nat} : padr g ([] : L2.St) (.res k) = padr g σ (.res k) := rfl
theorem own_rs (h : Own g s.rs [] H a) : Own g s σ H a := by
  obtain ⟨q, c, p, h1, h2, h3⟩ := h
  obtain ⟨h4, k, rfl⟩ := cell_rs h1
  exact ⟨_, c, p, h4, h2, h3⟩
theorem Rel.rs (r : Rel Z g s σ H) : Rel Z g s.rs [] H where
  sub := r.sub
  fz := fun i d h => by simp [S.rs] at h
  cell := fun q c h => by
    obtain ⟨h1, k, rfl⟩ := cell_rs h
    exact r.cell _ c h1
  apart := fun q q' c c' p p' ne h1 h2 h3 h4 => by
    obtain ⟨k1, k, rfl⟩ := cell_rs h1
    obtain ⟨k2, k', rfl⟩ := cell_rs h2
    exact r.apart _ _ c c' p p' ne k1 k2 h3 h4
  len := rfl
  rdom := r.rdom
theorem Rel.back {res' : List Cell} (r : Rel Z g s σ H) (r' : Rel Z g' ⟨[], res'⟩ [] H') (F : Fr [] [] g s.rs H g' ⟨[], res'⟩ H' ex) :
    Rel Z g' ⟨s.loc, res'⟩ σ H' ∧ Fr σ σ g s H g' ⟨s.loc, res'⟩ H' ex ∧ ∀ a, (Own g' ⟨[], res'⟩ [] H' a ∨ a ∈ ex) → (∀ i c p, s.cell (.loc i) = some c → padr g σ (.loc i) = some p → a ∉ foot H' p c) := by
  have nr : ∀ i c p, s.cell (.loc i) = some c → padr g σ (.loc i) = some p → ∀ a ∈ foot H p c, ¬ Own g s.rs [] H a := fun i c p h1 h2 a ha h => by
    obtain ⟨q, c', p', h3, h4, h5⟩ := h
    obtain ⟨h6, k, rfl⟩ := cell_rs h3
    exact r.apart (.loc i) (.res k) c c' p p' (by simp) h1 h6 h2 h4 a ha h5
  have cl : ∀ i c p, s.cell (.loc i) = some c → padr g σ (.loc i) = some p → CellAt Z g H p c := fun i c p h1 h2 => by
    obtain ⟨p', e1, e2⟩ := r.cell _ _ h1
    rw [h2] at e1
    cases e1
    exact e2
  have same : ∀ i c p, s.cell (.loc i) = some c → padr g σ (.loc i) = some p → ∀ a ∈ foot H p c, H' a = H a := fun i c p h1 h2 a ha => by
    obtain ⟨o, e⟩ := Option.ne_none_iff_exists'.mp ((cl i c p h1 h2).none_foot a ha).2
    rw [e]
    exact F.kept e (nr i c p h1 h2 a ha) ((cl i c p h1 h2).none_foot a ha).1
  have fnone : ∀ i c p, s.cell (.loc i) = some c → padr g σ (.loc i) = some p → ∀ a ∈ foot H p c, g'.F a = none := fun i c p h1 h2 a ha =>
    F.fnew a ((cl i c p h1 h2).none_foot a ha).2 (nr i c p h1 h2 a ha) ((cl i c p h1 h2).none_foot a ha).1
  have far : ∀ a, (Own g' ⟨[], res'⟩ [] H' a ∨ a ∈ ex) → ∀ i c p, s.cell (.loc i) = some c → padr g σ (.loc i) = some p → a ∉ foot H p c := fun a h i c p h1 h2 ha => by
    rcases F.own a h with z | z
    · exact ((cl i c p h1 h2).none_foot a ha).2 z
    · exact nr i c p h1 h2 a ha z
  have lc : ∀ q c, (⟨s.loc, res'⟩ : S).cell q = some c → (∃ i, q = .loc i ∧ s.cell (.loc i) = some c) ∨ ∃ k, q = .res k ∧ (⟨[], res'⟩ : S).cell (.res k) = some c := fun q c h => by
    cases q with
    | loc i => exact .inl ⟨i, rfl, h⟩
    | res k => exact .inr ⟨k, rfl, h⟩
  refine ⟨⟨r'.sub, fun i d h => ?_, fun q c h => ?_, fun q q' c c' p p' ne h1 h2 h3 h4 a ha hb => ?_, r.len, r'.rdom⟩, ⟨F.le, fun a o h n => F.keep a o h fun z => n (own_rs z), fun a h n f => F.fnew a h (fun z => n (own_rs z)) f, fun a h => ?_, F.mono, F.rl⟩, fun a h i c p h1 h2 => by rw [foot_eq (same i c p h1 h2)]; exact far a h i c p h1 h2⟩
  · obtain ⟨v, e1, e2⟩ := r.fz i d h
    exact ⟨v, e1, e2.mono F.le⟩
  · rcases lc q c h with ⟨i, rfl, h1⟩ | ⟨k, rfl, h1⟩
    · obtain ⟨p, e1, e2⟩ := r.cell _ _ h1
      exact ⟨p, e1, e2.move F.le (same i c p h1 e1) (fnone i c p h1 e1)⟩
    · exact r'.cell _ _ h1
  · rcases lc q c h1 with ⟨i, rfl, k1⟩ | ⟨k, rfl, k1⟩
    · have hp : padr g σ (.loc i) = some p := h3
      rw [foot_eq (same i c p k1 hp)] at ha
      rcases lc q' c' h2 with ⟨j, rfl, k2⟩ | ⟨k, rfl, k2⟩
      · have hp' : padr g σ (.loc j) = some p' := h4
        rw [foot_eq (same j c' p' k2 hp')] at hb
        exact r.apart _ _ c c' p p' ne k1 k2 hp hp' a ha hb
      · exact far a (.inl ⟨_, c', p', k2, h4, hb⟩) i c p k1 hp ha
    · rcases lc q' c' h2 with ⟨j, rfl, k2⟩ | ⟨k', rfl, k2⟩
      · have hp' : padr g σ (.loc j) = some p' := h4
        rw [foot_eq (same j c' p' k2 hp')] at hb
        exact far a (.inl ⟨_, c, p, k1, h3, ha⟩) j c' p' k2 hp' hb
      · exact r'.apart _ _ c c' p p' ne k1 k2 h3 h4 a ha hb
  · rcases h with h | h
    · obtain ⟨q, c, p, h1, h2, h3⟩ := h
      rcases lc q c h1 with ⟨i, rfl, k1⟩ | ⟨k, rfl, k1⟩
      · have hp : padr g σ (.loc i) = some p := h2
        rw [foot_eq (same i c p k1 hp)] at h3
        exact .inr ⟨_, c, p, k1, hp, h3⟩
      · exact (F.own a (.inl ⟨_, c, p, k1, h2, h3⟩)).imp id own_rs
    · exact (F.own a (.inr h)).imp id own_rs
end Pm
namespace Pm
open PySem L2
open PySem.W (Frag)
variable {Z : Zx} {T : Tab} {W : WX} {σ σ' : L2.St} {g g' g1 g2 : Gh} {s s' s1 s2 : S} {H H' H1 H2 : Hp}

def ExAt (Z : Zx) (g : Gh) (H : Hp) (k : Nat) (fs : List (Nat × D)) (cls : Value) (d : Option Addr) : Prop :=
  cls = .ref (Z.cls k) ∧ ((fs = [] ∧ d = none) ∨ ∃ dd ws, d = some dd ∧ g.F dd = some (.xd ws) ∧ IsF Z g fs ws)
def Out {α : Type} (Z : Zx) (W : WX) (σ : L2.St) (g : Gh) (s : S) (H : Hp) (r : R α) (P : α → Gh → S → Hp → List Addr → Prop) : Prop := match r with
  | .ok x s' => ∀ g' H' ex, Rel Z g' s' σ H' → Fr σ σ g s H g' s' H' ex → P x g' s' H' ex
  | .exc k fs s' => ∀ g' H' cls d, Rel Z g' s' σ H' → Fr σ σ g s H g' s' H' [] → ExAt Z g' H' k fs cls d → W cls d σ H'
  | .bad => False
abbrev PV (Z : Zx) (σ : L2.St) (Q : VK) : Sl → Gh → S → Hp → List Addr → Prop := fun x g' s' H' ex => ∀ v, VR Z g' s' σ H' x v ex → Q v H'
def rdE (Z : Zx) (T : Tab) (W : WX) (e : E) : TE := fun σ H Q => ∃ g s, Rel Z g s σ H ∧ Out Z W σ g s H (ev T e s) (PV Z σ Q)
def rdT (Z : Zx) (T : Tab) (W : WX) (e : E) : TT := fun σ H Q => ∃ g s, Rel Z g s σ H ∧ Out Z W σ g s H (ev T e s) (fun x _ _ H' _ => ∃ b, x.d = .bl b ∧ Q b H')
def rdL (Z : Zx) (T : Tab) (W : WX) (l : List E) : TA := fun σ H Q => ∃ g s, Rel Z g s σ H ∧ Out Z W σ g s H (evL T l s) (fun ds g' _ H' _ => ∀ vs, IsL Z g' ds vs → Q vs H')
theorem Out.mono {α : Type} {r : R α} {P P' : α → Gh → S → Hp → List Addr → Prop} (h : Out Z W σ g s H r P) (k : ∀ x g' s' H' ex, Rel Z g' s' σ H' → Fr σ σ g s H g' s' H' ex → P x g' s' H' ex → P' x g' s' H' ex) : Out Z W σ g s H r P' := by
  cases r with
  | ok x s' => exact fun g' H' ex R F => k x g' s' H' ex R F (h g' H' ex R F)
  | exc c fs s' => exact h
  | bad => exact h
theorem Out.later {α : Type} {r : R α} {P : α → Gh → S → Hp → List Addr → Prop} (h : Out Z W σ g s H r P) (F : Fr σ σ g s H g1 s1 H1 []) : Out Z W σ g1 s1 H1 r P := by
  cases r with
  | ok x s' => exact fun g' H' ex R' F' => h g' H' ex R' (F.trans F')
  | exc c fs s' => exact fun g' H' cls d R' F' => h g' H' cls d R' (F.trans F')
  | bad => exact h
theorem Out.bind {α β : Type} {r : R α} {f : α → S → R β} {P : β → Gh → S → Hp → List Addr → Prop} (h : Out Z W σ g s H (r.bind f) P) :
    Out Z W σ g s H r (fun x _ s1 _ _ => Out Z W σ g s H (f x s1) P) := by
  cases r with
  | ok x s' => exact fun _ _ _ _ _ => h
  | exc c fs s' => exact h
  | bad => exact h
theorem seqE {α : Type} {a : E} {f : Sl → S → R α} {P : α → Gh → S → Hp → List Addr → Prop} {K : VK} (R1 : Rel Z g s σ H) (h : Out Z W σ g s H ((ev T a s).bind f) P)
    (k : ∀ x v g2 s1 H1, Rel Z g2 s1 σ H1 → Is Z g2 x.d v → g.Le g2 → Fr σ σ g s H g2 s1 H1 [] → Out Z W σ g2 s1 H1 (f x s1) P → K v H1) : rdE Z T W a σ H K :=
  ⟨g, s, R1, h.bind.mono fun x g1 s1 H1 ex R' F' q v V => by
    obtain ⟨g2, R2, F2, I2⟩ := V.freeze R' F'
    exact k x v g2 s1 H1 R2 I2 F2.le F2 (q.later F2)⟩
theorem seqT {α : Type} {a : E} {f : Sl → S → R α} {P : α → Gh → S → Hp → List Addr → Prop} {K : Bool → Hp → Prop} (R1 : Rel Z g s σ H) (h : Out Z W σ g s H ((ev T a s).bind f) P)
    (hb : ∀ x s1 g2 H1, Rel Z g2 s1 σ H1 → Out Z W σ g2 s1 H1 (f x s1) P → ∃ b, x.d = .bl b)
    (k : ∀ x b g2 s1 H1, Rel Z g2 s1 σ H1 → x.d = .bl b → g.Le g2 → Fr σ σ g s H g2 s1 H1 [] → Out Z W σ g2 s1 H1 (f x s1) P → K b H1) : rdT Z T W a σ H K :=
  ⟨g, s, R1, h.bind.mono fun x g1 s1 H1 ex R' F' q => by
    have q' := q.later F'.drop
    obtain ⟨b, e⟩ := hb x s1 g1 H1 R' q'
    exact ⟨b, e, k x b g1 s1 H1 R' e F'.le F'.drop q'⟩⟩
theorem seqL {α : Type} {l : List E} {f : List D → S → R α} {P : α → Gh → S → Hp → List Addr → Prop} {K : List V → Hp → Prop} (R1 : Rel Z g s σ H) (h : Out Z W σ g s H ((evL T l s).bind f) P)
    (k : ∀ x v g2 s1 H1, Rel Z g2 s1 σ H1 → IsL Z g2 x v → g.Le g2 → Fr σ σ g s H g2 s1 H1 [] → Out Z W σ g2 s1 H1 (f x s1) P → K v H1) : rdL Z T W l σ H K :=
  ⟨g, s, R1, h.bind.mono fun x g1 s1 H1 ex R' F' q v V => k x v g1 s1 H1 R' V F'.le F'.drop (q.later F'.drop)⟩
theorem Out.fz {d : D} {v : V} {Q : VK} (R1 : Rel Z g s σ H) (h : Out Z W σ g s H (.ok (.fz d) s) (PV Z σ Q)) (i : Is Z g d v) : Q v H := h g H [] R1 .refl v ⟨i, rfl⟩
theorem Out.fzO {d : Option D} {v : V} {Q : VK} (R1 : Rel Z g s σ H) (h : Out Z W σ g s H (ofO (d.map .fz) s) (PV Z σ Q)) (i : ∀ x, d = some x → Is Z g x v) : Q v H := by
  cases d with
  | none => exact h.elim
  | some x => exact Out.fz R1 h (i x rfl)
theorem Out.new {d : D} {Q : VK} {p : Addr} {o : HO} (R1 : Rel Z g s σ H) (h : Out Z W σ g s H (.ok (.fz d) s) (PV Z σ Q)) (hp : H p = none) (i : Is Z (g.add p o) d (.ref p)) : Q (.ref p) (upd H p o) := by
  obtain ⟨R2, F2⟩ := R1.allocF (o := o) hp
  exact h _ _ [] R2 F2 _ ⟨i, rfl⟩
theorem Out.newL {l : List D} {vs : List V} {Q : VK} {p : Addr} (R1 : Rel Z g s σ H) (h : Out Z W σ g s H (.ok (.ow (.lst l)) s) (PV Z σ Q)) (hp : H p = none) (hl : l.length ≤ sizeLine) (i : IsL Z g l vs) : Q (.ref p) (upd H p (.lst vs)) := by
  have hc : CellAt Z g (upd H p (.lst vs)) p (.lst l) := ⟨(R1.free hp).1, vs, upd_same, hl, i⟩
  obtain ⟨R2, F2, V2⟩ := R1.allocO (o := .lst vs) hp hc rfl rfl
  exact h _ _ _ R2 F2 _ V2
theorem Out.newD {l : List (D × D)} {vs : List (Key × V)} {Q : VK} {p : Addr} (R1 : Rel Z g s σ H) (h : Out Z W σ g s H (.ok (.ow (.dct l)) s) (PV Z σ Q)) (hp : H p = none) (i : IsD Z g l vs) : Q (.ref p) (upd H p (.dK vs)) := by
  have hc : CellAt Z g (upd H p (.dK vs)) p (.dct l) := ⟨(R1.free hp).1, vs, upd_same, i⟩
  obtain ⟨R2, F2, V2⟩ := R1.allocO (o := .dK vs) hp hc rfl rfl
  exact h _ _ _ R2 F2 _ V2
theorem PE.weak {X : Cx} {e : Expr} {t t' : TE} (h : PE X e t) (w : ∀ σ H Q, t' σ H Q → t σ H Q) : PE X e t' := ⟨fun pins s σ H Q I q => h.run pins s σ H Q I (w σ H Q q)⟩
theorem PT.weak {X : Cx} {e : Expr} {t t' : TT} (h : PT X e t) (w : ∀ σ H Q, t' σ H Q → t σ H Q) : PT X e t' := ⟨fun pins s σ H Q I q => h.run pins s σ H Q I (w σ H Q q)⟩
theorem PA.weak {X : Cx} {e : List Expr} {t t' : TA} (h : PA X e t) (w : ∀ σ H Q, t' σ H Q → t σ H Q) : PA X e t' := ⟨fun p pins s σ H Q I q => h.run p pins s σ H Q I (w σ H Q q)⟩
theorem isL_len : ∀ {l : List D} {vs : List V}, IsL Z g l vs → vs.length = l.length
  | [], _, e => by cases e; rfl
  | d :: r, _, ⟨v, ws, e1, _, e3⟩ => by rw [e1, List.length_cons, List.length_cons, isL_len e3]
theorem isL_app : ∀ {l m : List D} {vs ws : List V}, IsL Z g l vs → IsL Z g m ws → IsL Z g (l ++ m) (vs ++ ws)
  | [], _, _, _, e, h => by cases e; exact h
  | d :: r, _, _, _, ⟨v, us, e1, e2, e3⟩, h => ⟨v, us ++ _, by rw [e1]; rfl, e2, isL_app e3 h⟩
theorem isL_get : ∀ {l : List D} {vs : List V} {i : Nat} {d : D}, IsL Z g l vs → l[i]? = some d → ∃ v, vs[i]? = some v ∧ Is Z g d v
  | [], _, _, _, _, h => by simp at h
  | d :: r, _, 0, x, ⟨v, ws, e1, e2, _⟩, h => by
    cases e1
    have e : d = x := by simpa using h
    exact ⟨v, rfl, e ▸ e2⟩
  | d :: r, _, i + 1, x, ⟨v, ws, e1, _, e3⟩, h => by
    cases e1
    exact isL_get (i := i) e3 (by simpa using h)
theorem isL_take : ∀ {l : List D} {vs : List V} (n : Nat), IsL Z g l vs → IsL Z g (l.take n) (vs.take n)
  | _, _, 0, _ => by simp [IsL]
  | [], _, n + 1, e => by cases e; simp [IsL]
  | d :: r, _, n + 1, ⟨v, ws, e1, e2, e3⟩ => by cases e1; exact ⟨v, _, rfl, e2, isL_take n e3⟩
theorem isL_drop : ∀ {l : List D} {vs : List V} (n : Nat), IsL Z g l vs → IsL Z g (l.drop n) (vs.drop n)
  | _, _, 0, h => h
  | [], _, n + 1, e => by cases e; simp [IsL]
  | d :: r, _, n + 1, ⟨v, ws, e1, e2, e3⟩ => by cases e1; exact isL_drop n e3
theorem isL_set : ∀ {l : List D} {vs : List V} (n : Nat) {d : D} {v : V}, IsL Z g l vs → Is Z g d v → IsL Z g (l.set n d) (vs.set n v)
  | [], _, _, _, _, e, _ => by cases e; simp [IsL]
  | d :: r, _, 0, _, _, ⟨v, ws, e1, e2, e3⟩, h => by cases e1; exact ⟨_, ws, rfl, h, e3⟩
  | d :: r, _, n + 1, _, _, ⟨v, ws, e1, e2, e3⟩, h => by cases e1; exact ⟨v, _, rfl, e2, isL_set n e3 h⟩
mutual
theorem Is.dp (hs : ∀ a o, g.F a = some o → H a = some o) : ∀ (d : D) (v : V) (x : PyData), d.py = some x → Is Z g d v → Dp Z.K H v x
  | .non, v, x, h, e => by
    have e : v = .non := e
    subst e
    cases h
    exact .non
  | .bl b, v, x, h, e => by
    have e : v = .bl b := e
    subst e
    cases h
    exact .bl b
  | .int i, v, x, h, e => by
    have e : v = .int i := e
    subst e
    cases h
    exact .int i
  | .str z, v, x, h, e => by
    have e : v = .str z := e
    subst e
    cases h
    exact .str z
  | .tup l, v, x, h, ⟨a, vs, e1, e2, e3⟩ => by
    subst e1
    obtain ⟨xs, h1, rfl⟩ := Option.map_eq_some_iff.mp (show (D.pyL l).map PyData.tuple = some x from h)
    exact .tup (sqT_mono hs e2) (IsL.dp hs l vs xs h1 e3)
  | .lst l, v, x, h, ⟨a, vs, e1, e2, _, e3⟩ => by
    subst e1
    obtain ⟨xs, h1, rfl⟩ := Option.map_eq_some_iff.mp (show (D.pyL l).map PyData.list = some x from h)
    exact .lst (SqL.of (hs _ _ e2)) (IsL.dp hs l vs xs h1 e3)
  | .dct l, _, _, h, _ => by cases h
  | .kdc l, _, _, h, _ => by cases h
  | .obj _ _, _, _, h, _ => by cases h
  | .res _, _, _, h, _ => by cases h
  | .scr _, _, _, h, _ => by cases h
theorem IsL.dp (hs : ∀ a o, g.F a = some o → H a = some o) : ∀ (l : List D) (vs : List V) (xs : List PyData), D.pyL l = some xs → IsL Z g l vs → DpAll Z.K H vs xs
  | [], _, _, h, e => by
    cases e
    cases h
    exact .nil
  | d :: r, _, xs, h, ⟨v, ws, e1, e2, e3⟩ => by
    subst e1
    unfold D.pyL at h
    cases h1 : d.py with
    | none =>
      rw [h1] at h
      cases h
    | some x =>
      cases h2 : D.pyL r with
      | none =>
        rw [h1, h2] at h
        cases h
      | some ys =>
        rw [h1, h2] at h
        cases h
        exact .cons (Is.dp hs d v x h1 e2) (IsL.dp hs r ws ys h2 e3)
end
end Pm
namespace Pm
open PySem L2
open PySem.W (Frag)
def zx (X : Cx) (cls : Nat → Addr) (fnm : Fnm) : Zx := ⟨X.K, X.w, cls, fnm⟩
theorem lim_le : lim ≤ sizeLine := by rw [sizeLine_eq]; decide
section
variable {X : Cx} {cls : Nat → Addr} {fnm : Fnm} {T : Tab} {W : WX} {a b c : E} {x y z : Expr} {pos : Pos}
local macro_rules | `(tactic| walk_at "zz") => `(tactic| skip)
abbrev RE (X : Cx) (cls : Nat → Addr) (fnm : Fnm) (T : Tab) (W : WX) (e : E) : TE := rdE (zx X cls fnm) T W e
abbrev RT (X : Cx) (cls : Nat → Addr) (fnm : Fnm) (T : Tab) (W : WX) (e : E) : TT := rdT (zx X cls fnm) T W e
abbrev RL (X : Cx) (cls : Nat → Addr) (fnm : Fnm) (T : Tab) (W : WX) (e : List E) : TA := rdL (zx X cls fnm) T W e
abbrev KE (X : Cx) (cls : Nat → Addr) (fnm : Fnm) (T : Tab) (W : WX) (e : E) (x : Expr) : Prop := PE X x (RE X cls fnm T W e)
abbrev KT (X : Cx) (cls : Nat → Addr) (fnm : Fnm) (T : Tab) (W : WX) (e : E) (x : Expr) : Prop := PT X x (RT X cls fnm T W e)
abbrev KL (X : Cx) (cls : Nat → Addr) (fnm : Fnm) (T : Tab) (W : WX) (e : List E) (x : List Expr) : Prop := PA X x (RL X cls fnm T W e)

theorem Rel.freezeSlot {Z : Zx} {g : Gh} {s : S} {σ : L2.St} {H : Hp} {i : Nat} {c : Cell} (R : Rel Z g s σ H) (h : s.loc[i]? = some (some (.ow c))) (hl : c.con = true) :
    ∃ p g', σ[i]? = some (some (.ref p)) ∧ Rel Z g' { s with loc := s.loc.set i (some (.fz c.d)) } σ H ∧ Fr σ σ g s H g' { s with loc := s.loc.set i (some (.fz c.d)) } H [] ∧ Is Z g' c.d (.ref p) := by
  have hc : s.cell (.loc i) = some c := by simp [S.cell, h]
  obtain ⟨p, e1, e2⟩ := R.cell _ _ hc
  have ep : σ[i]? = some (some (.ref p)) := by
    cases hh : σ[i]? with
    | none => simp [padr, hh] at e1
    | some o => cases o with
      | none => simp [padr, hh] at e1
      | some v => cases v with
        | ref q =>
          have e : q = p := by simpa [padr, hh] using e1
          rw [e]
        | _ => simp [padr, hh] at e1
  obtain ⟨o, hp, hf, hi, hfoot⟩ : ∃ o, H p = some o ∧ g.F p = none ∧ Is Z (g.add p o) c.d (.ref p) ∧ foot H p c = [p] := by
    cases c with
    | lst l =>
      obtain ⟨f, vs, hp, hz, hi⟩ := e2
      exact ⟨_, hp, f, ⟨p, vs, rfl, upd_same, hz, IsL.mono (Gh.add_le f) _ _ hi⟩, rfl⟩
    | dct l =>
      obtain ⟨f, vs, hp, hi⟩ := e2
      exact ⟨_, hp, f, ⟨p, vs, rfl, .inl upd_same, IsD.mono (Gh.add_le f) _ _ hi⟩, rfl⟩
    | _ => cases hl
  -- the state without the slot
  have cn : ∀ q c', S.cell { s with loc := s.loc.set i (some (.fz c.d)) } q = some c' → q ≠ .loc i ∧ s.cell q = some c' := fun q c' hq => by
    cases q with
    | res k => exact ⟨by simp, hq⟩
    | loc j =>
      by_cases hj : j = i
      · subst hj
        exfalso
        have hlt : j < s.loc.length := (List.getElem?_eq_some_iff.mp h).1
        simp [S.cell, hlt] at hq
      · refine ⟨by simpa using hj, ?_⟩
        simpa [S.cell, List.getElem?_set_ne (Ne.symm hj)] using hq
  have np : ∀ q c' p', S.cell { s with loc := s.loc.set i (some (.fz c.d)) } q = some c' → padr g σ q = some p' → p ∉ foot H p' c' := fun q c' p' hq hp' hm => by
    obtain ⟨n1, n2⟩ := cn q c' hq
    exact R.apart (.loc i) q c c' p p' (Ne.symm n1) hc n2 e1 hp' p (by rw [hfoot]; simp) hm
  refine ⟨p, g.add p o, ep, ⟨fun a u e => ?_, fun j d hj => ?_, fun q c' hq => ?_, fun q q' c1 c2 p1 p2 ne h1 h2 h3 h4 => ?_, ?_, R.rdom⟩, ⟨Gh.add_le hf, fun a u e _ => .inl e, fun a _ n f => ?_, fun a ha => ?_, fun a h => h, Nat.le_refl _⟩, hi⟩
  · by_cases ha : a = p
    · subst ha
      have e' : upd g.F a o a = some u := e
      rw [upd_same] at e'
      cases e'
      exact hp
    · have e' : upd g.F p o a = some u := e
      rw [upd_ne ha] at e'
      exact R.sub a u e'
  · by_cases hj' : j = i
    · subst hj'
      have hlt : j < s.loc.length := (List.getElem?_eq_some_iff.mp h).1
      have hj2 : (s.loc.set j (some (Sl.fz c.d)))[j]? = some (some d) := hj
      rw [List.getElem?_set_self hlt] at hj2
      cases hj2
      exact ⟨_, ep, hi⟩
    · have hj2 : (s.loc.set i (some (Sl.fz c.d)))[j]? = some (some d) := hj
      rw [List.getElem?_set_ne (Ne.symm hj')] at hj2
      obtain ⟨v, f1, f2⟩ := R.fz j d hj2
      exact ⟨v, f1, f2.mono (Gh.add_le hf)⟩
  · obtain ⟨n1, n2⟩ := cn q c' hq
    obtain ⟨p', f1, f2⟩ := R.cell q c' n2
    refine ⟨p', by rw [padr_add]; exact f1, f2.move (Gh.add_le hf) (fun _ _ => rfl) fun a ha => ?_⟩
    show upd g.F p o a = none
    rw [upd_ne fun z => np q c' p' hq f1 (by rw [← z]; exact ha)]
    exact (f2.none_foot a ha).1
  · exact R.apart q q' c1 c2 p1 p2 ne (cn q c1 h1).2 (cn q' c2 h2).2 (by rw [← padr_add q]; exact h3) (by rw [← padr_add q']; exact h4)
  · show (s.loc.set i _).length = _
    rw [List.length_set]
    exact R.len
  · show upd g.F p o a = none
    rw [upd_ne fun z => n ⟨_, c, p, hc, e1, by rw [hfoot, z]; simp⟩]
    exact f
  · rcases ha with ha | ha
    · obtain ⟨q, c', p', h1, h2, h3⟩ := ha
      exact .inr ⟨q, c', p', (cn q c' h1).2, by rw [← padr_add q]; exact h2, h3⟩
    · cases ha
end
end Pm
namespace Pm
open PySem L2
open PySem.W (Frag)
section
variable {X : Cx} {cls : Nat → Addr} {fnm : Fnm} {T : Tab} {W : WX} {a b c : E} {x y z : Expr} {pos : Pos} {es : List E} {xs : List Expr}
variable {g : Gh} {s : S} {σ : L2.St} {H : Hp} {d e : D} {v u : V} {Q : VK}
local macro_rules | `(tactic| walk_at "un") => `(tactic| skip)
theorem ke_var {i : Nat} {n : Str} (hN : X.N[i]? = some n) (hv : Vis X.env.scope n) (hd : (n == ("__debug__" : Str)) = false) (hc : (n == ("__classdict__" : Str)) = false) : KE X cls fnm T W (.var i) (.Name n pos) := by
  refine PE.weak (pe_var hN hv hd hc) fun σ H Q ⟨g, s, R1, h⟩ => ?_
  unfold ev at h
  cases e : s.loc[i]? with
  | none =>
    rw [e] at h
    exact h.elim
  | some o => cases o with
    | none =>
      rw [e] at h
      exact h.elim
    | some sl => cases sl with
      | fz d =>
        rw [e] at h
        obtain ⟨v, h1, h2⟩ := R1.fz i _ e
        exact ⟨v, h1, Out.fz R1 h h2⟩
      | xc _ _ =>
        rw [e] at h
        exact h.elim
      | ow c =>
        rw [e] at h
        have h' : Out (zx X cls fnm) W σ g s H (if c.con = true then (.ok (.fz c.d) { s with loc := s.loc.set i (some (.fz c.d)) } : R Sl) else .bad) (PV (zx X cls fnm) σ Q) := h
        by_cases k : c.con = true
        · rw [if_pos k] at h'
          obtain ⟨p, g', ep, R2, F2, I2⟩ := R1.freezeSlot e k
          exact ⟨_, ep, h' g' H [] R2 F2 _ ⟨I2, rfl⟩⟩
        · rw [if_neg k] at h'
          exact h'.elim
def RfAt (Z : Zx) (g : Gh) (σ : L2.St) (r : Rf) (v : V) : Prop := match r with
  | .val d => Is Z g d v
  | .slot i => σ[i]? = some (some v)
def Look (Z : Zx) (g : Gh) (H : Hp) (d : D) (v : V) : Prop := match d with
  | .lst l => ∃ p vs, v = .ref p ∧ SqL Z.K H p vs ∧ (l.length ≤ sizeLine ∧ H p = some (.lst vs)) ∧ IsL Z g l vs
  | .dct l => ∃ p kvs, v = .ref p ∧ Rd H p (.dK kvs) ∧ IsD Z g l kvs
  | d => Is Z g d v
theorem Look.of {Z : Zx} (hs : ∀ a o, g.F a = some o → H a = some o) (i : Is Z g d v) : Look Z g H d v := by
  cases d <;> first | exact i | skip
  · obtain ⟨p, vs, e, f, z, l⟩ := i
    exact ⟨p, vs, e, SqL.of (hs _ _ f), ⟨z, hs _ _ f⟩, l⟩
  · obtain ⟨p, kvs, e, f, l⟩ := i
    exact ⟨p, kvs, e, rd_mono hs f, l⟩
theorem RfAt.mono {Z : Zx} {g' : Gh} {r : Rf} (h : g.Le g') (a : RfAt Z g σ r v) : RfAt Z g' σ r v := by
  cases r with
  | val d => exact Is.mono h _ _ a
  | slot i => exact a
theorem look_cell {Z : Zx} {p : Addr} {c : Cell} (a : CellAt Z g H p c) (h : c.look = some d) : Look Z g H d (.ref p) := by
  unfold Cell.look at h
  cases c with
  | lst l =>
    cases h
    obtain ⟨_, vs, e, z, l⟩ := a
    exact ⟨p, vs, rfl, SqL.of e, ⟨z, e⟩, l⟩
  | dct l =>
    cases h
    obtain ⟨_, kvs, e, l⟩ := a
    exact ⟨p, kvs, rfl, .inl e, l⟩
  | _ => cases h
theorem look_at {Z : Zx} {r : Rf} (R1 : Rel Z g s σ H) (a : RfAt Z g σ r v) (h : lookR r s = some d) : Look Z g H d v := by
  cases r with
  | slot i =>
    have a : σ[i]? = some (some v) := a
    have h : (match s.loc[i]? with
      | some (some (.ow c)) => c.look
      | some (some (.fz d)) => some d
      | _ => none) = some d := h
    cases e : s.loc[i]? with
    | none => rw [e] at h; cases h
    | some o => cases o with
      | none => rw [e] at h; cases h
      | some x => cases x with
        | fz d' =>
          rw [e] at h
          cases h
          obtain ⟨v', e1, e2⟩ := R1.fz i _ e
          rw [a] at e1
          cases e1
          exact Look.of R1.sub e2
        | xc _ _ =>
          rw [e] at h
          cases h
        | ow c =>
          rw [e] at h
          have hc : s.cell (.loc i) = some c := by simp [S.cell, e]
          obtain ⟨p, e1, e2⟩ := R1.cell _ _ hc
          have hv : v = .ref p := by
            have e1 : (match σ[i]? with
              | some (some (.ref p)) => some p
              | _ => none) = some p := e1
            rw [a] at e1
            cases v with
            | ref q => cases e1; rfl
            | _ => cases e1
          subst hv
          exact look_cell e2 h
  | val d' =>
    have a : Is Z g d' v := a
    cases d' with
    | res k =>
      obtain ⟨p, rfl, e⟩ := a
      have h : (match s.res[k]? with
        | some c => c.look
        | none => none) = some d := h
      cases ec : s.res[k]? with
      | none => rw [ec] at h; cases h
      | some c =>
        rw [ec] at h
        obtain ⟨p', e1, e2⟩ := R1.cell (.res k) c ec
        have e1 : g.rho k = some p' := e1
        rw [e] at e1
        cases e1
        exact look_cell e2 h
    | _ => cases h; exact Look.of R1.sub a
def rdR (Z : Zx) (T : Tab) (W : WX) (e : E) : TE := fun σ H Q => ∃ g s, Rel Z g s σ H ∧ Out Z W σ g s H (evR T e s) (fun r g' _ H' _ => ∀ v, RfAt Z g' σ r v → Q v H')
abbrev KR (X : Cx) (cls : Nat → Addr) (fnm : Fnm) (T : Tab) (W : WX) (e : E) (x : Expr) : Prop := PE X x (rdR (zx X cls fnm) T W e)
theorem seqR {Z : Zx} {α : Type} {a : E} {f : Rf → S → R α} {P : α → Gh → S → Hp → List Addr → Prop} {K : VK} (R1 : Rel Z g s σ H) (h : Out Z W σ g s H ((rfR (slotOf a s) s (ev T a s)).bind f) P)
    (k : ∀ r v g2 s1 H1, Rel Z g2 s1 σ H1 → RfAt Z g2 σ r v → g.Le g2 → Fr σ σ g s H g2 s1 H1 [] → Out Z W σ g2 s1 H1 (f r s1) P → K v H1) : rdR Z T W a σ H K :=
  ⟨g, s, R1, h.bind.mono fun r g1 s1 H1 ex R' F' q v A => k r v g1 s1 H1 R' A F'.le F'.drop (q.later F'.drop)⟩
def E.isVar : E → Bool
  | .var _ => true
  | _ => false
theorem slotOf_no (h : a.isVar = false) : slotOf a s = none := by
  cases a <;> first | rfl | cases h
theorem kr_of (h : a.isVar = false) (ha : KE X cls fnm T W a x) : KR X cls fnm T W a x := by
  refine PE.weak ha fun σ H Q ⟨g, s, R1, q⟩ => ⟨g, s, R1, ?_⟩
  unfold evR at q
  rw [slotOf_no h] at q
  have q : Out (zx X cls fnm) W σ g s H ((ev T a s).bind fun x s => R.ok (Rf.val x.d) s) _ := q
  refine q.bind.mono fun x g1 s1 H1 ex R' F' q v V => ?_
  obtain ⟨g2, R2, F2, I2⟩ := V.freeze R' F'
  exact q g2 H1 [] R2 F2 v I2
theorem kr_var {i : Nat} {n : Str} (hN : X.N[i]? = some n) (hv : Vis X.env.scope n) (hd : (n == ("__debug__" : Str)) = false) (hc : (n == ("__classdict__" : Str)) = false) : KR X cls fnm T W (.var i) (.Name n pos) := by
  refine PE.weak (pe_var hN hv hd hc) fun σ H Q ⟨g, s, R1, h⟩ => ?_
  unfold evR at h
  cases e : s.loc[i]? with
  | none =>
    have e1 : slotOf (.var i) s = none := by simp [slotOf, e]
    have e2 : ev T (.var i) s = .bad := by unfold ev; rw [e]
    rw [e1, e2] at h
    exact h.elim
  | some o => cases o with
    | none =>
      have e1 : slotOf (.var i) s = none := by simp [slotOf, e]
      have e2 : ev T (.var i) s = .bad := by unfold ev; rw [e]
      rw [e1, e2] at h
      exact h.elim
    | some sl => cases sl with
      | fz d =>
        have e1 : slotOf (.var i) s = none := by simp [slotOf, e]
        have e2 : ev T (.var i) s = .ok (.fz d) s := by unfold ev; rw [e]
        rw [e1, e2] at h
        obtain ⟨v, h1, h2⟩ := R1.fz i _ e
        exact ⟨v, h1, h g H [] R1 .refl v h2⟩
      | xc _ _ =>
        have e1 : slotOf (.var i) s = none := by simp [slotOf, e]
        have e2 : ev T (.var i) s = .bad := by unfold ev; rw [e]
        rw [e1, e2] at h
        exact h.elim
      | ow c =>
        have e1 : slotOf (.var i) s = some i := by simp [slotOf, e]
        rw [e1] at h
        have hc : s.cell (.loc i) = some c := by simp [S.cell, e]
        obtain ⟨p, f1, f2⟩ := R1.cell _ _ hc
        have hv : ∃ v, σ[i]? = some (some v) := by
          have f1 : (match σ[i]? with
            | some (some (.ref p)) => some p
            | _ => none) = some p := f1
          cases hh : σ[i]? with
          | none => rw [hh] at f1; cases f1
          | some o => cases o with
            | none => rw [hh] at f1; cases f1
            | some v => exact ⟨v, rfl⟩
        obtain ⟨v, hv⟩ := hv
        exact ⟨v, hv, h g H [] R1 .refl v hv⟩
theorem ke_int {i : Int} {j : Nat} : KE X cls fnm T W (.cst (.int i)) (.Constant (.int i) j pos) := PE.weak pe_int fun σ H Q ⟨g, s, R1, h⟩ => Out.fz R1 h rfl
theorem ke_bl {i : Bool} {j : Nat} : KE X cls fnm T W (.cst (.bl i)) (.Constant (.bool i) j pos) := PE.weak pe_bl fun σ H Q ⟨g, s, R1, h⟩ => Out.fz R1 h rfl
theorem ke_non {j : Nat} : KE X cls fnm T W (.cst .non) (.Constant .none j pos) := PE.weak pe_non fun σ H Q ⟨g, s, R1, h⟩ => Out.fz R1 h rfl
theorem ke_str {i : Str} {j : Nat} : KE X cls fnm T W (.cst (.str i)) (.Constant (.str i) j pos) := PE.weak pe_str fun σ H Q ⟨g, s, R1, h⟩ => Out.fz R1 h rfl
def E.isStar : E → Bool
  | .star _ => true
  | _ => false
theorem evL_cons {r : List E} {s : S} (h : a.isStar = false) : evL T (a :: r) s = (ev T a s).bind fun x s => (evL T r s).bind fun xs s => .ok (x.d :: xs) s := by
  cases a <;> first | rfl | cases h
def starX : Expr → Bool
  | .Starred _ _ => true
  | _ => false
theorem starEach_plain {r : List Expr} {env : PySem.Env} (h : starX x = false) : starEach (x :: r) env = (false, eval x env) :: starEach r env := by
  cases x <;> first | rfl | cases h
theorem kl_nil : KL X cls fnm T W [] [] := PA.weak pa_nil fun σ H Q ⟨g, s, R1, h⟩ => h g H [] R1 .refl [] rfl
theorem kl_cons (ha : KE X cls fnm T W a x) (hr : KL X cls fnm T W es xs) (h1 : a.isStar = false) (h2 : starX x = false) : KL X cls fnm T W (a :: es) (x :: xs) := by
  refine PA.weak (pa_cons ha hr (starEach_plain h2)) fun σ H Q ⟨g, s, R1, h⟩ => ?_
  rw [evL_cons h1] at h
  exact seqE R1 h fun d v g2 s2 H2 R2 I2 _ _ h2 => seqL R2 h2 fun ds vs g3 s3 H3 R3 I3 le3 _ h3 => h3 g3 H3 [] R3 .refl (v :: vs) ⟨v, vs, rfl, Is.mono le3 _ _ I2, I3⟩
theorem items_seq {l : List D} (hs : ∀ a o, g.F a = some o → H a = some o) (e : itemsD d = some l) (I : Is (zx X cls fnm) g d v) : ∃ p vs, v = .ref p ∧ (SqT X.K H p vs ∨ SqL X.K H p vs) ∧ IsL (zx X cls fnm) g l vs ∧ (((∃ l', d = .tup l') ∧ SqT X.K H p vs) ∨ ((∃ l', d = .lst l') ∧ SqL X.K H p vs ∧ l.length ≤ sizeLine)) := by
  cases d with
  | lst l' =>
    cases e
    obtain ⟨p, vs, e1, e2, e4, e3⟩ := I
    exact ⟨p, vs, e1, .inr (SqL.of (hs _ _ e2)), e3, .inr ⟨⟨_, rfl⟩, SqL.of (hs _ _ e2), e4⟩⟩
  | tup l' =>
    cases e
    obtain ⟨p, vs, e1, e2, e3⟩ := I
    exact ⟨p, vs, e1, .inl (sqT_mono hs e2), e3, .inl ⟨⟨_, rfl⟩, sqT_mono hs e2⟩⟩
  | _ => cases e
theorem kl_star {p : Pos} (ha : KE X cls fnm T W a x) (hr : KL X cls fnm T W es xs) : KL X cls fnm T W (.star a :: es) (.Starred x p :: xs) := by
  refine PA.weak (StX.pa_star ha hr) fun σ H Q ⟨g, s, R1, h⟩ => ?_
  have h' : Out (zx X cls fnm) W σ g s H ((ev T a s).bind fun x s => match itemsD x.d with
    | some xs => (evL T es s).bind fun ys s => R.ok (xs ++ ys) s
    | none => .bad) _ := h
  refine seqE R1 h' fun d v g2 s2 H2 R2 I2 _ _ h2 => ?_
  cases e : itemsD d.d with
  | none =>
    rw [e] at h2
    exact h2.elim
  | some l =>
    rw [e] at h2
    obtain ⟨p, vs, e1, e2, e3, _⟩ := items_seq R2.sub e I2
    exact ⟨p, vs, e1, e2, seqL R2 h2 fun ds ws g3 s3 H3 R3 I3 le3 _ h3 => h3 g3 H3 [] R3 .refl (vs ++ ws) (isL_app (IsL.mono le3 _ _ e3) I3)⟩
theorem ke_tup {j : Nat} (h : KL X cls fnm T W es xs) : KE X cls fnm T W (.tup es) (.Tuple xs j pos) := by
  refine PE.weak (pe_tup h) fun σ H Q ⟨g, s, R1, h⟩ => ?_
  unfold ev at h
  refine seqL R1 h fun ds vs g2 s2 H2 R2 I2 _ _ h2 => ?_
  by_cases k : ds.length ≤ lim
  · rw [if_pos k] at h2
    exact ⟨by rw [isL_len I2]; exact Nat.le_trans k lim_le, fun p hp => Out.new R2 h2 hp ⟨p, vs, rfl, SqT.of upd_same, IsL.mono (Gh.add_le (R2.free hp).1) _ _ I2⟩⟩
  · rw [if_neg k] at h2
    exact h2.elim
theorem ke_lst (h : KL X cls fnm T W es xs) : KE X cls fnm T W (.lst es) (.List xs pos) := by
  refine PE.weak (pe_lst h) fun σ H Q ⟨g, s, R1, h⟩ => ?_
  unfold ev at h
  refine seqL R1 h fun ds vs g2 s2 H2 R2 I2 _ _ h2 => ?_
  by_cases k : ds.length ≤ lim
  · rw [if_pos k] at h2
    exact ⟨by rw [isL_len I2]; exact Nat.le_trans k lim_le, fun p hp => Out.newL R2 h2 hp (Nat.le_trans k lim_le) I2⟩
  · rw [if_neg k] at h2
    exact h2.elim
theorem ke_dct0 : KE X cls fnm T W .dct0 (.Dict [] [] pos) := PE.weak pe_dnewK fun σ H Q ⟨g, s, R1, h⟩ p hp => Out.newD R1 h hp rfl
theorem isL_ints {Z : Zx} {g : Gh} : ∀ ns : List Int, IsL Z g (ns.map D.int) (ns.map V.int)
  | [] => rfl
  | n :: r => ⟨.int n, _, rfl, rfl, isL_ints r⟩
def Bop.o : Bop → Operator
  | .add => .Add
  | .sub => .Sub
  | .mul => .Mult
  | .fdiv => .FloorDiv
  | .mod => .Mod
theorem bin_seq {r : R2} {op : Bop} (ho : OpR X (binaryOp op.o) r) (ha : KE X cls fnm T W a x) (hb : KE X cls fnm T W b y)
    (k : ∀ (g : Gh) (s : S) (σ : L2.St) (H : Hp) (d e : D) (v u : V) (Q : VK), Rel (zx X cls fnm) g s σ H → Is (zx X cls fnm) g d v → Is (zx X cls fnm) g e u → Out (zx X cls fnm) W σ g s H (ofO (binD op d e) s) (PV (zx X cls fnm) σ Q) → r v u H Q) :
    KE X cls fnm T W (.bin op a b) (.BinOp x op.o y pos) := by
  refine PE.weak (pe_op ho ha hb) fun σ H Q ⟨g, s, R1, h⟩ => ?_
  unfold ev at h
  exact seqE R1 h fun d v g2 s2 H2 R2 I2 _ _ h2 => seqE R2 h2 fun e u g3 s3 H3 R3 I3 le3 _ h3 => k g3 s3 σ H3 d.d e.d v u Q R3 (Is.mono le3 _ _ I2) I3 h3
theorem ofO_if {α : Type} {p : Prop} [Decidable p] {r : α} {P : α → Gh → S → Hp → List Addr → Prop} {Z : Zx} (h : Out Z W σ g s H (ofO (if p then some r else none) s) P) : p ∧ Out Z W σ g s H (.ok r s) P := by
  by_cases k : p
  · rw [if_pos k] at h
    exact ⟨k, h⟩
  · rw [if_neg k] at h
    exact h.elim
theorem ke_add (ha : KE X cls fnm T W a x) (hb : KE X cls fnm T W b y) : KE X cls fnm T W (.bin .add a b) (.BinOp x .Add y pos) := by
  refine bin_seq (op := .add) (op_add.or (op_add_str.or (op_cat.or op_catA))) ha hb fun g s σ H d e v u Q R1 i1 i2 h => ?_
  cases d <;> cases e <;> first | exact h.elim | skip
  · cases i1
    cases i2
    exact .inl ⟨_, _, rfl, rfl, Out.fz R1 h rfl⟩
  · cases i1
    cases i2
    obtain ⟨k, h⟩ := ofO_if h
    exact .inr (.inl ⟨_, _, rfl, rfl, Nat.le_trans k lim_le, Out.fz R1 h rfl⟩)
  · obtain ⟨p, vs, rfl, f1, j1⟩ := i1
    obtain ⟨q, us, rfl, f2, j2⟩ := i2
    obtain ⟨k1, h⟩ := ofO_if h
    have j3 := isL_app j1 j2
    refine .inr (.inr (.inr ⟨p, q, vs, us, rfl, rfl, sqT_mono R1.sub f1, sqT_mono R1.sub f2, ?_, fun z => ?_, fun _ z => ?_, fun _ _ o ho => ?_⟩))
    · rw [isL_len j1, isL_len j2]
      exact Nat.le_trans k1 lim_le
    · subst z
      exact Out.fz R1 h ⟨q, us, rfl, f2, j3⟩
    · subst z
      rw [List.append_nil] at j3
      exact Out.fz R1 h ⟨p, vs, rfl, f1, j3⟩
    · exact Out.new R1 h ho ⟨o, _, rfl, SqT.of upd_same, IsL.mono (Gh.add_le (R1.free ho).1) _ _ j3⟩
  · obtain ⟨p, vs, rfl, f1, _, j1⟩ := i1
    obtain ⟨q, us, rfl, f2, _, j2⟩ := i2
    obtain ⟨k1, h⟩ := ofO_if h
    refine .inr (.inr (.inl ⟨p, q, vs, us, rfl, rfl, R1.sub _ _ f1, R1.sub _ _ f2, ?_, fun o ho => ?_⟩))
    · rw [isL_len j1, isL_len j2]
      exact Nat.le_trans k1 lim_le
    · exact Out.newL R1 h ho (by rw [List.length_append]; exact Nat.le_trans k1 lim_le) (isL_app j1 j2)
theorem ke_sub (ha : KE X cls fnm T W a x) (hb : KE X cls fnm T W b y) : KE X cls fnm T W (.bin .sub a b) (.BinOp x .Sub y pos) := by
  refine bin_seq (op := .sub) op_sub ha hb fun g s σ H d e v u Q R1 i1 i2 h => ?_
  cases d <;> cases e <;> first | exact h.elim | skip
  cases i1
  cases i2
  exact ⟨_, _, rfl, rfl, Out.fz R1 h rfl⟩
theorem isL_rep {l : List D} {vs : List V} {Z : Zx} (h : IsL Z g l vs) : ∀ n : Nat, IsL Z g (List.replicate n l).flatten (List.replicate n vs).flatten
  | 0 => rfl
  | n + 1 => by
    rw [List.replicate_succ, List.replicate_succ, List.flatten_cons, List.flatten_cons]
    exact isL_app h (isL_rep h n)
theorem ke_mul (ha : KE X cls fnm T W a x) (hb : KE X cls fnm T W b y) : KE X cls fnm T W (.bin .mul a b) (.BinOp x .Mult y pos) := by
  refine bin_seq (op := .mul) (op_mul.or op_rep) ha hb fun g s σ H d e v u Q R1 i1 i2 h => ?_
  cases d <;> cases e <;> first | exact h.elim | skip
  · cases i1
    cases i2
    obtain ⟨k, h⟩ := ofO_if h
    exact .inl ⟨_, _, rfl, rfl, k, Out.fz R1 h rfl⟩
  · obtain ⟨p, vs, rfl, f1, _, j1⟩ := i1
    cases i2
    obtain ⟨⟨k1, k2, k3⟩, h⟩ := ofO_if h
    refine .inr ⟨p, _, vs, rfl, rfl, R1.sub _ _ f1, by omega, by omega, ?_, fun o ho => ?_⟩
    · rw [isL_len j1]
      exact Nat.le_trans k3 lim_le
    · refine Out.newL R1 h ho ?_ (isL_rep j1 _)
      rw [List.length_flatten, List.map_replicate, List.sum_replicate_nat, Nat.mul_comm]
      exact Nat.le_trans k3 lim_le
theorem ke_fdiv (ha : KE X cls fnm T W a x) (hb : KE X cls fnm T W b y) : KE X cls fnm T W (.bin .fdiv a b) (.BinOp x .FloorDiv y pos) := by
  refine bin_seq (op := .fdiv) op_fdiv ha hb fun g s σ H d e v u Q R1 i1 i2 h => ?_
  cases d <;> cases e <;> first | exact h.elim | skip
  cases i1
  cases i2
  obtain ⟨k, h⟩ := ofO_if h
  exact ⟨_, _, rfl, rfl, k, Out.fz R1 h rfl⟩
theorem ke_mod (ha : KE X cls fnm T W a x) (hb : KE X cls fnm T W b y) : KE X cls fnm T W (.bin .mod a b) (.BinOp x .Mod y pos) := by
  refine bin_seq (op := .mod) op_mod ha hb fun g s σ H d e v u Q R1 i1 i2 h => ?_
  cases d <;> cases e <;> first | exact h.elim | skip
  cases i1
  cases i2
  obtain ⟨k, h⟩ := ofO_if h
  exact ⟨_, _, rfl, rfl, k, Out.fz R1 h rfl⟩
theorem ke_neg (ha : KE X cls fnm T W a x) : KE X cls fnm T W (.neg a) (.UnaryOp .USub x pos) := by
  refine PE.weak (pe_un un_neg ha) fun σ H Q ⟨g, s, R1, h⟩ => ?_
  unfold ev at h
  refine seqE R1 h fun d v g2 s2 H2 R2 I2 _ _ h2 => ?_
  generalize hd : d.d = dd at h2 I2
  cases dd <;> first | exact h2.elim | skip
  cases I2
  exact ⟨_, rfl, Out.fz R2 h2 rfl⟩
theorem eqD_ok {k : Bool} (hs : ∀ a o, g.F a = some o → H a = some o) (h : eqD d e = some k) (i1 : Is (zx X cls fnm) g d v) (i2 : Is (zx X cls fnm) g e u) : ∃ p q, Dp X.K H v p ∧ Dp X.K H u q ∧ SeqAt.shaped p = true ∧ SeqAt.shaped q = true ∧ PyData.eqv p q = k := by
  unfold eqD at h
  cases h1 : d.py with
  | none =>
    rw [h1] at h
    cases h
  | some p =>
    cases h2 : e.py with
    | none =>
      rw [h1, h2] at h
      cases h
    | some q =>
      rw [h1, h2] at h
      dsimp only at h
      split at h
      · rename_i hk
        obtain ⟨k1, k2⟩ := Bool.and_eq_true_iff.mp hk
        exact ⟨p, q, Is.dp hs d v p h1 i1, Is.dp hs e u q h2 i2, k1, k2, Option.some.inj h⟩
      · cases h
end
end Pm
namespace Pm
open PySem L2
open PySem.W (Frag)
section
variable {X : Cx} {cls : Nat → Addr} {fnm : Fnm} {T : Tab} {W : WX} {a b c : E} {x y z : Expr} {pos : Pos} {es : List E} {xs : List Expr}
variable {g : Gh} {s : S} {σ : L2.St} {H : Hp} {d e : D} {v u : V} {Q : VK}
theorem rdT_E {Z : Zx} {Q : Bool → Hp → Prop} (h : rdT Z T W a σ H Q) : rdE Z T W a σ H (fun v H' => ∃ k, v = .bl k ∧ Q k H') := by
  obtain ⟨g, s, R1, h⟩ := h
  refine ⟨g, s, R1, h.mono fun x g' s' H' ex _ _ ⟨b, e, q⟩ v V => ?_⟩
  cases x with
  | fz d =>
    have e' : d = .bl b := e
    subst e'
    exact ⟨b, V.1, q⟩
  | xc _ _ => exact V.elim
  | ow c =>
    obtain ⟨p, _, _, _, _, k⟩ := V
    cases c <;> first | (nomatch e) | (nomatch k)
theorem kt_of {t : TE} (h : PT X x (tB t)) (w : ∀ σ H Q, RE X cls fnm T W a σ H Q → t σ H Q) : KT X cls fnm T W a x := PT.weak h fun σ H Q q => w σ H _ (rdT_E q)
def plainT : Expr → Bool
  | .UnaryOp .Not _ _ => false
  | .BoolOp _ _ _ => false
  | .IfExp _ _ _ _ => false
  | .Compare _ _ _ _ => false
  | _ => true
theorem isTrue_plain' (h : plainT x = true) (whole : Sem Value) (env : PySem.Env) : isTrue x env whole = (do let v ← whole; standAt x.pos; holding [v] (truthy v)) := by
  cases x <;> first | rfl | cases h | skip
  rename_i op o p
  cases op <;> first | rfl | cases h
theorem kt_val (ha : KE X cls fnm T W a x) (h : plainT x = true) : KT X cls fnm T W a x := kt_of (pt_val ha fun w => isTrue_plain' h w _) fun _ _ _ q => q
theorem kc_both {op : CmpOp} {r : R2} (ho : OpR X (compareOp op) r) (hm : behindInMarks op y = false) (ha : KE X cls fnm T W a x) (hb : KE X cls fnm T W b y) {f : Sl → Sl → S → R Sl} {ce : E}
    (hev : ∀ s, ev T ce s = (ev T a s).bind fun x s => (ev T b s).bind fun y s => f x y s)
    (k : ∀ (g : Gh) (s : S) (σ : L2.St) (H : Hp) (d e : Sl) (v u : V) (Q : VK), Rel (zx X cls fnm) g s σ H → Is (zx X cls fnm) g d.d v → Is (zx X cls fnm) g e.d u → Out (zx X cls fnm) W σ g s H (f d e s) (PV (zx X cls fnm) σ Q) → r v u H Q) :
    KE X cls fnm T W ce (.Compare x [op] [y] pos) ∧ KT X cls fnm T W ce (.Compare x [op] [y] pos) := by
  have w : ∀ σ H Q, RE X cls fnm T W ce σ H Q → tOp r (RE X cls fnm T W a) (RE X cls fnm T W b) σ H Q := fun σ H Q ⟨g, s, R1, h⟩ => by
    rw [hev] at h
    exact seqE R1 h fun d v g2 s2 H2 R2 I2 _ _ h2 => seqE R2 h2 fun e u g3 s3 H3 R3 I3 le3 _ h3 => k g3 s3 σ H3 d e v u Q R3 (Is.mono le3 _ _ I2) I3 h3
  exact ⟨PE.weak (pe_cmpR ho ha hb hm) w, kt_of (pt_cmpR ho ha hb hm) w⟩
theorem out_bl {Z : Zx} {k : Bool} {o : Option Bool} (R1 : Rel Z g s σ H) (h : Out Z W σ g s H (ofO (o.map fun b => Sl.fz (.bl b)) s) (PV Z σ Q)) (e : ∀ b, o = some b → b = k) : Q (.bl k) H := by
  cases o with
  | none => exact h.elim
  | some b =>
    have := e b rfl
    subst this
    exact Out.fz R1 h rfl
theorem out_some {Z : Zx} {α : Type} {o : Option α} {f : α → Sl} {P : Sl → Gh → S → Hp → List Addr → Prop} (h : Out Z W σ g s H (ofO (o.map f) s) P) : ∃ b, o = some b ∧ Out Z W σ g s H (.ok (f b) s) P := by
  cases o with
  | none => exact h.elim
  | some b => exact ⟨b, rfl, h⟩
def Cop.o : Cop → CmpOp
  | .eq => .Eq
  | .ne => .NotEq
  | .lt => .Lt
  | .le => .LtE
  | .gt => .Gt
  | .ge => .GtE
theorem kc_ne (hu : X.A.units + 64 < cLine) (ha : KE X cls fnm T W a x) (hb : KE X cls fnm T W b y) : KE X cls fnm T W (.cmp .ne a b) (.Compare x [.NotEq] [y] pos) ∧ KT X cls fnm T W (.cmp .ne a b) (.Compare x [.NotEq] [y] pos) := by
  refine kc_both (op_neD hu) (nomark _) ha hb (fun s => rfl) fun g s σ H d e v u Q R1 i1 i2 h => ?_
  obtain ⟨k, hk, h⟩ := out_some h
  obtain ⟨k', hk', rfl⟩ := Option.map_eq_some_iff.mp hk
  obtain ⟨p, q, h1, h2, h3, h4, h5⟩ := eqD_ok R1.sub hk' i1 i2
  exact ⟨p, q, h1, h2, h3, h4, by rw [h5]; exact Out.fz R1 h rfl⟩
theorem kc_int {op : Cop} {f : Int → Int → Bool} (hop : OpR X (compareOp op.o) (rI0 fun i j => .bl (f i j))) (hm : behindInMarks op.o y = false) (hf : ∀ d e k, cmpD op d e = some k → ∃ i j, d = .int i ∧ e = .int j ∧ f i j = k) (ha : KE X cls fnm T W a x) (hb : KE X cls fnm T W b y) :
    KE X cls fnm T W (.cmp op a b) (.Compare x [op.o] [y] pos) ∧ KT X cls fnm T W (.cmp op a b) (.Compare x [op.o] [y] pos) := by
  refine kc_both hop hm ha hb (fun s => rfl) fun g s σ H d e v u Q R1 i1 i2 h => ?_
  obtain ⟨k, hk, h⟩ := out_some h
  obtain ⟨i, j, h1, h2, h3⟩ := hf _ _ _ hk
  rw [h1] at i1
  rw [h2] at i2
  cases i1
  cases i2
  exact ⟨i, j, rfl, rfl, by show Q (V.bl (f i j)) H; rw [h3]; exact Out.fz R1 h rfl⟩
theorem kc_lt (ha : KE X cls fnm T W a x) (hb : KE X cls fnm T W b y) : KE X cls fnm T W (.cmp .lt a b) (.Compare x [.Lt] [y] pos) ∧ KT X cls fnm T W (.cmp .lt a b) (.Compare x [.Lt] [y] pos) :=
  kc_int (op := .lt) op_lt (nomark _) (fun d e k h => by cases d <;> cases e <;> first | exact ⟨_, _, rfl, rfl, Option.some.inj h⟩ | cases h) ha hb
theorem kc_le (ha : KE X cls fnm T W a x) (hb : KE X cls fnm T W b y) : KE X cls fnm T W (.cmp .le a b) (.Compare x [.LtE] [y] pos) ∧ KT X cls fnm T W (.cmp .le a b) (.Compare x [.LtE] [y] pos) :=
  kc_int (op := .le) op_le (nomark _) (fun d e k h => by cases d <;> cases e <;> first | exact ⟨_, _, rfl, rfl, Option.some.inj h⟩ | cases h) ha hb
theorem kc_gt (ha : KE X cls fnm T W a x) (hb : KE X cls fnm T W b y) : KE X cls fnm T W (.cmp .gt a b) (.Compare x [.Gt] [y] pos) ∧ KT X cls fnm T W (.cmp .gt a b) (.Compare x [.Gt] [y] pos) :=
  kc_int (op := .gt) op_gt (nomark _) (fun d e k h => by cases d <;> cases e <;> first | exact ⟨_, _, rfl, rfl, Option.some.inj h⟩ | cases h) ha hb
theorem kc_ge (ha : KE X cls fnm T W a x) (hb : KE X cls fnm T W b y) : KE X cls fnm T W (.cmp .ge a b) (.Compare x [.GtE] [y] pos) ∧ KT X cls fnm T W (.cmp .ge a b) (.Compare x [.GtE] [y] pos) :=
  kc_int (op := .ge) op_ge (nomark _) (fun d e k h => by cases d <;> cases e <;> first | exact ⟨_, _, rfl, rfl, Option.some.inj h⟩ | cases h) ha hb
theorem kc_isN {j : Nat} {p : Pos} (ha : KE X cls fnm T W a x) : KE X cls fnm T W (.isN a) (.Compare x [.Is] [.Constant .none j p] pos) ∧ KT X cls fnm T W (.isN a) (.Compare x [.Is] [.Constant .none j p] pos) := by
  have w : ∀ σ H Q, RE X cls fnm T W (.isN a) σ H Q → tIsN (RE X cls fnm T W a) σ H Q := fun σ H Q ⟨g, s, R1, h⟩ => by
    unfold ev at h
    refine seqE R1 h fun d v g2 s2 H2 R2 I2 _ _ h2 => ?_
    generalize d.d = dd at h2 I2
    cases dd <;> first
      | (cases I2; exact Out.fz R2 h2 rfl)
      | (obtain ⟨p, vs, rfl, _⟩ := I2; exact Out.fz R2 h2 rfl)
      | (obtain ⟨p, dx, ws, rfl, _⟩ := I2; exact Out.fz R2 h2 rfl)
      | (obtain ⟨p, rfl, _⟩ := I2; exact Out.fz R2 h2 rfl)
  exact ⟨PE.weak (pe_cmp (pc_isN ha)) w, kt_of (pt_cmp (pc_isN ha)) w⟩
theorem kc_isnN {j : Nat} {p : Pos} (ha : KE X cls fnm T W a x) : KE X cls fnm T W (.isnN a) (.Compare x [.IsNot] [.Constant .none j p] pos) ∧ KT X cls fnm T W (.isnN a) (.Compare x [.IsNot] [.Constant .none j p] pos) := by
  have w : ∀ σ H Q, RE X cls fnm T W (.isnN a) σ H Q → tNotN (RE X cls fnm T W a) σ H Q := fun σ H Q ⟨g, s, R1, h⟩ => by
    unfold ev at h
    refine seqE R1 h fun d v g2 s2 H2 R2 I2 _ _ h2 => ?_
    generalize d.d = dd at h2 I2
    cases dd <;> first
      | (cases I2; exact Out.fz R2 h2 rfl)
      | (obtain ⟨p, vs, rfl, _⟩ := I2; exact Out.fz R2 h2 rfl)
      | (obtain ⟨p, dx, ws, rfl, _⟩ := I2; exact Out.fz R2 h2 rfl)
      | (obtain ⟨p, rfl, _⟩ := I2; exact Out.fz R2 h2 rfl)
  exact ⟨PE.weak (pe_cmp (pc_notN ha)) w, kt_of (pt_cmp (pc_notN ha)) w⟩
theorem kc_chain (ha : KE X cls fnm T W a x) (hb : KE X cls fnm T W b y) (hc : KE X cls fnm T W c z) :
    KE X cls fnm T W (.chain a b c) (.Compare x [.LtE, .LtE] [y, z] pos) ∧ KT X cls fnm T W (.chain a b c) (.Compare x [.LtE, .LtE] [y, z] pos) := by
  have w : ∀ σ H Q, RE X cls fnm T W (.chain a b c) σ H Q → tChain (rI0 fun i j => .bl (decide (i ≤ j))) (rI0 fun i j => .bl (decide (i ≤ j))) (RE X cls fnm T W a) (RE X cls fnm T W b) (RE X cls fnm T W c) σ H Q := fun σ H Q ⟨g, s, R1, h⟩ => by
    unfold ev at h
    refine seqE R1 h fun d v g2 s2 H2 R2 I2 _ _ h2 => seqE R2 h2 fun e u g3 s3 H3 R3 I3 le3 _ h3 => ?_
    have I2' := Is.mono le3 _ _ I2
    generalize d.d = dd at h3 I2'
    generalize e.d = ee at h3 I3
    cases dd <;> cases ee <;> first | exact h3.elim | skip
    rename_i i j
    cases I2'
    cases I3
    refine ⟨i, j, rfl, rfl, decide (i ≤ j), rfl, ?_⟩
    have h3' : Out (zx X cls fnm) W σ g3 s3 H3 (if i ≤ j then (ev T c s3).bind fun z s => (match z.d with
        | .int k => R.ok (Sl.fz (.bl (decide (j ≤ k)))) s
        | _ => .bad) else .ok (.fz (.bl false)) s3) (PV (zx X cls fnm) σ Q) := h3
    by_cases k : i ≤ j
    · rw [if_pos k] at h3'
      rw [if_pos (decide_eq_true k)]
      refine seqE R3 h3' fun f w' g4 s4 H4 R4 I4 _ _ h4 => ?_
      generalize f.d = ff at h4 I4
      cases ff <;> first | exact h4.elim | skip
      cases I4
      exact ⟨_, _, rfl, rfl, Out.fz R4 h4 rfl⟩
    · rw [if_neg k] at h3'
      rw [if_neg (by simpa using k)]
      exact Out.fz R3 h3' rfl
  exact ⟨PE.weak (pe_chain op_le op_le ha hb hc (show behindInMarks .LtE z = false from nomark _)) w, kt_of (pt_chain op_le op_le ha hb hc (show behindInMarks .LtE z = false from nomark _)) w⟩
theorem ke_not (ha : KE X cls fnm T W a x) : KE X cls fnm T W (.not_ a) (.UnaryOp .Not x pos) := by
  refine PE.weak (pe_not ha) fun σ H Q ⟨g, s, R1, h⟩ => ?_
  unfold ev at h
  refine seqE R1 h fun d v g2 s2 H2 R2 I2 _ _ h2 => ?_
  generalize d.d = dd at h2 I2
  cases dd <;> first | exact h2.elim | skip
  cases I2
  exact ⟨_, rfl, Out.fz R2 h2 rfl⟩
theorem bl_of {Z : Zx} {α : Type} {d : D} {f : Bool → R α} {P : α → Gh → S → Hp → List Addr → Prop} (h : Out Z W σ g s H (match d with | .bl b => f b | _ => .bad) P) : ∃ b, d = .bl b ∧ Out Z W σ g s H (f b) P := by
  cases d <;> first | exact h.elim | exact ⟨_, rfl, h⟩
theorem kt_not (ha : KT X cls fnm T W a x) : KT X cls fnm T W (.not_ a) (.UnaryOp .Not x pos) := by
  refine PT.weak (pt_not ha) fun σ H Q ⟨g, s, R1, h⟩ => ?_
  unfold ev at h
  refine seqT R1 h (fun x s1 g2 H1 _ q => ?_) fun x b g2 s1 H1 R2 e _ _ q => ?_
  · obtain ⟨b, e, _⟩ := bl_of (f := fun b => R.ok (Sl.fz (.bl (!b))) s1) q
    exact ⟨b, e⟩
  · rw [e] at q
    obtain ⟨b', e', h'⟩ := q g2 H1 [] R2 .refl
    cases e'
    exact h'
theorem bl2_of {Z : Zx} {α : Type} {d : D} {r1 r2 : R α} {P : α → Gh → S → Hp → List Addr → Prop} (h : Out Z W σ g s H (match d with | .bl true => r1 | .bl false => r2 | _ => .bad) P) : ∃ b, d = .bl b ∧ Out Z W σ g s H (if b = true then r1 else r2) P := by
  cases d <;> first | exact h.elim | skip
  rename_i b
  cases b
  · exact ⟨false, rfl, h⟩
  · exact ⟨true, rfl, h⟩
theorem ev_and (s : S) : ev T (.and_ a b) s = (ev T a s).bind fun x s => match x.d with
    | .bl true => (ev T b s).bind fun y s => (match y.d with | .bl c => R.ok (Sl.fz (.bl c)) s | _ => .bad)
    | .bl false => R.ok (.fz (.bl false)) s
    | _ => .bad := rfl
theorem ev_or (s : S) : ev T (.or_ a b) s = (ev T a s).bind fun x s => match x.d with
    | .bl true => R.ok (.fz (.bl true)) s
    | .bl false => (ev T b s).bind fun y s => (match y.d with | .bl c => R.ok (Sl.fz (.bl c)) s | _ => .bad)
    | _ => .bad := by
  show (ev T a s).bind _ = _
  congr
  funext x s
  cases x.d <;> first | rfl | skip
  rename_i k
  cases k <;> rfl
theorem ke_and {r : List Expr} (ha : KE X cls fnm T W a x) (hb : KE X cls fnm T W b (.BoolOp .And (y :: r) pos)) : KE X cls fnm T W (.and_ a b) (.BoolOp .And (x :: y :: r) pos) := by
  refine PE.weak (pe_and ha hb) fun σ H Q ⟨g, s, R1, h⟩ => ?_
  rw [ev_and] at h
  refine seqE R1 h fun d v g2 s2 H2 R2 I2 _ _ h2 => ?_
  obtain ⟨k, e, h3⟩ := bl2_of h2
  rw [e] at I2
  cases I2
  refine ⟨k, rfl, ?_⟩
  cases k
  · exact Out.fz R2 h3 rfl
  · refine seqE R2 h3 fun f w' g4 s4 H4 R4 I4 _ _ h4 => ?_
    obtain ⟨k', e', h5⟩ := bl_of (f := fun c => R.ok (Sl.fz (.bl c)) s4) h4
    rw [e'] at I4
    exact Out.fz R4 h5 I4
theorem ke_or {r : List Expr} (ha : KE X cls fnm T W a x) (hb : KE X cls fnm T W b (.BoolOp .Or (y :: r) pos)) : KE X cls fnm T W (.or_ a b) (.BoolOp .Or (x :: y :: r) pos) := by
  refine PE.weak (pe_or ha hb) fun σ H Q ⟨g, s, R1, h⟩ => ?_
  rw [ev_or] at h
  refine seqE R1 h fun d v g2 s2 H2 R2 I2 _ _ h2 => ?_
  obtain ⟨k, e, h3⟩ := bl2_of h2
  rw [e] at I2
  cases I2
  refine ⟨k, rfl, ?_⟩
  cases k
  · refine seqE R2 h3 fun f w' g4 s4 H4 R4 I4 _ _ h4 => ?_
    obtain ⟨k', e', h5⟩ := bl_of (f := fun c => R.ok (Sl.fz (.bl c)) s4) h4
    rw [e'] at I4
    exact Out.fz R4 h5 I4
  · exact Out.fz R2 h3 rfl
theorem PT.pw {op : PySem.BoolOp} {vs : List Expr} {t : TT} (h : PT X (.BoolOp op vs pos) t) : PW X (.BoolOp op vs pos) t := ⟨fun _ pins s σ H Q I q => h.run pins s σ H Q I q⟩
theorem kt_and {r : List Expr} (ha : KT X cls fnm T W a x) (hb : KT X cls fnm T W b (.BoolOp .And (y :: r) pos)) : KT X cls fnm T W (.and_ a b) (.BoolOp .And (x :: y :: r) pos) := by
  refine PT.weak (PW.pt (pw_and ha (PT.pw hb))) fun σ H Q ⟨g, s, R1, h⟩ => ?_
  rw [ev_and] at h
  refine seqT R1 h (fun x s1 g2 H1 _ q => ?_) fun x k g2 s1 H1 R2 e _ _ q => ?_
  · obtain ⟨b, e, _⟩ := bl2_of q
    exact ⟨b, e⟩
  · rw [e] at q
    cases k
    · obtain ⟨b', e', h'⟩ := q g2 H1 [] R2 .refl
      cases e'
      exact h'
    · refine ⟨g2, s1, R2, (show Out _ W σ g2 s1 H1 ((ev T b s1).bind _) _ from q).bind.mono fun y g3 s3 H3 ex R3 F3 q3 => ?_⟩
      obtain ⟨b', e', h'⟩ := bl_of (f := fun c => R.ok (Sl.fz (.bl c)) s3) q3
      obtain ⟨b2, e2, h2⟩ := h' g3 H3 [] R3 F3.drop
      cases e2
      exact ⟨b', e', h2⟩
theorem kt_or {r : List Expr} (ha : KT X cls fnm T W a x) (hb : KT X cls fnm T W b (.BoolOp .Or (y :: r) pos)) : KT X cls fnm T W (.or_ a b) (.BoolOp .Or (x :: y :: r) pos) := by
  refine PT.weak (PW.pt (pw_or ha (PT.pw hb))) fun σ H Q ⟨g, s, R1, h⟩ => ?_
  rw [ev_or] at h
  refine seqT R1 h (fun x s1 g2 H1 _ q => ?_) fun x k g2 s1 H1 R2 e _ _ q => ?_
  · obtain ⟨b, e, _⟩ := bl2_of q
    exact ⟨b, e⟩
  · rw [e] at q
    cases k
    · refine ⟨g2, s1, R2, (show Out _ W σ g2 s1 H1 ((ev T b s1).bind _) _ from q).bind.mono fun y g3 s3 H3 ex R3 F3 q3 => ?_⟩
      obtain ⟨b', e', h'⟩ := bl_of (f := fun c => R.ok (Sl.fz (.bl c)) s3) q3
      obtain ⟨b2, e2, h2⟩ := h' g3 H3 [] R3 F3.drop
      cases e2
      exact ⟨b', e', h2⟩
    · obtain ⟨b', e', h'⟩ := q g2 H1 [] R2 .refl
      cases e'
      exact h'
theorem ke_one {op : PySem.BoolOp} (ha : KE X cls fnm T W a x) : KE X cls fnm T W a (.BoolOp op [x] pos) := pe_one ha
theorem kt_oneA (ha : KT X cls fnm T W a x) : KT X cls fnm T W a (.BoolOp .And [x] pos) := PW.pt (pw_and1 ha)
theorem kt_oneO (ha : KT X cls fnm T W a x) : KT X cls fnm T W a (.BoolOp .Or [x] pos) := PW.pt (pw_or1 ha)
theorem ke_ife (hc : KT X cls fnm T W c z) (ha : KE X cls fnm T W a x) (hb : KE X cls fnm T W b y) : KE X cls fnm T W (.ife c a b) (.IfExp z x y pos) := by
  refine PE.weak (pe_ifExp hc ha hb) fun σ H Q ⟨g, s, R1, h⟩ => ?_
  unfold ev at h
  refine seqT R1 h (fun x s1 g2 H1 _ q => ?_) fun x k g2 s1 H1 R2 e _ _ q => ?_
  · obtain ⟨b, e, _⟩ := bl2_of q
    exact ⟨b, e⟩
  · rw [e] at q
    cases k
    · exact ⟨g2, s1, R2, q⟩
    · exact ⟨g2, s1, R2, q⟩
end
end Pm
namespace Pm
open PySem L2
open PySem.W (Frag)
section
variable {Z : Zx} {g : Gh} {kvs : List (Key × V)} {l : List (D × D)} {k d : D} {q : Key}
theorem keyD_V {v : V} (h : keyD k = some q) (i : Is Z g k v) : v = kV q := by
  cases k <;> first | cases h | skip
  · cases i; rfl
  · cases i; rfl
theorem keyEq_iff {a : D} {p : Key} (h : keyD k = some q) (h2 : keyD a = some p) : a.keyEq k = decide (p = q) := by
  cases k <;> first | cases h | skip
  · cases a <;> first | cases h2 | skip
    · rename_i i j
      show decide (j = i) = _
      by_cases e : j = i
      · subst e; simp
      · have : ¬ (Sum.inl j : Key) = Sum.inl i := fun z => e (Sum.inl.inj z)
        simp [e, this]
    · rename_i i x
      show false = _
      exact (decide_eq_false (fun z => nomatch z)).symm
  · cases a <;> first | cases h2 | skip
    · rename_i x i
      show false = _
      exact (decide_eq_false (fun z => nomatch z)).symm
    · rename_i i j
      show decide (j = i) = _
      by_cases e : j = i
      · subst e; simp
      · have : ¬ (Sum.inr j : Key) = Sum.inr i := fun z => e (Sum.inr.inj z)
        simp [e, this]
theorem dget_val (h : keyD k = some q) : ∀ {l : List (D × D)} {kvs : List (Key × V)}, IsD Z g l kvs → (dget l k = none ∧ valV kvs q = none) ∨ ∃ d v, dget l k = some d ∧ valV kvs q = some v ∧ Is Z g d v
  | [], _, e => by
    cases e
    exact .inl ⟨rfl, rfl⟩
  | (a, d) :: r, _, ⟨p, v, ws, e1, e2, e3, e4⟩ => by
    subst e1
    have ke := keyEq_iff h e2
    by_cases hp : p = q
    · rw [decide_eq_true hp] at ke
      refine .inr ⟨d, v, ?_, ?_, e3⟩
      · simp [dget, List.find?, ke]
      · simp [valV, List.find?, hp]
    · rw [decide_eq_false hp] at ke
      have ih := dget_val h (l := r) (kvs := ws) e4
      have h1 : dget ((a, d) :: r) k = dget r k := by simp [dget, List.find?, ke]
      have h2 : valV ((p, v) :: ws) q = valV ws q := by simp [valV, List.find?, hp]
      rw [h1, h2]
      exact ih
theorem isD_len : ∀ {l : List (D × D)} {kvs : List (Key × V)}, IsD Z g l kvs → kvs.length = l.length
  | [], _, e => by cases e; rfl
  | _ :: r, _, ⟨q, v, ws, e1, _, _, e3⟩ => by rw [e1, List.length_cons, List.length_cons, isD_len e3]
theorem kdc_find {x : Str} : ∀ {kvs : List (Key × V)} {es : List DictEntry}, Paired EntKV kvs es → (es.any (·.refKey) = false) ∧ (match es.find? (·.key.isStr x) with
    | some e => ∃ v, valV kvs (.inr x) = some v ∧ RelV v e.val
    | none => valV kvs (.inr x) = none)
  | _, _, .nil => ⟨rfl, rfl⟩
  | _, _, .cons (a := kv) (b := e) ⟨y, t, h1, h2, h3⟩ r => by
    obtain ⟨i1, i2⟩ := kdc_find (x := x) r
    obtain ⟨p, v⟩ := kv
    obtain ⟨eh, ek, ev⟩ := e
    have h1 : p = .inr y := h1
    have h2 : ek = .str y t := h2
    subst h1 h2
    refine ⟨?_, ?_⟩
    · rw [List.any_cons, i1]
      rfl
    · by_cases hxy : y = x
      · subst hxy
        have e1 : (Value.str y t).isStr y = true := by simp [Value.isStr]
        simp only [List.find?, e1]
        exact ⟨v, by simp [valV, List.find?], h3⟩
      · have e1 : (Value.str y t).isStr x = false := by simp [Value.isStr, hxy]
        have e2 : ¬ (Sum.inr y : Key) = Sum.inr x := fun z => hxy (Sum.inr.inj z)
        have e3 : ∀ ws : List (Key × V), valV ((Sum.inr y, v) :: ws) (Sum.inr x) = valV ws (Sum.inr x) := fun ws => by simp [valV, List.find?, e2]
        simp only [List.find?, e1]
        rw [e3]
        exact i2
theorem kdc_ns {Z : Zx} {a : Addr} {x : Str} {kvs : List (Key × V)} (h : KDc Z a kvs) : ∃ es n r, KDict Z.K Z.w a es n ∧ PySem.W.nsIn Z.K a x = some r ∧ RelO (valV kvs (.inr x)) r := by
  obtain ⟨⟨es, n, D1, P1⟩, _⟩ := h
  obtain ⟨h1, h2⟩ := kdc_find (x := x) P1
  refine ⟨es, n, ?_⟩
  have hd : PySem.W.nsIn Z.K a x = (match es.toList.find? (·.key.isStr x) with
      | some e => some (some e.val)
      | none => if es.toList.any (·.refKey) then none else some none) := by
    unfold PySem.W.nsIn
    rw [D1.at_]
    rfl
  rw [hd, h1]
  cases e : es.toList.find? (·.key.isStr x) with
  | none =>
    rw [e] at h2
    exact ⟨none, D1, rfl, by rw [show valV kvs (.inr x) = none from h2]; trivial⟩
  | some en =>
    rw [e] at h2
    obtain ⟨v, h3, h4⟩ := h2
    exact ⟨some en.val, D1, rfl, by rw [h3]; exact h4⟩
end
section
variable {X : Cx} {cls : Nat → Addr} {fnm : Fnm} {T : Tab} {W : WX} {a b c : E} {x y z : Expr} {pos : Pos} {es : List E} {xs : List Expr}
variable {g : Gh} {s : S} {σ : L2.St} {H : Hp} {d e : D} {v u : V} {Q : VK}
def rInDk : R2 := fun x y H Q => ∃ a o, y = .ref a ∧ DGet H a x o ∧ Q (.bl o.isSome) H
def rNotInDk : R2 := fun x y H Q => ∃ a o, y = .ref a ∧ DGet H a x o ∧ Q (.bl (!o.isSome)) H
theorem op_inDk (hu : X.A.units + 64 < cLine) : OpR X (compareOp .In) rInDk := by
  intro pins s σ H x y v u Q I rx ry ⟨a, o, e, g, q⟩
  subst e
  cases ry
  exact d_in (by omega) I g rx fun s' I' => ⟨.bl o.isSome, H, I', rfl, q⟩
theorem op_notInDk (hu : X.A.units + 64 < cLine) : OpR X (compareOp .NotIn) rNotInDk := by
  intro pins s σ H x y v u Q I rx ry ⟨a, o, e, g, q⟩
  subst e
  cases ry
  exact d_notIn (by omega) I g rx fun s' I' => ⟨.bl (!o.isSome), H, I', rfl, q⟩
def rInKd (K : Frag) (w : World) : R2 := fun x y H Q => ∃ d es n z r, KDict K w d es n ∧ x = .str z ∧ y = .ref d ∧ PySem.W.nsIn K d z = some r ∧ Q (.bl r.isSome) H
def rNotInKd (K : Frag) (w : World) : R2 := fun x y H Q => ∃ d es n z r, KDict K w d es n ∧ x = .str z ∧ y = .ref d ∧ PySem.W.nsIn K d z = some r ∧ Q (.bl (!r.isSome)) H
theorem op_inKd : OpR X (compareOp .In) (rInKd X.K X.w) := by
  intro pins s σ H x y v u Q I rx ry ⟨d, es, n, z, r, D1, e1, e2, e3, q⟩
  exact op_in_kd D1 pins s σ H x y v u Q I rx ry ⟨z, r, e1, e2, e3, q⟩
theorem op_notInKd : OpR X (compareOp .NotIn) (rNotInKd X.K X.w) := by
  intro pins s σ H x y v u Q I rx ry ⟨d, es, n, z, r, D1, e1, e2, e3, q⟩
  exact op_notIn_kd D1 pins s σ H x y v u Q I rx ry ⟨z, r, e1, e2, e3, q⟩
theorem relO_isSome {o : Option V} {r : Option Value} (h : RelO o r) : r.isSome = o.isSome := by
  cases o <;> cases r <;> first | rfl | exact h.elim
theorem dct_ask {l : List (D × D)} (hk : d.isKey = true) (i : Look (zx X cls fnm) g H (.dct l) u) (j : Is (zx X cls fnm) g d v) :
    ∃ a, u = .ref a ∧ ∃ o, ((dget l d = none ∧ o = none) ∨ ∃ x w', dget l d = some x ∧ o = some w' ∧ Is (zx X cls fnm) g x w') ∧ DGet H a v o := by
  obtain ⟨a, kvs, rfl, h1, h2⟩ := i
  obtain ⟨q, hq⟩ : ∃ q, keyD d = some q := by
    cases d <;> first | exact ⟨_, rfl⟩ | cases hk
  have hv := keyD_V hq j
  refine ⟨a, rfl, valV kvs q, ?_, .inl ⟨kvs, q, h1, hv, rfl⟩⟩
  rcases dget_val hq h2 with h | ⟨x, w', e1, e2, e3⟩
  · exact .inl h
  · exact .inr ⟨x, w', e1, e2, e3⟩
theorem kdc_ask {l : List (D × D)} (hk : d.isStr = true) (i : Is (zx X cls fnm) g (.kdc l) u) (j : Is (zx X cls fnm) g d v) :
    ∃ a, u = .ref a ∧ ∃ o, ((dget l d = none ∧ o = none) ∨ ∃ x w', dget l d = some x ∧ o = some w' ∧ Is (zx X cls fnm) g x w') ∧
      ∃ es n z r, KDict X.K X.w a es n ∧ v = .str z ∧ PySem.W.nsIn X.K a z = some r ∧ RelO o r := by
  obtain ⟨a, kvs, rfl, h1, h2⟩ := i
  cases d <;> first | cases hk | skip
  rename_i z
  obtain ⟨es, n, r, k1, k2, k3⟩ := kdc_ns (x := z) h1
  refine ⟨a, rfl, valV kvs (.inr z), ?_, es, n, z, r, k1, j, k2, k3⟩
  rcases dget_val (k := .str z) rfl h2 with h | ⟨x, w', e1, e2, e3⟩
  · exact .inl h
  · exact .inr ⟨x, w', e1, e2, e3⟩
theorem inT_ok {l : List D} {k : Bool} {vs : List V} (h : d.inT l = some k) (j : Is (zx X cls fnm) g d v) (i : IsL (zx X cls fnm) g l vs) : flatV v = true ∧ vs.all flatV = true ∧ inV v vs = k := by
  have fl : ∀ (d : D) (v : V), d.flat = true → Is (zx X cls fnm) g d v → flatV v = true := fun d v h i => by
    cases d <;> first | cases h | skip
    all_goals cases i; rfl
  have feq : ∀ (d e : D) (v u : V), d.flat = true → e.flat = true → Is (zx X cls fnm) g d v → Is (zx X cls fnm) g e u → eqV v u = flatEq d e := fun d e v u h1 h2 i1 i2 => by
    cases d <;> first | cases h1 | skip
    all_goals cases e <;> first | cases h2 | skip
    all_goals cases i1; cases i2; rfl
  unfold D.inT at h
  split at h
  · rename_i hk
    obtain ⟨k1, k2⟩ := Bool.and_eq_true_iff.mp hk
    cases h
    refine ⟨fl d v k1 j, ?_⟩
    have go : ∀ (l : List D) (vs : List V), l.all D.flat = true → IsL (zx X cls fnm) g l vs → vs.all flatV = true ∧ inV v vs = l.any fun y => flatEq y d := fun l => by
      induction l with
      | nil =>
        intro vs _ e
        cases e
        exact ⟨rfl, rfl⟩
      | cons e r ih =>
        intro vs ha ⟨u, ws, e1, e2, e3⟩
        subst e1
        obtain ⟨a1, a2⟩ := Bool.and_eq_true_iff.mp (show (e.flat && r.all D.flat) = true from ha)
        obtain ⟨i1, i2⟩ := ih ws a2 e3
        refine ⟨?_, ?_⟩
        · rw [List.all_cons, fl e u a1 e2, i1]
          rfl
        · show (eqV u v || inV v ws) = _
          rw [feq e d u v a1 k1 e2 j, i2]
          rfl
    exact go l vs k2 i
  · cases h
theorem inS_ok {z : Str} {k : Bool} (h : D.inS z d = some k) (j : Is (zx X cls fnm) g d v) : ∃ c y, v = .str ⟨#[c]⟩ ∧ d = .str y ∧ decide (c ∈ z.cps.toList) = k := by
  cases d <;> first | (cases h; done) | skip
  rename_i y
  cases j
  have h : (match y.cps.toList with
    | [c] => some (decide (c ∈ z.cps.toList))
    | _ => none) = some k := h
  obtain ⟨⟨l⟩⟩ := y
  cases l with
  | nil => cases h
  | cons c r =>
    cases r with
    | nil => exact ⟨c, _, rfl, rfl, Option.some.inj h⟩
    | cons _ _ => cases h
theorem inL_ok {l : List D} {k : Bool} (hs : ∀ a o, g.F a = some o → H a = some o) (h : d.inL l = some k) (j : Is (zx X cls fnm) g d v) (i : Look (zx X cls fnm) g H (.lst l) u) :
    ∃ p ps, Dp X.K H v p ∧ Dp X.K H u (.list ps) ∧ SeqAt.shaped p = true ∧ SeqAt.shaped (.list ps) = true ∧ (ps.any fun z => PyData.eqv z p) = k := by
  unfold D.inL at h
  cases h1 : d.py with
  | none =>
    rw [h1] at h
    cases h
  | some p =>
    cases h2 : D.pyL l with
    | none =>
      rw [h1, h2] at h
      cases h
    | some ps =>
      rw [h1, h2] at h
      dsimp only at h
      split at h
      · rename_i hk
        obtain ⟨k1, k2⟩ := Bool.and_eq_true_iff.mp hk
        obtain ⟨q, vs, rfl, f1, _, f2⟩ := i
        exact ⟨p, ps, Is.dp hs d v p h1 j, .lst f1 (IsL.dp hs l vs ps h2 f2), k1, k2, Option.some.inj h⟩
      · cases h
def notSet : Expr → Bool
  | .Set _ _ _ => false
  | _ => true
theorem noset (h : notSet y = true) (op : CmpOp) : behindInMarks op y = false := by
  cases y <;> first | rfl | cases h
theorem has_seq {op : CmpOp} {n : Bool} {r : R2} (ho : OpR X (compareOp op) r) (hm : behindInMarks op y = false) (ha : KE X cls fnm T W a x) (hb : KR X cls fnm T W b y)
    (k : ∀ (g : Gh) (s : S) (σ : L2.St) (H : Hp) (d e : D) (v u : V) (Q : VK), Rel (zx X cls fnm) g s σ H → Is (zx X cls fnm) g d v → Look (zx X cls fnm) g H e u → ∀ z, hasD d e = some z → Q (.bl (z != n)) H → r v u H Q) :
    KE X cls fnm T W (.has n a b) (.Compare x [op] [y] pos) ∧ KT X cls fnm T W (.has n a b) (.Compare x [op] [y] pos) := by
  have w : ∀ σ H Q, RE X cls fnm T W (.has n a b) σ H Q → tOp r (RE X cls fnm T W a) (rdR (zx X cls fnm) T W b) σ H Q := fun σ H Q ⟨g, s, R1, h⟩ => by
    unfold ev at h
    refine seqE R1 h fun d v g2 s2 H2 R2 I2 _ _ h2 => seqR R2 h2 fun rf u g3 s3 H3 R3 A3 le3 _ h3 => ?_
    obtain ⟨z, hz, h4⟩ := out_some h3
    obtain ⟨e, he, hz⟩ := Option.bind_eq_some_iff.mp hz
    exact k g3 s3 σ H3 d.d e v u Q R3 (Is.mono le3 _ _ I2) (look_at R3 A3 he) z hz (Out.fz R3 h4 rfl)
  exact ⟨PE.weak (pe_cmpR ho ha hb hm) w, kt_of (pt_cmpR ho ha hb hm) w⟩
theorem kc_in (hu : X.A.units + 64 < cLine) (hu2 : X.A.units + 65 < cLine) (hy : notSet y = true) (ha : KE X cls fnm T W a x) (hb : KR X cls fnm T W b y) :
    KE X cls fnm T W (.has false a b) (.Compare x [.In] [y] pos) ∧ KT X cls fnm T W (.has false a b) (.Compare x [.In] [y] pos) := by
  refine has_seq (L2.OpR.or (op_inD hu2) (L2.OpR.or op_in_seq (L2.OpR.or (op_inDk hu) (L2.OpR.or op_inKd op_in_sign)))) (noset hy _) ha hb fun g s σ H d e v u Q R1 i1 i2 k hk h => ?_
  have h : Q (.bl k) H := by
    have e : (k != false) = k := by cases k <;> rfl
    rw [e] at h
    exact h
  cases e <;> first | (cases hk; done) | skip
  · obtain ⟨c, y, e1, rfl, e2⟩ := inS_ok hk i1
    cases i2
    exact .inr (.inr (.inr (.inr ⟨c, _, e1, rfl, by rw [e2]; exact h⟩)))
  · obtain ⟨p, vs, rfl, f1, f2⟩ := i2
    obtain ⟨h1, h2, h3⟩ := inT_ok hk i1 f2
    exact .inr (.inl ⟨p, vs, rfl, .inr (sqT_mono R1.sub f1), h1, h2, by rw [if_neg (by decide), h3]; exact h⟩)
  · obtain ⟨p, ps, h1, h2, h3, h4, h5⟩ := inL_ok R1.sub hk i1 i2
    exact .inl ⟨p, ps, h1, h2, h3, h4, by rw [h5]; exact h⟩
  · have hk : d.inD _ = some k := hk
    unfold D.inD at hk
    split at hk
    · rename_i ok
      obtain ⟨p, rfl, o, ho, hr⟩ := dct_ask ok i2 i1
      have ek : o.isSome = k := by
        rcases ho with ⟨h1, h2⟩ | ⟨_, _, h1, h2, _⟩ <;> rw [h2] <;> rw [h1] at hk <;> exact Option.some.inj hk
      exact .inr (.inr (.inl ⟨p, o, rfl, hr, by rw [ek]; exact h⟩))
    · cases hk
  · have hk : d.inK _ = some k := hk
    unfold D.inK at hk
    split at hk
    · rename_i ok
      obtain ⟨p, rfl, o, ho, es, n, z, r, k1, k2, k3, k4⟩ := kdc_ask ok i2 i1
      have ek : o.isSome = k := by
        rcases ho with ⟨h1, h2⟩ | ⟨_, _, h1, h2, _⟩ <;> rw [h2] <;> rw [h1] at hk <;> exact Option.some.inj hk
      exact .inr (.inr (.inr (.inl ⟨p, es, n, z, r, k1, k2, rfl, k3, by rw [relO_isSome k4, ek]; exact h⟩)))
    · cases hk
theorem kc_notin (hu : X.A.units + 64 < cLine) (hu2 : X.A.units + 65 < cLine) (hy : notSet y = true) (ha : KE X cls fnm T W a x) (hb : KR X cls fnm T W b y) :
    KE X cls fnm T W (.has true a b) (.Compare x [.NotIn] [y] pos) ∧ KT X cls fnm T W (.has true a b) (.Compare x [.NotIn] [y] pos) := by
  refine has_seq (L2.OpR.or (op_notInD hu2) (L2.OpR.or op_notIn_seq (L2.OpR.or (op_notInDk hu) (L2.OpR.or op_notInKd op_notIn_sign)))) (noset hy _) ha hb fun g s σ H d e v u Q R1 i1 i2 k hk h => ?_
  have h : Q (.bl (!k)) H := by
    have e : (k != true) = !k := by cases k <;> rfl
    rw [e] at h
    exact h
  cases e <;> first | (cases hk; done) | skip
  · obtain ⟨c, y, e1, rfl, e2⟩ := inS_ok hk i1
    cases i2
    exact .inr (.inr (.inr (.inr ⟨c, _, e1, rfl, by rw [e2]; exact h⟩)))
  · obtain ⟨p, vs, rfl, f1, f2⟩ := i2
    obtain ⟨h1, h2, h3⟩ := inT_ok hk i1 f2
    exact .inr (.inl ⟨p, vs, rfl, .inr (sqT_mono R1.sub f1), h1, h2, by rw [if_pos rfl, h3]; exact h⟩)
  · obtain ⟨p, ps, h1, h2, h3, h4, h5⟩ := inL_ok R1.sub hk i1 i2
    exact .inl ⟨p, ps, h1, h2, h3, h4, by rw [h5]; exact h⟩
  · have hk : d.inD _ = some k := hk
    unfold D.inD at hk
    split at hk
    · rename_i ok
      obtain ⟨p, rfl, o, ho, hr⟩ := dct_ask ok i2 i1
      have ek : o.isSome = k := by
        rcases ho with ⟨h1, h2⟩ | ⟨_, _, h1, h2, _⟩ <;> rw [h2] <;> rw [h1] at hk <;> exact Option.some.inj hk
      exact .inr (.inr (.inl ⟨p, o, rfl, hr, by rw [ek]; exact h⟩))
    · cases hk
  · have hk : d.inK _ = some k := hk
    unfold D.inK at hk
    split at hk
    · rename_i ok
      obtain ⟨p, rfl, o, ho, es, n, z, r, k1, k2, k3, k4⟩ := kdc_ask ok i2 i1
      have ek : o.isSome = k := by
        rcases ho with ⟨h1, h2⟩ | ⟨_, _, h1, h2, _⟩ <;> rw [h2] <;> rw [h1] at hk <;> exact Option.some.inj hk
      exact .inr (.inr (.inr (.inl ⟨p, es, n, z, r, k1, k2, rfl, k3, by rw [relO_isSome k4, ek]; exact h⟩)))
    · cases hk
end
end Pm
namespace Pm
open PySem PySem.Spec PyProof.Rows L2
open PySem.W (Frag)
section
variable {X : Cx} {cls : Nat → Addr} {fnm : Fnm} {T : Tab} {W : WX} {a b c : E} {x y z : Expr} {pos : Pos} {es : List E} {xs : List Expr}
variable {g : Gh} {s : S} {σ : L2.St} {H : Hp} {d e : D} {v u : V} {Q : VK}
def rIxDk : R2 := fun x y H Q => ∃ a v, x = .ref a ∧ DGet H a y (some v) ∧ Q v H
theorem ix_dict (hu : X.A.units + 64 < cLine) : IxR X rIxDk := by
  intro value slice pins s σ H x y v u Q I rx ry ⟨a, w', e, g, q⟩ hs
  subst e
  cases rx
  have hT := dict_typeIs I g
  unfold subscriptTail
  refine wpAny_bind ?_
  rw [getitemInPython_of_ne hT.not_modules]
  refine wpAny_bind (wpAny_specialOf hT PySem.F.slot_dict_getitem.lookup ?_)
  have fin : wpAny (model X.prog X.w) X.A (subscripted slice false (.ref a) u) (fun r s₃ => wpAny (model X.prog X.w) X.A (letTemporaryGo value (.ref a) r >>= fun _ => pure r) (EP X pins σ Q) X.xe s₃) X.xe s := by
    rw [hs]
    exact wpAny_operating (d_getItem (by omega) I g ry fun w2 s' I' r' => wpAny_bind (wpAny_letTemporaryGo (wpAny_pure ⟨w', H, I', r', q⟩)))
  first
    | exact wpAny_pure (wpAny_bind fin)
    | exact wpAny_bind (wpAny_pure (wpAny_bind fin))
    | exact wpAny_bind fin
def plainI : Expr → Bool
  | .Slice _ _ _ _ => false
  | _ => true
theorem plainIx (h : plainI y = true) : PlainIx y := fun o i => by
  cases y <;> first | rfl | cases h
theorem isL_at {Z : Zx} {l : List D} {vs : List V} {i : Int} {d : D} (I : IsL Z g l vs) (h : atI l i = some d) : ∃ v, atI vs i = some v ∧ Is Z g d v := by
  unfold atI at h ⊢
  rw [isL_len I]
  cases e : ixN l.length i with
  | none =>
    rw [e] at h
    cases h
  | some j =>
    rw [e] at h
    exact isL_get I (show l[j]? = some d from h)
theorem ke_ix (hu : X.A.units + 64 < cLine) (hy : plainI y = true) (ha : KR X cls fnm T W a x) (hb : KE X cls fnm T W b y) : KE X cls fnm T W (.ix a b) (.Subscript x y pos) := by
  refine PE.weak (pe_ix (ix_list.or (ix_tup.or ((ix_dict hu).or ix_kdict))) ha hb (plainIx hy)) fun σ H Q ⟨g, s, R1, h⟩ => ?_
  unfold ev at h
  refine seqR R1 h fun rf v g2 s2 H2 R2 A2 _ _ h2 => seqE R2 h2 fun e u g3 s3 H3 R3 I3 le3 _ h3 => ?_
  obtain ⟨r, hr, h3⟩ := out_some h3
  have fin : ∀ w', Is (zx X cls fnm) g3 r w' → Q w' H3 := fun w' i => Out.fz R3 h3 i
  obtain ⟨dd, hd, hr⟩ := Option.bind_eq_some_iff.mp hr
  have I2 := look_at R3 (A2.mono le3) hd
  generalize e.d = ee at hr I3
  cases dd <;> first | (cases ee <;> cases hr; done) | skip
  · cases ee <;> first | cases hr | skip
    obtain ⟨p, vs, rfl, f1, f2⟩ := I2
    cases I3
    obtain ⟨w', e1, e2⟩ := isL_at f2 hr
    exact .inr (.inl ⟨p, vs, _, w', rfl, rfl, sqT_mono R3.sub f1, e1, fin _ e2⟩)
  · cases ee <;> first | cases hr | skip
    obtain ⟨p, vs, rfl, f1, _, f2⟩ := I2
    cases I3
    obtain ⟨w', e1, e2⟩ := isL_at f2 hr
    exact .inl ⟨p, vs, _, w', rfl, rfl, f1, e1, fin _ e2⟩
  · rename_i l
    have hr : (if ee.isKey = true then dget l ee else none) = some r := by cases ee <;> exact hr
    split at hr
    · rename_i ok
      obtain ⟨p, rfl, o, ho, hg⟩ := dct_ask ok I2 I3
      rcases ho with ⟨h1, _⟩ | ⟨x', w', h1, h2, h4⟩
      · rw [h1] at hr
        cases hr
      · rw [h1] at hr
        cases hr
        subst h2
        exact .inr (.inr (.inl ⟨p, w', rfl, hg, fin _ h4⟩))
    · cases hr
  · rename_i l
    have hr : (if ee.isStr = true then dget l ee else none) = some r := by cases ee <;> exact hr
    split at hr
    · rename_i ok
      obtain ⟨p, rfl, o, ho, es, n, z, r', k1, k2, k3, k4⟩ := kdc_ask ok I2 I3
      rcases ho with ⟨h1, _⟩ | ⟨x', w', h1, h2, h4⟩
      · rw [h1] at hr
        cases hr
      · rw [h1] at hr
        cases hr
        subst h2
        cases r' with
        | none => exact k4.elim
        | some u' => exact .inr (.inr (.inr ⟨p, z, w', rfl, k2, ⟨es, n, u', k1.at_, k1.lit, k3, k4⟩, fin _ h4⟩))
    · cases hr
abbrev RO (X : Cx) (cls : Nat → Addr) (fnm : Fnm) (T : Tab) (W : WX) (o : Option E) : TO := fun σ H Q => ∃ g s, Rel (zx X cls fnm) g s σ H ∧ Out (zx X cls fnm) W σ g s H (evO T o s) (fun i _ _ H' _ => Q i H')
theorem PO.weak {e : Option Expr} {t t' : TO} (h : PO X e t) (w : ∀ σ H Q, t' σ H Q → t σ H Q) : PO X e t' := ⟨fun pins s σ H Q I q => h.run pins s σ H Q I (w σ H Q q)⟩
theorem ko_none : PO X none (RO X cls fnm T W none) := PO.weak po_none fun σ H Q ⟨g, s, R1, h⟩ => h g H [] R1 .refl
theorem ko_some (ha : KE X cls fnm T W a x) : PO X (some x) (RO X cls fnm T W (some a)) := by
  refine PO.weak (po_some ha) fun σ H Q ⟨g, s, R1, h⟩ => ?_
  have h' : Out (zx X cls fnm) W σ g s H ((ev T a s).bind fun x s => match x.d with
    | .int i => R.ok (some i) s
    | _ => .bad) (fun i _ _ H' _ => Q i H') := h
  refine seqE R1 h' fun d v g2 s2 H2 R2 I2 _ _ h2 => ?_
  generalize d.d = dd at h2 I2
  cases dd <;> first | exact h2.elim | skip
  cases I2
  exact ⟨_, rfl, h2 g2 H2 [] R2 .refl⟩
theorem seqO {Z : Zx} {α : Type} {o : Option E} {f : Option Int → S → R α} {P : α → Gh → S → Hp → List Addr → Prop} {K : Option Int → Hp → Prop} (R1 : Rel Z g s σ H) (h : Out Z W σ g s H ((evO T o s).bind f) P)
    (k : ∀ i g2 s1 H1, Rel Z g2 s1 σ H1 → g.Le g2 → Out Z W σ g2 s1 H1 (f i s1) P → K i H1) : ∃ g s, Rel Z g s σ H ∧ Out Z W σ g s H (evO T o s) (fun i _ _ H' _ => K i H') :=
  ⟨g, s, R1, h.bind.mono fun x g1 s1 H1 ex R' F' q => k x g1 s1 H1 R' F'.le (q.later F'.drop)⟩
theorem ke_sl {lo hi : Option E} {l h : Option Expr} {p : Pos} (ha : KR X cls fnm T W a x) (hl : PO X l (RO X cls fnm T W lo)) (hh : PO X h (RO X cls fnm T W hi)) : KE X cls fnm T W (.sl a lo hi) (.Subscript x (.Slice l h none p) pos) := by
  refine PE.weak (pe_slice (sl_list.or sl_tup) ha hl hh) fun σ H Q ⟨g, s, R1, h⟩ => ?_
  unfold ev at h
  refine seqR R1 h fun rf v g2 s2 H2 R2 A2 _ _ h2 => seqO R2 h2 fun i g3 s3 H3 R3 le3 h3 => seqO R3 h3 fun j g4 s4 H4 R4 le4 h4 => ?_
  cases hd : lookR rf s4 with
  | none => rw [hd] at h4; exact h4.elim
  | some dd =>
  rw [hd] at h4
  have I2 := look_at R4 (A2.mono (le3.trans le4)) hd
  cases dd <;> first | exact h4.elim | skip
  · rename_i l
    obtain ⟨q, vs, rfl, f1, f2⟩ := I2
    have e := isL_len f2
    have h4' : Out (zx X cls fnm) W σ g4 s4 H4 (ofO (if HT.sIx l.length 0 i = 0 ∧ HT.sIx l.length l.length j = l.length then none else some (Sl.fz (.tup (cutD l i j)))) s4) (PV (zx X cls fnm) σ Q) := h4
    by_cases k : HT.sIx l.length 0 i = 0 ∧ HT.sIx l.length l.length j = l.length
    · rw [if_pos k] at h4'
      exact h4'.elim
    · rw [if_neg k] at h4'
      refine .inr ⟨q, vs, rfl, sqT_mono R4.sub f1, by rw [e]; exact k, fun o ho => ?_⟩
      refine Out.new R4 h4' ho ⟨o, _, rfl, SqT.of upd_same, IsL.mono (Gh.add_le (R4.free ho).1) _ _ ?_⟩
      unfold cutV cutD
      rw [e]
      exact isL_take _ (isL_drop _ f2)
  · rename_i l
    obtain ⟨q, vs, rfl, f1, hz, f2⟩ := I2
    have e := isL_len f2
    refine .inl ⟨q, vs, rfl, f1, fun o ho => ?_⟩
    refine Out.newL R4 h4 ho ?_ ?_
    · unfold cutD
      rw [List.length_take, List.length_drop]
      omega
    · unfold cutV cutD
      rw [e]
      exact isL_take _ (isL_drop _ f2)
def baseOk : Expr → Bool
  | .Call (.Name _ _) [] [] _ => false
  | _ => true
theorem attrBase {f : Str} {env : PySem.Env} (h : baseOk x = true) : attributeBase x f env (eval x env) = eval x env := by
  unfold attributeBase
  split
  · cases h
  · rfl
theorem isF_get {Z : Zx} {f : Nat} (inj : ∀ k, Z.fnm k = Z.fnm f → k = f) : ∀ {fs : List (Nat × D)} {ws : List (Str × V)} {d : D}, IsF Z g fs ws → fs.lookup f = some d → ∃ v, ws.lookup (Z.fnm f) = some v ∧ Is Z g d v
  | [], _, _, _, h => by cases h
  | (k, e) :: r, _, d, ⟨v, ws, e1, e2, e3⟩, h => by
    subst e1
    by_cases hk : f = k
    · subst hk
      have : e = d := by simpa [List.lookup] using h
      subst this
      exact ⟨v, by simp [List.lookup], e2⟩
    · have hk' : (f == k) = false := by simpa using hk
      have h' : r.lookup f = some d := by simpa [List.lookup, hk'] using h
      obtain ⟨w', h1, h2⟩ := isF_get inj e3 h'
      have hn : (Z.fnm f == Z.fnm k) = false := by
        cases q : (Z.fnm f == Z.fnm k) with
        | false => rfl
        | true => exact absurd (inj k (beq_iff_eq.mp q).symm).symm hk
      exact ⟨w', by simp only [List.lookup, hn]; exact h1, h2⟩
theorem ke_fld {f : Nat} (hx : baseOk x = true) (inj : ∀ k, fnm k = fnm f → k = f) (hf : ∀ c, (T.flds c).contains f = true → Cls X.K (cls c) ∧ NoAttr X.K (cls c) (fnm f)) (ha : KE X cls fnm T W a x) :
    KE X cls fnm T W (.fld a f) (.Attribute x (fnm f) pos) := by
  refine PE.weak (pe_fld ha (attrBase hx)) fun σ H Q ⟨g, s, R1, h⟩ => ?_
  unfold ev at h
  refine seqE R1 h fun d v g2 s2 H2 R2 I2 _ _ h2 => ?_
  obtain ⟨r, hr, h3⟩ := out_some h2
  generalize d.d = dd at hr I2
  cases dd <;> first | cases hr | skip
  · rename_i c fs
    obtain ⟨p, dx, ws, rfl, f1, f2⟩ := I2
    have hr : (if (T.flds c).contains f = true then fs.lookup f else none) = some r := hr
    split at hr
    · rename_i ok
      obtain ⟨w', e1, e2⟩ := isF_get (Z := zx X cls fnm) inj f2 hr
      exact ⟨p, _, dx, ws, w', rfl, R2.sub _ _ f1, (hf c ok).1, (hf c ok).2, e1, Out.fz R2 h3 e2⟩
    · cases hr
  · rename_i k
    obtain ⟨p, rfl, f1⟩ := I2
    have hr : (match s2.res[k]? with
      | some (.ins c fs) => if (T.flds c).contains f = true then fs.lookup f else none
      | _ => none) = some r := hr
    cases hc : s2.res[k]? with
    | none =>
      rw [hc] at hr
      cases hr
    | some ce =>
      rw [hc] at hr
      cases ce <;> first | cases hr | skip
      rename_i c fs
      dsimp only at hr
      split at hr
      · rename_i ok
        obtain ⟨p', e0, e1⟩ := R2.cell (.res k) _ hc
        have e0 : g2.rho k = some p' := e0
        rw [f1] at e0
        cases e0
        obtain ⟨_, dx, ws, h5, _, _, h6⟩ := e1
        obtain ⟨w', e1, e2⟩ := isF_get (Z := zx X cls fnm) inj h6 hr
        exact ⟨p, _, dx, ws, w', rfl, h5, (hf c ok).1, (hf c ok).2, e1, Out.fz R2 h3 e2⟩
      · cases hr
theorem kb_seq {r : List V → Hp → VK → Prop} {id : String} {n : Str} {p : Pos} {f : Rf → S → R Sl} {ce : E} (hc : CallR X (.builtin id) r) (hg : Gl X n) (hm : X.mg n = none) (hv : bootBuiltins n = some (.builtin id)) (hn : n ≠ "__name__") (hd : (n == ("__debug__" : Str)) = false) (hs : starX x = false)
    (ha : KR X cls fnm T W a x) (hev : ∀ s, ev T ce s = (rfR (slotOf a s) s (ev T a s)).bind f)
    (k : ∀ (g : Gh) (s : S) (σ : L2.St) (H : Hp) (d : Rf) (v : V) (Q : VK), Rel (zx X cls fnm) g s σ H → RfAt (zx X cls fnm) g σ d v → Out (zx X cls fnm) W σ g s H (f d s) (PV (zx X cls fnm) σ Q) → r [v] H Q) :
    KE X cls fnm T W ce (.Call (.Name n p) [x] [] pos) := by
  refine PE.weak (pe_callB hc hg hm hv (pa_cons ha pa_nil (starEach_plain hs)) hn hd (starEach_plain hs)) fun σ H Q ⟨g, s, R1, h⟩ => ?_
  rw [hev] at h
  exact seqR R1 h fun d v g2 s2 H2 R2 I2 _ _ h2 => k g2 s2 σ H2 d v Q R2 I2 h2
theorem kt_seq {r : List V → Hp → VK → Prop} {ty : String} {n : Str} {p : Pos} {f : Rf → S → R Sl} {ce : E} (hc : CallR X (.type ty) r) (hg : Gl X n) (hm : X.mg n = none) (hv : bootBuiltins n = some (.type ty)) (hn : n ≠ "__name__") (hd : (n == ("__debug__" : Str)) = false) (hs : starX x = false)
    (ha : KR X cls fnm T W a x) (hev : ∀ s, ev T ce s = (rfR (slotOf a s) s (ev T a s)).bind f)
    (k : ∀ (g : Gh) (s : S) (σ : L2.St) (H : Hp) (d : Rf) (v : V) (Q : VK), Rel (zx X cls fnm) g s σ H → RfAt (zx X cls fnm) g σ d v → Out (zx X cls fnm) W σ g s H (f d s) (PV (zx X cls fnm) σ Q) → r [v] H Q) :
    KE X cls fnm T W ce (.Call (.Name n p) [x] [] pos) := by
  refine PE.weak (pe_callTy hc hg hm hv (pa_cons ha pa_nil (starEach_plain hs)) hn hd (starEach_plain hs)) fun σ H Q ⟨g, s, R1, h⟩ => ?_
  rw [hev] at h
  exact seqR R1 h fun d v g2 s2 H2 R2 I2 _ _ h2 => k g2 s2 σ H2 d v Q R2 I2 h2
theorem look_out {Z : Zx} {f : D → Option Sl} {P : Sl → Gh → S → Hp → List Addr → Prop} {r : Rf} (R1 : Rel Z g s σ H) (A : RfAt Z g σ r v) (h : Out Z W σ g s H (ofO ((lookR r s).bind f) s) P) : ∃ d, Look Z g H d v ∧ Out Z W σ g s H (ofO (f d) s) P := by
  cases e : lookR r s with
  | none => rw [e] at h; exact h.elim
  | some d =>
    rw [e] at h
    exact ⟨d, look_at R1 A e, h⟩
theorem isD_keys {Z : Zx} : ∀ {l : List (D × D)} {kvs : List (Key × V)}, IsD Z g l kvs → IsL Z g (l.map (·.1)) (kvs.map fun kv => kV kv.1)
  | [], _, e => by cases e; rfl
  | (k, d) :: r, _, ⟨q, v, ws, e1, e2, _, e3⟩ => by
    subst e1
    refine ⟨kV q, _, rfl, ?_, isD_keys e3⟩
    cases k <;> first | cases e2 | skip
    all_goals rfl
theorem call_lenR : CallR X (.builtin "len") (fun xs H Q => ∃ a kvs, xs = [V.ref a] ∧ Rd H a (.dK kvs) ∧ Q (.int kvs.length) H) := by
  intro pins s σ H xs us Q I r ⟨a, kvs, e, f, q⟩
  subst e
  cases r with
  | cons r0 rr =>
    cases rr
    cases r0
    exact d_len I f fun t s9 I9 => ⟨.int kvs.length, H, I9, ⟨t, rfl⟩, q⟩
theorem ke_len {p : Pos} (hg : Gl X "len") (hm : X.mg "len" = none) (hs : starX x = false) (ha : KR X cls fnm T W a x) : KE X cls fnm T W (.p1 .len a) (.Call (.Name "len" p) [x] [] pos) := by
  refine kb_seq (call_len.or call_lenR) hg hm PySem.boot_len (by decide) (by decide) hs ha (fun s => rfl) fun g s σ H d v Q R1 A1 h => ?_
  obtain ⟨dd, i1, h⟩ := look_out R1 A1 h
  cases dd <;> first | exact h.elim | skip
  · rename_i z
    cases i1
    have h' : Out (zx X cls fnm) W σ g s H (ofO (if z.length ≤ lim then some (Sl.fz (.int z.length)) else none) s) (PV (zx X cls fnm) σ Q) := h
    obtain ⟨k, h'⟩ := ofO_if h'
    exact .inl ⟨_, z.length, rfl, ⟨Nat.le_trans k lim_le, rfl⟩, Out.fz R1 h' rfl⟩
  · obtain ⟨q, vs, rfl, f1, f2⟩ := i1
    exact .inl ⟨_, vs.length, rfl, .inr ⟨vs, sqT_mono R1.sub f1, rfl⟩, Out.fz R1 h (by rw [isL_len f2]; rfl)⟩
  · obtain ⟨q, vs, rfl, f1, _, f2⟩ := i1
    exact .inl ⟨_, vs.length, rfl, .inl ⟨vs, f1, rfl⟩, Out.fz R1 h (by rw [isL_len f2]; rfl)⟩
  · obtain ⟨q, vs, rfl, f1, f2⟩ := i1
    exact .inr ⟨q, vs, rfl, f1, Out.fz R1 h (by rw [isD_len f2]; rfl)⟩
theorem rdK_len {X : Cx} {p : Addr} {kvs : List (Key × V)} {pins : List (Addr × Obj)} {s : Shared} (I : Inv X pins σ H s) (h : Rd H p (.dK kvs)) : kvs.length ≤ sizeLine := by
  exact (dk_rd I.hok h).1
theorem call_listD' (hc : X.calm = true) : CallR X (.type "list") (fun xs H Q => ∃ a kvs, xs = [.ref a] ∧ Rd H a (.dK kvs) ∧ ∀ p, H p = none → kvs.length ≤ sizeLine → Q (.ref p) (upd H p (.lst (kvs.map fun kv => kV kv.1)))) := by
  intro pins s σ H xs us Q I r ⟨a, kvs, e, h, q⟩
  have hz := rdK_len I h
  exact call_listD hc pins s σ H xs us Q I r ⟨a, kvs, e, h, fun p hp => q p hp hz⟩
theorem call_list_of' : CallR X (.type "list") (fun xs H Q => ∃ p ys, xs = [.ref p] ∧ (SqL X.K H p ys ∨ SqT X.K H p ys) ∧ ∀ l, H l = none → ys.length ≤ sizeLine → Q (.ref l) (upd H l (.lst ys))) := by
  intro pins s σ H xs us Q I r ⟨p, ys, e, h, q⟩
  have hz : ys.length ≤ sizeLine := by
    rcases h with h | h
    · obtain ⟨_, _, _, z⟩ := I.list h
      exact z
    · obtain ⟨_, _, _, z⟩ := I.tuple h
      exact z
  exact call_list_of pins s σ H xs us Q I r ⟨p, ys, e, h, fun l hl => q l hl hz⟩
theorem ke_addL (ha : KR X cls fnm T W a x) (hb : KE X cls fnm T W b y) : KE X cls fnm T W (.addL a b) (.BinOp x .Add y pos) := by
  refine PE.weak (pe_op op_cat ha hb) fun σ H Q ⟨g, s, R1, h⟩ => ?_
  unfold ev at h
  refine seqR R1 h fun rf v g2 s2 H2 R2 A2 _ _ h2 => seqE R2 h2 fun e u g3 s3 H3 R3 I3 le3 _ h3 => ?_
  obtain ⟨dd, I2, h3⟩ := look_out (f := fun x => addD x e.d) R3 (A2.mono le3) h3
  generalize e.d = ee at h3 I3
  cases dd <;> first | (cases ee <;> exact h3.elim; done) | skip
  cases ee <;> first | exact h3.elim | skip
  obtain ⟨p, vs, rfl, _, ⟨_, f1⟩, j1⟩ := I2
  obtain ⟨q, us, rfl, f2, _, j2⟩ := I3
  obtain ⟨k1, h3⟩ := ofO_if h3
  refine ⟨p, q, vs, us, rfl, rfl, f1, R3.sub _ _ f2, ?_, fun o ho => ?_⟩
  · rw [isL_len j1, isL_len j2]
    exact Nat.le_trans k1 lim_le
  · exact Out.newL R3 h3 ho (by rw [List.length_append]; exact Nat.le_trans k1 lim_le) (isL_app j1 j2)
theorem ke_list {p : Pos} (hc : X.calm = true) (hg : Gl X "list") (hm : X.mg "list" = none) (hs : starX x = false) (ha : KR X cls fnm T W a x) : KE X cls fnm T W (.p1 .list a) (.Call (.Name "list" p) [x] [] pos) := by
  refine kt_seq (call_list_of'.or (call_listD' hc)) hg hm (by decide +kernel) (by decide) (by decide) hs ha (fun s => rfl) fun g s σ H d v Q R1 A1 h => ?_
  obtain ⟨dd, i1, h⟩ := look_out R1 A1 h
  cases dd <;> first | exact h.elim | skip
  · obtain ⟨q, vs, rfl, f1, f2⟩ := i1
    exact .inl ⟨q, vs, rfl, .inr (sqT_mono R1.sub f1), fun o ho hz => Out.newL R1 h ho (by rw [← isL_len f2]; exact hz) f2⟩
  · obtain ⟨q, vs, rfl, f1, _, f2⟩ := i1
    exact .inl ⟨q, vs, rfl, .inl f1, fun o ho hz => Out.newL R1 h ho (by rw [← isL_len f2]; exact hz) f2⟩
  · obtain ⟨q, vs, rfl, f1, f2⟩ := i1
    exact .inr ⟨q, vs, rfl, f1, fun o ho hz => Out.newL R1 h ho (by rw [List.length_map, ← isD_len f2]; exact hz) (isD_keys f2)⟩
  · obtain ⟨q, rfl, f1⟩ := i1
    exact .inl ⟨q, _, rfl, .inl (sqL_mono R1.sub f1), fun o ho hz => Out.newL R1 h ho (by simpa using hz) (isL_ints _)⟩
theorem ke_tuple {p : Pos} (hg : Gl X "tuple") (hm : X.mg "tuple" = none) (hs : starX x = false) (ha : KR X cls fnm T W a x) : KE X cls fnm T W (.p1 .tuple a) (.Call (.Name "tuple" p) [x] [] pos) := by
  refine kt_seq call_tuple_of hg hm (by decide +kernel) (by decide) (by decide) hs ha (fun s => rfl) fun g s σ H d v Q R1 A1 h => ?_
  obtain ⟨dd, i1, h⟩ := look_out R1 A1 h
  cases dd <;> first | exact h.elim | skip
  obtain ⟨q, vs, rfl, f1, _, f2⟩ := i1
  exact ⟨q, vs, rfl, .inl ⟨f1, fun o ho => Out.new R1 h ho ⟨o, vs, rfl, SqT.of upd_same, IsL.mono (Gh.add_le (R1.free ho).1) _ _ f2⟩⟩⟩
theorem ke_dict {p : Pos} (hg : Gl X "dict") (hm : X.mg "dict" = none) (hs : starX x = false) (ha : KR X cls fnm T W a x) : KE X cls fnm T W (.p1 .dict a) (.Call (.Name "dict" p) [x] [] pos) := by
  refine kt_seq call_dictD hg hm (by decide +kernel) (by decide) (by decide) hs ha (fun s => rfl) fun g s σ H d v Q R1 A1 h => ?_
  obtain ⟨dd, i1, h⟩ := look_out R1 A1 h
  cases dd <;> first | exact h.elim | skip
  obtain ⟨q, kvs, rfl, f1, f2⟩ := i1
  exact ⟨q, kvs, rfl, f1, fun o ho => Out.newD R1 h ho f2⟩
theorem ke_int1 {p : Pos} (hg : Gl X "int") (hm : X.mg "int" = none) (hs : starX x = false) (ha : KR X cls fnm T W a x) : KE X cls fnm T W (.p1 .int a) (.Call (.Name "int" p) [x] [] pos) := by
  refine kt_seq call_int1 hg hm (by decide +kernel) (by decide) (by decide) hs ha (fun s => rfl) fun g s σ H d v Q R1 A1 h => ?_
  obtain ⟨dd, i1, h⟩ := look_out R1 A1 h
  cases dd <;> first | exact h.elim | skip
  · cases i1
    exact .inr ⟨_, rfl, Out.fz R1 h rfl⟩
  · cases i1
    exact .inl ⟨_, rfl, Out.fz R1 h rfl⟩
end
end Pm
namespace Pm
open PySem PySem.Spec PyProof.Rows L2
open PySem.W (Frag)
section
variable {X : Cx} {cls : Nat → Addr} {fnm : Fnm} {T : Tab} {W : WX} {a b c : E} {x y z : Expr} {pos : Pos} {es : List E} {xs : List Expr}
variable {g : Gh} {s : S} {σ : L2.St} {H : Hp} {d e : D} {v u : V} {Q : VK}
theorem ke_glob {n : Str} {k : Nat} {u : Value} (hg : Gl X n) (hm : X.mg n = some u) (hd : (n == ("__debug__" : Str)) = false) (hr : ∃ v, RelV v u ∧ ∀ d, T.glob k = some d → ∀ g, Is (zx X cls fnm) g d v) :
    KE X cls fnm T W (.glob k) (.Name n pos) := by
  obtain ⟨v, r, h⟩ := hr
  refine PE.weak (pe_glob hg hm r hd) fun σ H Q ⟨g, s, R1, h1⟩ => ?_
  have h1' : Out (zx X cls fnm) W σ g s H (ofO ((T.glob k).map .fz) s) (PV (zx X cls fnm) σ Q) := h1
  exact Out.fzO R1 h1' fun d e => h d e g
def Ty.nm : Ty → String
  | .int => "int"
  | .str => "str"
  | .bool => "bool"
  | .tup => "tuple"
  | .lst => "list"
  | .dct => "dict"
  | _ => ""
def D.tn : D → Option String
  | .non => some "NoneType"
  | .bl _ => some "bool"
  | .int _ => some "int"
  | .str _ => some "str"
  | .tup _ => some "tuple"
  | .lst _ => some "list"
  | .dct _ => some "dict"
  | .kdc _ => some "dict"
  | _ => none
theorem is_ty {n : String} (hs : ∀ a o, g.F a = some o → H a = some o) (h : d.tn = some n) (i : Is (zx X cls fnm) g d v) : TyX X.K H v (.type n) := by
  cases d <;> first | cases h | skip
  · cases i; exact .base .non
  · cases i; exact .base (.bl _)
  · cases i; exact .base (.int _)
  · cases i; exact .base (.str _)
  · obtain ⟨p, vs, rfl, f1, _⟩ := i
    rcases sqT_mono hs f1 with (f | ⟨o, f⟩) | ⟨o, its, n, h1, h2, _⟩
    · exact .base (.tup f)
    · exact .fTuple f
    · exact .kTuple h1 h2
  · obtain ⟨p, vs, rfl, f1, _⟩ := i
    exact .base (.lst (hs _ _ f1))
  · obtain ⟨p, vs, rfl, f1, _⟩ := i
    rcases rd_mono hs f1 with f | ⟨o, f⟩
    · exact .base (.dK f)
    · exact .fDict f
  · obtain ⟨p, vs, rfl, ⟨⟨es, n, D1, _⟩, _⟩, _⟩ := i
    exact .kDict D1.at_ rfl
structure IsiC (K : Frag) (C : Addr) : Prop where
  cl : Cls K C
  ha : PySem.W.findIn K (.ref C) "__class__" = some (some (.builtin "object.__class__"))
  hn : PySem.W.specialIn K (.builtin "object.__class__") "__get__" = some (some (.builtin "getset_descriptor.__get__"))
  htk : PySem.W.takesIn K (.builtin "object.__class__") = some true
  hm : PySem.W.mroIn K C (.type "object") = some true
theorem is_cls {c : Nat} {fs : List (Nat × D)} (hs : ∀ a o, g.F a = some o → H a = some o) (k : IsiC X.K (cls c)) (i : Is (zx X cls fnm) g (.obj c fs) v) : TyX X.K H v (.ref (cls c)) := by
  obtain ⟨p, dx, ws, rfl, f1, _⟩ := i
  exact .base (.ins (hs _ _ f1) k.cl k.ha k.hn k.htk k.hm)
theorem isiD_ty {n : String} {t : Ty} {k : Bool} (hn : d.tn = some n) (ht : t.nm ≠ "") (h : isiD d t T.isic = some k) : PySem.W.kitOne X.K (.type n) (.type t.nm) = some k := by
  refine kit_ty ?_
  cases d <;> first | cases hn | skip
  all_goals cases t <;> first | exact absurd rfl ht | skip
  all_goals cases h; decide +kernel
theorem ke_isi {n : Str} {t : Ty} {p q : Pos} (hg : Gl X "isinstance") (hm : X.mg "isinstance" = none) (ht : t.nm ≠ "") (hT : Gl X n) (mT : X.mg n = none) (bT : bootBuiltins n = some (.type t.nm)) (nT : n ≠ "__name__") (dT : (n == ("__debug__" : Str)) = false) (hs : starX x = false)
    (hc : ∀ c k, T.isic c t = some k → IsiC X.K (cls c) ∧ PySem.W.kitOne X.K (.ref (cls c)) (.type t.nm) = some k) (ha : KE X cls fnm T W a x) : KE X cls fnm T W (.isi a t) (.Call (.Name "isinstance" p) [x, .Name n q] [] pos) := by
  have hty : PE X (.Name n q) (tC (.ty t.nm)) := pe_bltn (v := .ty t.nm) hT mT bT rfl nT dT
  refine PE.weak (pe_callB call_isi hg hm (by decide +kernel) (pa_cons ha (pa_cons hty pa_nil (starEach_plain (by rfl))) (starEach_plain hs)) (by decide) (by decide) (starEach_plain hs)) fun σ H Q ⟨g, s, R1, h⟩ => ?_
  unfold ev at h
  refine seqE R1 h fun d v g2 s2 H2 R2 I2 _ _ h2 => ?_
  obtain ⟨k, hk, h3⟩ := out_some h2
  have fin := Out.fz R2 h3 (v := .bl k) rfl
  cases hn : d.d.tn with
  | some n =>
    exact ⟨v, .ty t.nm, _, _, k, rfl, .ty _, is_ty R2.sub hn I2, isiD_ty hn ht hk, fin⟩
  | none =>
    generalize d.d = dd at hk I2 hn
    cases dd <;> first | cases hn | skip
    · rename_i c fs
      obtain ⟨k1, k2⟩ := hc c k hk
      exact ⟨v, .ty t.nm, _, _, k, rfl, .ty _, is_cls R2.sub k1 I2, k2, fin⟩
    · cases hk
    · cases hk
theorem ke_isiC {n : Str} {c : Nat} {p q : Pos} (hg : Gl X "isinstance") (hm : X.mg "isinstance" = none) (hT : Gl X n) (mT : X.mg n = some (.ref (cls c))) (dT : (n == ("__debug__" : Str)) = false) (hs : starX x = false)
    (hc : ∀ c' k, T.isic c' (.cls c) = some k → IsiC X.K (cls c') ∧ PySem.W.kitOne X.K (.ref (cls c')) (.ref (cls c)) = some k) (hb : ∀ d n, D.tn d = some n → PySem.W.kitOne X.K (.type n) (.ref (cls c)) = some false)
    (ha : KE X cls fnm T W a x) : KE X cls fnm T W (.isi a (.cls c)) (.Call (.Name "isinstance" p) [x, .Name n q] [] pos) := by
  have hty : PE X (.Name n q) (tC (.ref (cls c))) := pe_glob (v := .ref (cls c)) hT mT rfl dT
  refine PE.weak (pe_callB call_isi hg hm (by decide +kernel) (pa_cons ha (pa_cons hty pa_nil (starEach_plain (by rfl))) (starEach_plain hs)) (by decide) (by decide) (starEach_plain hs)) fun σ H Q ⟨g, s, R1, h⟩ => ?_
  unfold ev at h
  refine seqE R1 h fun d v g2 s2 H2 R2 I2 _ _ h2 => ?_
  obtain ⟨k, hk, h3⟩ := out_some h2
  have fin := Out.fz R2 h3 (v := .bl k) rfl
  cases hn : d.d.tn with
  | some n =>
    have ek : k = false := by
      generalize d.d = dd at hk hn
      cases dd <;> first | cases hn | skip
      all_goals exact (Option.some.inj hk).symm
    subst ek
    exact ⟨v, .ref (cls c), _, _, false, rfl, .own _, is_ty R2.sub hn I2, hb _ _ hn, fin⟩
  | none =>
    generalize d.d = dd at hk I2 hn
    cases dd <;> first | cases hn | skip
    · rename_i c' fs
      obtain ⟨k1, k2⟩ := hc c' k hk
      exact ⟨v, .ref (cls c), _, _, k, rfl, .own _, is_cls R2.sub k1 I2, k2, fin⟩
    · cases hk
    · cases hk
theorem ke_isiTL {p q q1 q2 : Pos} {j : Nat} (hg : Gl X "isinstance") (hm : X.mg "isinstance" = none) (gt : Gl X "tuple") (mt : X.mg "tuple" = none) (gl : Gl X "list") (ml : X.mg "list" = none) (hs : starX x = false)
    (hc : ∀ c k, T.isic c .tupOrLst = some k → IsiC X.K (cls c) ∧ PySem.W.kitAny X.K (.ref (cls c)) [.type "tuple", .type "list"] = some k) (hk' : ∀ d n k, D.tn d = some n → isiD d .tupOrLst T.isic = some k → PySem.W.kitAny X.K (.type n) [.type "tuple", .type "list"] = some k)
    (ha : KE X cls fnm T W a x) : KE X cls fnm T W (.isi a .tupOrLst) (.Call (.Name "isinstance" p) [x, .Tuple [.Name "tuple" q1, .Name "list" q2] j q] [] pos) := by
  have h1 : PE X (.Name "tuple" q1) (tC (.ty "tuple")) := pe_bltn (v := .ty "tuple") gt mt (by decide +kernel) rfl (by decide) (by decide)
  have h2 : PE X (.Name "list" q2) (tC (.ty "list")) := pe_bltn (v := .ty "list") gl ml (by decide +kernel) rfl (by decide) (by decide)
  have hty := pe_tup (X := X) (x1 := j) (pos := q) (pa_cons h1 (pa_cons h2 pa_nil))
  refine PE.weak (pe_callB call_isiT hg hm (by decide +kernel) (pa_cons ha (pa_cons hty pa_nil (starEach_plain (by rfl))) (starEach_plain hs)) (by decide) (by decide) (starEach_plain hs)) fun σ H Q ⟨g, s, R1, h⟩ => ?_
  unfold ev at h
  refine seqE R1 h fun d v g2 s2 H2 R2 I2 _ _ h2 => ?_
  obtain ⟨k, hk, h3⟩ := out_some h2
  refine ⟨by rw [sizeLine_eq]; decide, fun o ho => ?_⟩
  obtain ⟨R3, F3⟩ := R2.allocF (o := .tup [.ty "tuple", .ty "list"]) ho
  have fin : Q (.bl k) _ := Out.fz R3 (h3.later F3) (v := .bl k) rfl
  have I3 := Is.mono (Gh.add_le (o := .tup [.ty "tuple", .ty "list"]) (R2.free ho).1) _ _ I2
  have cs : Paired ClsV [.ty "tuple", .ty "list"] [.type "tuple", .type "list"] := .cons (.ty _) (.cons (.ty _) .nil)
  cases hn : d.d.tn with
  | some n => exact ⟨v, o, _, _, _, k, rfl, upd_same, cs, is_ty R3.sub hn I3, hk' _ _ _ hn hk, fin⟩
  | none =>
    generalize d.d = dd at hk I3 hn
    cases dd <;> first | cases hn | skip
    · rename_i c fs
      obtain ⟨k1, k2⟩ := hc c k hk
      exact ⟨v, o, _, _, _, k, rfl, upd_same, cs, is_cls R3.sub k1 I3, k2, fin⟩
    · cases hk
    · cases hk
def spF (Z : Zx) (f : FS) (n : Nat) : Sp := fun vs H Q E => vs.length = n ∧ ∃ g res ds, Rel Z g ⟨[], res⟩ [] H ∧ IsL Z g ds vs ∧ match f ds res with
  | .ok x res' => ∀ v g' H' ex, Rel Z g' ⟨[], res'⟩ [] H' → Fr [] [] g ⟨[], res⟩ H g' ⟨[], res'⟩ H' ex → VR Z g' ⟨[], res'⟩ [] H' x v ex → Q v H'
  | .exc k fs res' => ∀ g' H' cls d, Rel Z g' ⟨[], res'⟩ [] H' → Fr [] [] g ⟨[], res⟩ H g' ⟨[], res'⟩ H' [] → ExAt Z g' H' k fs cls d → E cls d H'
  | .bad => False
theorem VR.lift {Z : Zx} {g' : Gh} {H' : Hp} {res' : List Cell} {x : Sl} {ex : List Addr} (V1 : VR Z g' ⟨[], res'⟩ [] H' x v ex) (far : ∀ a, (Own g' ⟨[], res'⟩ [] H' a ∨ a ∈ ex) → ∀ i c p, s.cell (.loc i) = some c → padr g σ (.loc i) = some p → a ∉ foot H' p c) :
    VR Z g' ⟨s.loc, res'⟩ σ H' x v ex := by
  cases x with
  | xc _ _ => exact V1
  | fz d => exact V1
  | ow c =>
    obtain ⟨p, h1, h2, h3, h4, h5⟩ := V1
    refine ⟨p, h1, h2, h3, fun a ha ⟨q, c', p', k1, k2, k3⟩ => ?_, h5⟩
    cases q with
    | loc i => exact far a (.inr ha) i c' p' k1 k2 k3
    | res k => exact h4 a ha ⟨.res k, c', p', k1, k2, k3⟩
theorem call_ok {Z : Zx} {ds : List D} {vs : List V} {f : FS} {n : Nat} (har : ∀ ds res, ds.length ≠ n → f ds res = .bad) (R1 : Rel Z g s σ H) (I : IsL Z g ds vs) (h : Out Z W σ g s H ((f ds s.res).at s.loc) (PV Z σ Q)) : spF Z f n vs H Q (WE W σ) := by
  have hl : vs.length = n := by
    rw [isL_len I]
    by_cases k : ds.length = n
    · exact k
    · rw [har ds s.res k] at h
      exact h.elim
  refine ⟨hl, g, s.res, ds, R1.rs, I, ?_⟩
  cases e : f ds s.res with
  | ok x res' =>
    rw [e] at h
    intro v g' H' ex R' F' V'
    obtain ⟨R2, F2, far⟩ := R1.back R' F'
    exact h g' H' ex R2 F2 v (V'.lift far)
  | exc k fs res' =>
    rw [e] at h
    intro g' H' cls d R' F' X'
    obtain ⟨R2, F2, _⟩ := R1.back R' F'
    exact h g' H' cls d R2 F2 X'
  | bad =>
    rw [e] at h
    exact h
structure FnAt (X : Cx) (Z : Zx) (f : FS) (a : Addr) : Prop where
  kp : PySem.W.keepIn X.K (.ref a) = true
  fn : ∃ n fd ps k, FnOk X.prog X.w X.K X.mg X.base (L2.CX X.prog X.w) k a fd ps (spF Z f n) ∧ Room (k + 1) X.A ∧ Binds X.K fd ps [] ∧ ∀ ds res, ds.length ≠ n → f ds res = .bad
theorem run_call {Z : Zx} {f : FS} {a : Addr} {pins : List (Addr × Obj)} {sh : Shared} {us : List Value} {vs : List V} {ds : List D} (F : FnAt X Z f a) (tk : Takes X W) (I : Inv X pins σ H sh) (r : Vals vs us) (R1 : Rel Z g s σ H) (i : IsL Z g ds vs) (h : Out Z W σ g s H ((f ds s.res).at s.loc) (PV Z σ Q)) :
    wpAny (model X.prog X.w) X.A (call (.ref a) us) (EP X pins σ Q) X.xe sh := by
  obtain ⟨n, fd, ps, k, F1, hr, hb, har⟩ := F.fn
  exact run_fnS F1 (hr.mono (Nat.le_succ _)) hb (passAt tk σ) I r (call_ok har R1 i h)
theorem starEach_none : ∀ {xs : List Expr} {env : PySem.Env}, xs.all (fun x => !starX x) = true → starEach xs env = xs.map fun x => (false, eval x env)
  | [], _, _ => rfl
  | x :: r, env, h => by
    obtain ⟨h1, h2⟩ := Bool.and_eq_true_iff.mp (show ((!starX x) && r.all fun x => !starX x) = true from h)
    rw [starEach_plain (by simpa using h1), starEach_none h2]
    rfl
theorem backTo_none {xs : List Expr} {env : PySem.Env} {pos : Pos} (h : xs.all (fun x => !starX x) = true) : (backTo pos (starEach xs env)).any (·.1) = false := by
  rw [starEach_none h]
  unfold backTo
  cases e : xs.map (fun x => (false, eval x env)) with
  | nil => rfl
  | cons a r =>
    have ha : ∀ (l : List Expr), (l.map fun x => (false, eval x env)).any (·.1) = false := fun l => by
      induction l with
      | nil => rfl
      | cons b t ih => simpa using ih
    have hx := ha xs
    rw [e] at hx
    first
      | simpa using hx
      | (simp only [List.any_cons, List.any_append, List.any_map] at hx ⊢; simpa using hx)
theorem args_run {pins : List (Addr × Obj)} {sh : Shared} {f : Addr} {first : List Value} {P : List V → Hp → Prop} (kp : PySem.W.keepIn X.K (.ref f) = true) (ha : KL X cls fnm T W es xs) (hs : xs.all (fun x => !starX x) = true) (hn : xs = [] → es = []) (I : Inv X pins σ H sh)
    (h : RL X cls fnm T W es σ H P) (k : ∀ us sh' vs H', Inv X pins σ H' sh' → Vals vs us → P vs H' → wpAny (model X.prog X.w) X.A (call (.ref f) (first ++ us)) (EP X pins σ Q) X.xe sh') :
    wpAny (model X.prog X.w) X.A (callWith pos (.ref f) first (backTo pos (starEach xs X.env)) []) (EP X pins σ Q) X.xe sh := by
  cases xs with
  | nil =>
    have e := hn rfl
    subst e
    obtain ⟨g, s, R1, h⟩ := h
    have p : P [] H := h g H [] R1 .refl [] rfl
    exact PySem.W.callWith_K0 I.kIn kp (k [] sh [] H I .nil p)
  | cons x xs =>
    obtain ⟨h1, h2⟩ := Bool.and_eq_true_iff.mp (show ((!starX x) && xs.all fun x => !starX x) = true from hs)
    exact PySem.W.callWith_K (h₀ := X.base) I.ok.mod.kin kp (thn (ha.run pos pins sh σ H P I h) fun us s1 ⟨vs, H1, I1, r, q⟩ => ⟨I1.kIn, k us s1 vs H1 I1 r q⟩) (starEach_plain (by simpa using h1)) (backTo_none h2)
theorem ke_call {n : Str} {k : Nat} {f : Addr} {p : Pos} (hg : Gl X n) (hm : X.mg n = some (.ref f)) (hd : (n == ("__debug__" : Str)) = false) (F : FnAt X (zx X cls fnm) (T.fn k) f) (tk : Takes X W) (hs : xs.all (fun x => !starX x) = true) (hn : xs = [] → es = [])
    (ha : KL X cls fnm T W es xs) : KE X cls fnm T W (.call k es) (.Call (.Name n p) xs [] pos) := by
  refine ⟨fun pins sh σ H Q I ⟨g, s, R1, h⟩ => ?_⟩
  unfold ev at h
  refine wpAny_Call_Name_kw (ld_glob I hg hm ?_ hd)
  refine args_run F.kp ha hs hn I (P := fun vs H1 => ∃ g s ds, Rel (zx X cls fnm) g s σ H1 ∧ IsL (zx X cls fnm) g ds vs ∧ Out (zx X cls fnm) W σ g s H1 ((T.fn k ds s.res).at s.loc) (PV (zx X cls fnm) σ Q)) (seqL R1 h fun ds vs g2 s2 H2 R2 I2 _ _ h2 => ⟨g2, s2, ds, R2, I2, h2⟩) fun us s1 vs H1 I1 r ⟨g2, s2, ds, R2, I2, h2⟩ => ?_
  exact run_call F tk I1 r R2 I2 h2
theorem cls_at {Z : Zx} {c : Nat} (hs : Rel Z g s σ H) (hc : clsD d s.res = some c) (i : Is Z g d v) : ∃ p dx ws fs, v = .ref p ∧ H p = some (.ins (Z.cls c) dx ws) ∧ IsF Z g fs ws := by
  cases d <;> first | cases hc | skip
  · obtain ⟨p, dx, ws, rfl, f1, f2⟩ := i
    exact ⟨p, dx, ws, _, rfl, hs.sub _ _ f1, f2⟩
  · rename_i k
    obtain ⟨p, rfl, f1⟩ := i
    have hc : (match s.res[k]? with | some (.ins c fs) => some c | _ => none) = some c := hc
    cases e : s.res[k]? with
    | none => rw [e] at hc; cases hc
    | some ce =>
      rw [e] at hc
      cases ce <;> first | cases hc | skip
      obtain ⟨p', e0, e1⟩ := hs.cell (.res k) _ e
      have e0 : g.rho k = some p' := e0
      rw [f1] at e0
      cases e0
      obtain ⟨_, dx, ws, h5, _, _, h6⟩ := e1
      exact ⟨p, dx, ws, _, rfl, h5, h6⟩
theorem isF_no {Z : Zx} {m : Str} (hm : ∀ k, Z.fnm k ≠ m) : ∀ {fs : List (Nat × D)} {ws : List (Str × V)}, IsF Z g fs ws → ws.lookup m = none
  | [], _, e => by cases e; rfl
  | (k, e) :: r, _, ⟨v, ws, e1, _, e3⟩ => by
    subst e1
    have hn : (m == Z.fnm k) = false := by
      cases q : (m == Z.fnm k) with
      | false => rfl
      | true => exact absurd (beq_iff_eq.mp q).symm (hm k)
    simp only [List.lookup, hn]
    exact isF_no hm e3
theorem ke_meth {m : Nat} {mn : Str} {apos : Pos} {pl : Sem Bool} (hno : ∀ k, fnm k ≠ mn) (hm : ∀ c k, T.meth c m = some k → ∃ f, Cls X.K (cls c) ∧ Meth X.K (cls c) mn f ∧ FnAt X (zx X cls fnm) (T.fn k) f) (tk : Takes X W) (hs : xs.all (fun x => !starX x) = true) (hn : xs = [] → es = [])
    (ht : eval (.Call (.Attribute x mn apos) xs [] pos) X.env = (do
      let ov ← eval x X.env
      standAt apos.atName
      let (f, first) ← holding [ov] (getMethod ov mn pl)
      callWith pos f first (backTo pos (starEach xs X.env)) (backToKw pos (keywordEach [] X.env))))
    (ho : KE X cls fnm T W a x) (ha : KL X cls fnm T W es xs) : KE X cls fnm T W (.meth a m es) (.Call (.Attribute x mn apos) xs [] pos) := by
  refine ⟨fun pins sh σ H Q I ⟨g, s, R1, h⟩ => ?_⟩
  unfold ev at h
  refine PySem.W.methodCall_KW (pl := pl) (thn (ho.run pins sh σ H (fun v H1 => ∃ g s d, Rel (zx X cls fnm) g s σ H1 ∧ Is (zx X cls fnm) g d v ∧ Out (zx X cls fnm) W σ g s H1 (match (clsD d s.res).bind fun c => T.meth c m with
    | some g => (evL T es s).bind fun ds s => (T.fn g (d :: ds) s.res).at s.loc
    | none => .bad) (PV (zx X cls fnm) σ Q)) I (seqE R1 h fun d v g2 s2 H2 R2 I2 _ _ h2 => ⟨g2, s2, d.d, R2, I2, h2⟩)) fun u s1 ⟨v, H1, I1, rv, g1, t1, d, R1, i1, h1⟩ => ?_) ht
  cases hc : clsD d t1.res with
  | none =>
    rw [hc] at h1
    exact h1.elim
  | some c =>
    rw [hc] at h1
    have h1 : Out (zx X cls fnm) W σ g1 t1 H1 (match T.meth c m with
      | some g => (evL T es t1).bind fun ds s => (T.fn g (d :: ds) s.res).at s.loc
      | none => .bad) (PV (zx X cls fnm) σ Q) := h1
    cases hm2 : T.meth c m with
    | none =>
      rw [hm2] at h1
      exact h1.elim
    | some k =>
      rw [hm2] at h1
      obtain ⟨f, C1, M1, F1⟩ := hm c k hm2
      obtain ⟨p, dx, ws, fs, rfl, e1, e2⟩ := cls_at R1 hc i1
      obtain rfl : u = Value.ref p := rv
      refine getmeth_ok I1 e1 C1 M1 (isF_no hno e2) ?_
      refine args_run M1.kp ha hs hn I1 (first := [.ref p]) (P := fun vs H2 => ∃ g s ds, Rel (zx X cls fnm) g s σ H2 ∧ IsL (zx X cls fnm) g (d :: ds) (.ref p :: vs) ∧ Out (zx X cls fnm) W σ g s H2 ((T.fn k (d :: ds) s.res).at s.loc) (PV (zx X cls fnm) σ Q)) (seqL R1 h1 fun ds vs g2 s2 H2 R2 I2 le2 _ h2 => ⟨g2, s2, ds, R2, ⟨_, _, rfl, Is.mono le2 _ _ i1, I2⟩, h2⟩) fun us s1 vs H1 I1 r ⟨g2, s2, ds, R2, I2, h2⟩ => ?_
      exact run_call F1 tk I1 (us := .ref p :: us) (vs := .ref p :: vs) (.cons rfl r) R2 I2 h2
theorem ke_prop {m : Nat} {mn : Str} (hx : baseOk x = true) (hm : ∀ c k, T.prop c m = some k → ∃ p f, Cls X.K (cls c) ∧ PropOf X.K (cls c) mn p f ∧ FnAt X (zx X cls fnm) (T.fn k) f) (ha : KE X cls fnm T W a x) : KE X cls fnm T W (.prop a m) (.Attribute x mn pos) := by
  refine ⟨fun pins sh σ H Q I ⟨g, s, R1, h⟩ => ?_⟩
  unfold ev at h
  refine attr_of (attrBase hx) (thn (ha.run pins sh σ H (fun v H1 => ∃ g s d, Rel (zx X cls fnm) g s σ H1 ∧ Is (zx X cls fnm) g d v ∧ Out (zx X cls fnm) W σ g s H1 (match (clsD d s.res).bind fun c => T.prop c m with
    | some g => getEnd s (T.fn g [d] s.res)
    | none => .bad) (PV (zx X cls fnm) σ Q)) I (seqE R1 h fun d v g2 s2 H2 R2 I2 _ _ h2 => ⟨g2, s2, d.d, R2, I2, h2⟩)) fun u s1 ⟨v, H1, I1, rv, g1, t1, d, R1, i1, h1⟩ => ?_)
  cases hc : clsD d t1.res with
  | none =>
    rw [hc] at h1
    exact h1.elim
  | some c =>
    rw [hc] at h1
    have h1 : Out (zx X cls fnm) W σ g1 t1 H1 (match T.prop c m with
      | some g => getEnd t1 (T.fn g [d] t1.res)
      | none => .bad) (PV (zx X cls fnm) σ Q) := h1
    cases hm2 : T.prop c m with
    | none =>
      rw [hm2] at h1
      exact h1.elim
    | some k =>
      rw [hm2] at h1
      have h1 : Out (zx X cls fnm) W σ g1 t1 H1 (getEnd t1 (T.fn k [d] t1.res)) (PV (zx X cls fnm) σ Q) := h1
      obtain ⟨p0, f, C1, P1, F1⟩ := hm c k hm2
      obtain ⟨p, dx, ws, fs, rfl, e1, e2⟩ := cls_at R1 hc i1
      obtain rfl : u = Value.ref p := rv
      obtain ⟨n, fd, ps, lv, F1', hr, hb, har⟩ := F1.fn
      refine getprop_ok (E := fun _ _ _ => False) I1 e1 C1 P1 F1' hr hb .nil (fun pins σ H s e s' _ ⟨_, _, _, _, _, _, _, _, _, _, _, _, z⟩ => z.elim) ?_
      have il : IsL (zx X cls fnm) g1 [d] [.ref p] := ⟨_, _, rfl, i1, rfl⟩
      have hl : ([d] : List D).length = n := by
        by_cases k' : ([d] : List D).length = n
        · exact k'
        · rw [har [d] _ k'] at h1
          exact h1.elim
      refine ⟨hl, g1, t1.res, [d], R1.rs, il, ?_⟩
      cases e : T.fn k [d] t1.res with
      | ok x res' =>
        rw [e] at h1
        intro v g' H' ex R' F' V'
        obtain ⟨R2, F2, far⟩ := R1.back R' F'
        exact h1 g' H' ex R2 F2 v (V'.lift far)
      | exc c fs res' =>
        rw [e] at h1
        exact h1.elim
      | bad =>
        rw [e] at h1
        exact h1.elim
mutual
theorem Is.nores {Z : Zx} {r : Nat → Option Addr} : ∀ (d : D) (v : V), d.nores = true → Is Z g d v → Is Z ⟨g.F, r⟩ d v
  | .non, _, _, e => e
  | .bl _, _, _, e => e
  | .int _, _, _, e => e
  | .str _, _, _, e => e
  | .tup l, _, h, ⟨a, vs, e1, e2, e3⟩ => ⟨a, vs, e1, e2, IsL.nores l vs h e3⟩
  | .lst l, _, h, ⟨a, vs, e1, e2, e4, e3⟩ => ⟨a, vs, e1, e2, e4, IsL.nores l vs h e3⟩
  | .dct l, _, h, ⟨a, vs, e1, e2, e3⟩ => ⟨a, vs, e1, e2, IsD.nores l vs h e3⟩
  | .kdc l, _, h, ⟨a, vs, e1, e2, e3⟩ => ⟨a, vs, e1, e2, IsD.nores l vs h e3⟩
  | .obj _ fs, _, h, ⟨a, dx, ws, e1, e2, e3⟩ => ⟨a, dx, ws, e1, e2, IsF.nores fs ws h e3⟩
  | .res j, _, h, _ => by cases h
  | .scr ns, _, _, ⟨a, e1, e2⟩ => ⟨a, e1, e2⟩
theorem IsL.nores {Z : Zx} {r : Nat → Option Addr} : ∀ (l : List D) (vs : List V), noresL l = true → IsL Z g l vs → IsL Z ⟨g.F, r⟩ l vs
  | [], _, _, e => e
  | d :: t, _, h, ⟨v, ws, e1, e2, e3⟩ => ⟨v, ws, e1, Is.nores d v (Bool.and_eq_true_iff.mp (show (d.nores && noresL t) = true from h)).1 e2, IsL.nores t ws (Bool.and_eq_true_iff.mp (show (d.nores && noresL t) = true from h)).2 e3⟩
theorem IsD.nores {Z : Zx} {r : Nat → Option Addr} : ∀ (l : List (D × D)) (vs : List (Key × V)), noresD l = true → IsD Z g l vs → IsD Z ⟨g.F, r⟩ l vs
  | [], _, _, e => e
  | (c, d) :: t, _, h, ⟨q, v, ws, e1, e0, e2, e3⟩ => ⟨q, v, ws, e1, e0, Is.nores d v (Bool.and_eq_true_iff.mp (show (d.nores && noresD t) = true from h)).1 e2, IsD.nores t ws (Bool.and_eq_true_iff.mp (show (d.nores && noresD t) = true from h)).2 e3⟩
theorem IsF.nores {Z : Zx} {r : Nat → Option Addr} : ∀ (l : List (Nat × D)) (vs : List (Str × V)), noresF l = true → IsF Z g l vs → IsF Z ⟨g.F, r⟩ l vs
  | [], _, _, e => e
  | (c, d) :: t, _, h, ⟨v, ws, e1, e2, e3⟩ => ⟨v, ws, e1, Is.nores d v (Bool.and_eq_true_iff.mp (show (d.nores && noresF t) = true from h)).1 e2, IsF.nores t ws (Bool.and_eq_true_iff.mp (show (d.nores && noresF t) = true from h)).2 e3⟩
end
theorem Rel.wide {Z : Zx} {H' F' : Hp} (r : Rel Z g s σ H) (le : ∀ a o, g.F a = some o → ∃ o', F' a = some o' ∧ Sm o o') (sub : ∀ a o, F' a = some o → H' a = some o) (keep : ∀ a o, H a = some o → H' a = some o ∨ (g.F a ≠ none ∧ ∃ o', H' a = some o' ∧ Sm o o')) (fnew : ∀ a, H a ≠ none → g.F a = none → F' a = none) :
    Rel Z ⟨F', g.rho⟩ s σ H' ∧ Fr σ σ g s H ⟨F', g.rho⟩ s H' [] := by
  have L : g.Le ⟨F', g.rho⟩ := ⟨le, fun _ _ e => e⟩
  have pe : ∀ q, padr (⟨F', g.rho⟩ : Gh) σ q = padr g σ q := fun q => by cases q <;> rfl
  have same : ∀ q c p, s.cell q = some c → padr g σ q = some p → CellAt Z g H p c ∧ ∀ a ∈ foot H p c, H' a = H a := fun q c p h1 h2 => by
    obtain ⟨p', e1, e2⟩ := r.cell q c h1
    rw [h2] at e1
    cases e1
    refine ⟨e2, fun a ha => ?_⟩
    obtain ⟨o, e⟩ := Option.ne_none_iff_exists'.mp (e2.none_foot a ha).2
    rw [e]
    exact (keep a o e).elim id fun z => absurd (e2.none_foot a ha).1 z.1
  have oe : ∀ a, Own ⟨F', g.rho⟩ s σ H' a → Own g s σ H a := fun a ⟨q, c, p, h1, h2, h3⟩ => by
    rw [pe] at h2
    rw [foot_eq (same q c p h1 h2).2] at h3
    exact ⟨q, c, p, h1, h2, h3⟩
  refine ⟨⟨sub, fun i d h => ?_, fun q c h => ?_, fun q q' c c' p p' ne h1 h2 h3 h4 a ha hb => ?_, r.len, r.rdom⟩, ⟨L, fun a o e _ => keep a o e, fun a h _ f => fnew a h f, fun a h => .inr (h.elim (oe a) fun z => nomatch z), fun a h => ?_, Nat.le_refl _⟩⟩
  · obtain ⟨v, h1, h2⟩ := r.fz i d h
    exact ⟨v, h1, h2.mono L⟩
  · obtain ⟨p, e1, e2⟩ := r.cell q c h
    exact ⟨p, by rw [pe]; exact e1, e2.move L (same q c p h e1).2 fun a ha => fnew a (e2.none_foot a ha).2 (e2.none_foot a ha).1⟩
  · rw [pe] at h3 h4
    rw [foot_eq (same q c p h1 h3).2] at ha
    rw [foot_eq (same q' c' p' h2 h4).2] at hb
    exact r.apart q q' c c' p p' ne h1 h2 h3 h4 a ha hb
  · cases e : H a with
    | none => rfl
    | some o =>
      rcases keep a o e with q | ⟨_, _, q, _⟩
      · rw [q] at h
        cases h
      · rw [q] at h
        cases h
def Gh.reg (g : Gh) (n : Nat) (p : Addr) : Gh := ⟨g.F, fun k => if k = n then some p else g.rho k⟩
theorem Gh.reg_le {n : Nat} {p : Addr} (h : g.rho n = none) : g.Le (g.reg n p) := ⟨fun _ o e => ⟨o, e, .refl o⟩, fun k a e => by
  show (if k = n then some p else g.rho k) = some a
  rw [if_neg (fun z => by subst z; rw [h] at e; cases e)]
  exact e⟩
theorem Rel.addR {Z : Zx} {p : Addr} {c : Cell} (r : Rel Z g s σ H) (hc : CellAt Z g H p c) (hno : ∀ a ∈ foot H p c, ¬ Own g s σ H a) :
    Rel Z (g.reg s.res.length p) { s with res := s.res ++ [c] } σ H ∧ g.Le (g.reg s.res.length p) ∧ ∀ a, Own (g.reg s.res.length p) { s with res := s.res ++ [c] } σ H a → Own g s σ H a ∨ a ∈ foot H p c := by
  have hn : g.rho s.res.length = none := by
    cases e : g.rho s.res.length with
    | none => rfl
    | some q => exact absurd (r.rdom _ _ e) (Nat.lt_irrefl _)
  have L := Gh.reg_le (p := p) hn
  have cs : ∀ q c', S.cell { s with res := s.res ++ [c] } q = some c' → (s.cell q = some c' ∧ padr (g.reg s.res.length p) σ q = padr g σ q) ∨ (q = .res s.res.length ∧ c' = c) := fun q c' h => by
    cases q with
    | loc i => exact .inl ⟨h, rfl⟩
    | res k =>
      have h : (s.res ++ [c])[k]? = some c' := h
      by_cases hk : k < s.res.length
      · rw [List.getElem?_append_left hk] at h
        exact .inl ⟨h, if_neg (Nat.ne_of_lt hk)⟩
      · rw [List.getElem?_append_right (Nat.le_of_not_lt hk)] at h
        cases e : k - s.res.length with
        | zero =>
          rw [e] at h
          have : k = s.res.length := by omega
          exact .inr ⟨by rw [this], by simpa using h.symm⟩
        | succ m =>
          rw [e] at h
          simp at h
  have pn : padr (g.reg s.res.length p) σ (.res s.res.length) = some p := if_pos rfl
  have up : ∀ q c', CellAt Z g H q c' → CellAt Z (g.reg s.res.length p) H q c' := fun q c' h => h.move L (fun _ _ => rfl) fun a ha => (h.none_foot a ha).1
  refine ⟨⟨r.sub, fun i d h => ?_, fun q c' h => ?_, fun q q' c1 c2 p1 p2 ne h1 h2 h3 h4 a ha hb => ?_, r.len, fun k q h => ?_⟩, L, fun a ⟨q, c', x, h1, h2, h3⟩ => ?_⟩
  · obtain ⟨v, h1, h2⟩ := r.fz i d h
    exact ⟨v, h1, h2.mono L⟩
  · rcases cs q c' h with ⟨h1, h2⟩ | ⟨rfl, rfl⟩
    · obtain ⟨x, e1, e2⟩ := r.cell q c' h1
      exact ⟨x, by rw [h2]; exact e1, up _ _ e2⟩
    · exact ⟨p, pn, up _ _ hc⟩
  · rcases cs q c1 h1 with ⟨k1, k2⟩ | ⟨rfl, rfl⟩
    · rw [k2] at h3
      rcases cs q' c2 h2 with ⟨k3, k4⟩ | ⟨rfl, rfl⟩
      · rw [k4] at h4
        exact r.apart q q' c1 c2 p1 p2 ne k1 k3 h3 h4 a ha hb
      · rw [pn] at h4
        cases h4
        exact hno a hb ⟨q, c1, p1, k1, h3, ha⟩
    · rw [pn] at h3
      cases h3
      rcases cs q' c2 h2 with ⟨k3, k4⟩ | ⟨rfl, rfl⟩
      · rw [k4] at h4
        exact hno a ha ⟨q', c2, p2, k3, h4, hb⟩
      · exact ne rfl
  · show k < (s.res ++ [c]).length
    rw [List.length_append]
    have h : (if k = s.res.length then some p else g.rho k) = some q := h
    by_cases e : k = s.res.length
    · rw [e]
      exact Nat.lt_succ_self _
    · rw [if_neg e] at h
      exact Nat.lt_of_lt_of_le (r.rdom _ _ h) (Nat.le_add_right _ _)
  · rcases cs q c' h1 with ⟨k1, k2⟩ | ⟨rfl, rfl⟩
    · rw [k2] at h2
      exact .inl ⟨q, c', x, k1, h2, h3⟩
    · rw [pn] at h2
      cases h2
      exact .inr h3
theorem VR.place {Z : Zx} {σ1 : L2.St} {g1 : Gh} {s1 : S} {H1 : Hp} {c : Cell} {ex : List Addr} (h : VR Z g1 s1 σ1 H1 (.ow c) v ex) (r : Rel Z g1 s1 σ1 H1) (F : Fr σ σ1 g s H g1 s1 H1 ex) :
    ∃ g2, Rel Z g2 { s1 with res := s1.res ++ [c] } σ1 H1 ∧ Fr σ σ1 g s H g2 { s1 with res := s1.res ++ [c] } H1 [] ∧ Is Z g2 (.res s1.res.length) v := by
  obtain ⟨p, rfl, hc, rfl, ho, hl⟩ := h
  obtain ⟨R2, L2, ow⟩ := r.addR hc ho
  refine ⟨_, R2, ⟨F.le.trans L2, F.keep, F.fnew, fun a ha => ?_, F.mono, Nat.le_trans F.rl (by simp)⟩, p, rfl, if_pos rfl⟩
  rcases ha with ha | ha
  · exact (ow a ha).elim (fun z => F.own a (.inl z)) fun z => F.own a (.inr z)
  · cases ha
theorem ke_place (ha : KE X cls fnm T W a x) : KE X cls fnm T W (.place a) x := by
  refine PE.weak ha fun σ H Q ⟨g, s, R1, h⟩ => ⟨g, s, R1, ?_⟩
  unfold ev at h
  refine h.bind.mono fun x g1 s1 H1 ex R' F' q v V => ?_
  cases x with
  | xc _ _ => exact q.elim
  | fz d => exact q.elim
  | ow c =>
    obtain ⟨g2, R2, F2, I2⟩ := V.place R' F'
    exact q g2 H1 [] R2 F2 v ⟨I2, rfl⟩
theorem Rel.allocI {Z : Zx} {x dx : Addr} {c : Nat} (r : Rel Z g s σ H) (hx : H x = none) (hd : H dx = none) (ne : dx ≠ x) :
    Rel Z (g.reg s.res.length x) { s with res := s.res ++ [.ins c []] } σ (upd (upd H dx (.own x)) x (.ins (Z.cls c) dx [])) ∧
      Fr σ σ g s H (g.reg s.res.length x) { s with res := s.res ++ [.ins c []] } (upd (upd H dx (.own x)) x (.ins (Z.cls c) dx [])) [] := by
  obtain ⟨r1, o1⟩ := r.alloc (o := .own x) hd
  have hx2 : upd H dx (.own x) x = none := by rw [upd_ne (Ne.symm ne)]; exact hx
  obtain ⟨r2, o2⟩ := r1.alloc (o := .ins (Z.cls c) dx []) hx2
  have e1 : upd (upd H dx (.own x)) x (.ins (Z.cls c) dx []) x = some (.ins (Z.cls c) dx []) := upd_same
  have e2 : upd (upd H dx (.own x)) x (.ins (Z.cls c) dx []) dx = some (.own x) := by rw [upd_ne ne]; exact upd_same
  have ft : foot (upd (upd H dx (.own x)) x (.ins (Z.cls c) dx [])) x (.ins c []) = [x, dx] := by
    unfold foot
    rw [e1]
    rfl
  obtain ⟨f1, n1⟩ := r.free hx
  obtain ⟨f2, n2⟩ := r.free hd
  have hc : CellAt Z g (upd (upd H dx (.own x)) x (.ins (Z.cls c) dx [])) x (.ins c []) := ⟨f1, dx, [], e1, e2, f2, rfl⟩
  have hno : ∀ a ∈ foot (upd (upd H dx (.own x)) x (.ins (Z.cls c) dx [])) x (.ins c []), ¬ Own g s σ (upd (upd H dx (.own x)) x (.ins (Z.cls c) dx [])) a := fun a ha h => by
    rw [ft] at ha
    have h9 := (o1 a).mp ((o2 a).mp h)
    rcases List.mem_cons.mp ha with rfl | ha
    · exact n1 h9
    · rcases List.mem_cons.mp ha with rfl | ha
      · exact n2 h9
      · cases ha
  obtain ⟨R2, L2, ow⟩ := r2.addR hc hno
  refine ⟨R2, ⟨L2, fun a o e _ => .inl ?_, fun a _ _ f => f, fun a ha => ?_, fun a ha => mono_upd a (mono_upd a ha), by simp⟩⟩
  · rw [upd_ne (ne_of_none e hx), upd_ne (ne_of_none e hd)]
    exact e
  · rcases ha with ha | ha
    · rcases ow a ha with z | z
      · exact .inr ((o1 a).mp ((o2 a).mp z))
      · rw [ft] at z
        rcases List.mem_cons.mp z with rfl | z
        · exact .inl hx
        · rcases List.mem_cons.mp z with rfl | z
          · exact .inl hd
          · cases z
    · cases ha
structure NewAt (X : Cx) (Z : Zx) (f : FS) (C : Addr) : Prop where
  fn : ∃ a n fd ps k, Mk X.K C a ∧ FnOk X.prog X.w X.K X.mg X.base (L2.CX X.prog X.w) k a fd ps (spF Z f n) ∧ Room (k + 1) X.A ∧ Binds X.K fd ps [] ∧ ∀ ds res, ds.length ≠ n → f ds res = .bad
theorem run_mk {pins : List (Addr × Obj)} {sh : Shared} {C f : Addr} {fd : FuncData} {ps : List Str} {k : Nat} {sp : Sp} {us : List Value} {vs : List V} (M : Mk X.K C f) (F : FnOk X.prog X.w X.K X.mg X.base (L2.CX X.prog X.w) k f fd ps sp) (hr : Room (k + 1) X.A) (hb : Binds X.K fd ps []) (tk : Takes X W)
    (I : Inv X pins σ H sh) (r : Vals vs us) (h : ∀ x dx, H x = none → H dx = none → dx ≠ x → sp (.ref x :: vs) (upd (upd H dx (.own x)) x (.ins C dx [])) (fun v H2 => v = .non ∧ Q (.ref x) H2) (WE W σ)) :
    wpAny (model X.prog X.w) X.A (call (.ref C) us) (EP X pins σ Q) X.xe sh := by
  have I2 := Inv.made (C := C) I
  have hq := h (sh.heap.objs.size + 1) sh.heap.objs.size (I.hok.fresh (Nat.le_succ _)) (I.hok.fresh (Nat.le_refl _)) (Nat.ne_of_lt (Nat.lt_succ_self _))
  have r2 : Vals (V.ref (sh.heap.objs.size + 1) :: vs) (Value.ref (sh.heap.objs.size + 1) :: us) := .cons rfl r
  have hl : (Value.ref (sh.heap.objs.size + 1) :: us).length = ps.length := r2.length.symm.trans (F.len _ _ _ _ hq)
  have b := hb _ (Value.ref (sh.heap.objs.size + 1) :: us) I2.kIn (by rw [List.append_nil]; exact hl)
  rw [List.append_nil] at b
  have go := F.run _ X.stack _ _ ⟨Value.ref (sh.heap.objs.size + 1) :: us, []⟩ (Value.ref (sh.heap.objs.size + 1) :: us) _ _ (WE W σ) (hr.make C us []) (I2.env0.make C us []) b r2 hq
  refine wpAny_call (make_map (f := f) I.kIn M.makes M.init (beq_iff_eq.mp M.fn) (codeAny_mono go fun res t hq' => ?_))
  rcases res with e | fl
  · exact passAt tk σ pins _ _ e t I2 hq'
  · cases fl <;> first | exact False.elim hq' | skip
    obtain ⟨v, H', I3, rv, ev, q3⟩ := I2.after hq'
    subst ev
    exact ⟨rv, .ref (sh.heap.objs.size + 1), H', I3, rfl, q3⟩
theorem newVal_inv {Z : Zx} {y : Sl} {res : List Cell} {P : Sl → Gh → S → Hp → List Addr → Prop} (h : Out Z W σ g s H (newVal s (.ok y res)) P) : ∃ c fs, y = .fz .non ∧ res = [.ins c fs] ∧ noresF fs = true ∧ Out Z W σ g s H (.ok (.fz (.obj c fs)) s) P := by
  unfold newVal at h
  split at h
  · rename_i c fs e
    cases e
    by_cases k : noresF fs = true
    · rw [if_pos k] at h
      exact ⟨c, fs, rfl, rfl, k, h⟩
    · rw [if_neg k] at h
      exact h.elim
  · rename_i e
    cases e
  · exact h.elim
theorem newEnd_inv {Z : Zx} {y : Sl} {res : List Cell} {k : Nat} {loc : List (Option Sl)} {P : Sl → Gh → S → Hp → List Addr → Prop} (h : Out Z W σ g s H (newEnd k loc (.ok y res)) P) : y = .fz .non ∧ Out Z W σ g s H (.ok (.fz (.res k)) ⟨loc, res⟩) P := by
  unfold newEnd at h
  split at h
  · rename_i e
    cases e
    exact ⟨rfl, h⟩
  · exact h.elim
  · rename_i e
    cases e
  · exact h.elim
theorem new_ok {Z : Zx} {c n : Nat} {f : FS} {ds : List D} {vs : List V} {x dx : Addr} {val : Bool} (har : ∀ ds res, ds.length ≠ n → f ds res = .bad) (R1 : Rel Z g s σ H) (I : IsL Z g ds vs) (hx : H x = none) (hd : H dx = none) (ne : dx ≠ x)
    (h : Out Z W σ g s H (if val then (if noresL ds then newVal s (f (.res 0 :: ds) [.ins c []]) else .bad) else newEnd s.res.length s.loc (f (.res s.res.length :: ds) (s.res ++ [.ins c []]))) (PV Z σ Q)) :
    spF Z f n (.ref x :: vs) (upd (upd H dx (.own x)) x (.ins (Z.cls c) dx [])) (fun v H2 => v = .non ∧ Q (.ref x) H2) (WE W σ) := by
  cases val with
  | true =>
    have h : Out Z W σ g s H (if noresL ds then newVal s (f (.res 0 :: ds) [.ins c []]) else .bad) (PV Z σ Q) := h
    by_cases hn : noresL ds = true
    · rw [if_pos hn] at h
      -- the callee's view: one place
      let g0 : Gh := ⟨g.F, fun _ => none⟩
      have r0 : Rel Z g0 ⟨[], []⟩ [] H := ⟨R1.sub, fun i d h => by simp at h, fun q c h => by cases q <;> simp [S.cell] at h, fun q q' c c' p p' _ h => by cases q <;> simp [S.cell] at h, rfl, fun k p h => nomatch h⟩
      obtain ⟨r1, F1⟩ := r0.allocI (c := c) hx hd ne
      have no0 : ∀ a, ¬ Own g0 ⟨[], []⟩ [] H a := fun a ⟨q, c, p, h, _⟩ => by cases q <;> simp [S.cell] at h
      have i0 : Is Z (g0.reg 0 x) (.res 0) (.ref x) := ⟨x, rfl, by show (if 0 = 0 then some x else none) = some x; rfl⟩
      have il : IsL Z (g0.reg 0 x) (.res 0 :: ds) (.ref x :: vs) := ⟨_, _, rfl, i0, IsL.nores (g := g) ds vs hn I⟩
      have hl : (.res 0 :: ds : List D).length = n := by
        by_cases k' : (.res 0 :: ds : List D).length = n
        · exact k'
        · rw [har _ _ k'] at h
          exact h.elim
      refine ⟨by rw [isL_len il]; exact hl, g0.reg 0 x, [.ins c []], .res 0 :: ds, r1, il, ?_⟩
      cases e : f (.res 0 :: ds) [.ins c []] with
      | bad =>
        rw [e] at h
        exact h.elim
      | exc k fs res =>
        rw [e] at h
        intro g' H' cls d R' F' X'
        have h : Out Z W σ g s H (if noresF fs then R.exc k fs s else .bad) (PV Z σ Q) := h
        by_cases hf : noresF fs = true
        · rw [if_pos hf] at h
          have F2 := F1.trans F'
          obtain ⟨R3, F3⟩ := R1.wide (F' := g'.F) (H' := H') F2.le.F R'.sub (fun a o e => F2.keep a o e (no0 a)) (fun a h f => F2.fnew a h (no0 a) f)
          refine h _ H' cls d R3 F3 ⟨X'.1, ?_⟩
          rcases X'.2 with z | ⟨dd, ws, z1, z2, z3⟩
          · exact .inl z
          · exact .inr ⟨dd, ws, z1, z2, IsF.nores fs ws hf z3⟩
        · rw [if_neg hf] at h
          exact h.elim
      | ok y res =>
        rw [e] at h
        intro v g' H' ex R' F' V'
        obtain ⟨c', fs, rfl, rfl, hf, h⟩ := newVal_inv h
        have F2 := F1.trans F'
        obtain ⟨p, e1, h0, dx', ws, e2, e3, e4, e5⟩ := R'.cell (.res 0) (.ins c' fs) rfl
        have e1 : g'.rho 0 = some p := e1
        have e6 : g'.rho 0 = some x := F'.le.rho 0 x (by show (if 0 = 0 then some x else none) = some x; rfl)
        rw [e1] at e6
        cases e6
        obtain ⟨R3, F3⟩ := R1.wide (F' := upd g'.F x (.ins (Z.cls c') dx' ws)) (H' := H') (fun a o e => by
          obtain ⟨o', q, m⟩ := F2.le.F a o e
          refine ⟨o', ?_, m⟩
          rw [upd_ne (ne_of_none q h0)]
          exact q) (fun a o e => by
          by_cases k : a = x
          · subst k
            rw [upd_same] at e
            rw [e2]
            exact e
          · rw [upd_ne k] at e
            exact R'.sub a o e) (fun a o e => F2.keep a o e (no0 a)) (fun a h f => by
          rw [upd_ne (fun k => h (by rw [k]; exact hx))]
          exact F2.fnew a h (no0 a) f)
        have hv : v = .non := V'.1
        refine ⟨hv, h _ H' [] R3 F3 (.ref x) ⟨⟨x, dx', ws, rfl, upd_same, ?_⟩, rfl⟩⟩
        have j := IsF.nores (r := g.rho) fs ws hf e5
        exact IsF.mono (g := ⟨g'.F, g.rho⟩) (g' := ⟨upd g'.F x (.ins (Z.cls c') dx' ws), g.rho⟩) ⟨fun a o e => ⟨o, by
          show upd g'.F x _ a = some o
          have e : g'.F a = some o := e
          rw [upd_ne (ne_of_none e h0)]
          exact e, .refl o⟩, fun _ _ e => e⟩ _ _ j
    · rw [if_neg hn] at h
      exact h.elim
  | false =>
    have h : Out Z W σ g s H (newEnd s.res.length s.loc (f (.res s.res.length :: ds) (s.res ++ [.ins c []]))) (PV Z σ Q) := h
    obtain ⟨r1, F1⟩ := R1.rs.allocI (c := c) hx hd ne
    have r1 : Rel Z (g.reg s.res.length x) ⟨[], s.res ++ [.ins c []]⟩ [] (upd (upd H dx (.own x)) x (.ins (Z.cls c) dx [])) := r1
    have F1 : Fr [] [] g s.rs H (g.reg s.res.length x) ⟨[], s.res ++ [.ins c []]⟩ (upd (upd H dx (.own x)) x (.ins (Z.cls c) dx [])) [] := F1
    have hn : g.rho s.res.length = none := by
      cases e : g.rho s.res.length with
      | none => rfl
      | some q => exact absurd (R1.rdom _ _ e) (Nat.lt_irrefl _)
    have i0 : Is Z (g.reg s.res.length x) (.res s.res.length) (.ref x) := ⟨x, rfl, by show (if s.res.length = s.res.length then some x else g.rho s.res.length) = some x; rw [if_pos rfl]⟩
    have il : IsL Z (g.reg s.res.length x) (.res s.res.length :: ds) (.ref x :: vs) := ⟨_, _, rfl, i0, IsL.mono (Gh.reg_le hn) _ _ I⟩
    have hl : (.res s.res.length :: ds : List D).length = n := by
      by_cases k' : (.res s.res.length :: ds : List D).length = n
      · exact k'
      · rw [har _ _ k'] at h
        exact h.elim
    refine ⟨by rw [isL_len il]; exact hl, g.reg s.res.length x, s.res ++ [.ins c []], _, r1, il, ?_⟩
    cases e : f (.res s.res.length :: ds) (s.res ++ [.ins c []]) with
    | bad =>
      rw [e] at h
      exact h.elim
    | exc k fs res =>
      rw [e] at h
      intro g' H' cls d R' F' X'
      obtain ⟨R2, F2, _⟩ := R1.back R' (F1.trans F')
      exact h g' H' cls d R2 F2 X'
    | ok y res =>
      rw [e] at h
      intro v g' H' ex R' F' V'
      obtain ⟨rfl, h⟩ := newEnd_inv h
      obtain ⟨R2, F2, _⟩ := R1.back R' (F1.trans F')
      exact ⟨V'.1, h g' H' ex R2 F2 (.ref x) ⟨⟨x, rfl, F'.le.rho _ _ (by show (if s.res.length = s.res.length then some x else g.rho s.res.length) = some x; rw [if_pos rfl])⟩, V'.2⟩⟩
theorem ke_new {nm : Str} {c : Nat} {p : Pos} (hg : Gl X nm) (hm : X.mg nm = some (.ref (cls c))) (hd : (nm == ("__debug__" : Str)) = false) (hk : ∀ k, T.init c = some k → NewAt X (zx X cls fnm) (T.fn k) (cls c)) (tk : Takes X W) (kp : PySem.W.keepIn X.K (.ref (cls c)) = true) (hs : xs.all (fun x => !starX x) = true) (hn : xs = [] → es = [])
    (ha : KL X cls fnm T W es xs) : KE X cls fnm T W (.new c es) (.Call (.Name nm p) xs [] pos) := by
  refine ⟨fun pins sh σ H Q I ⟨g, s, R1, h⟩ => ?_⟩
  unfold ev at h
  refine wpAny_Call_Name_kw (ld_glob I hg hm ?_ hd)
  cases hi : T.init c with
  | none =>
    refine args_run kp ha hs hn I (P := fun _ _ => False) (seqL R1 h fun ds vs g2 s2 H2 R2 I2 _ _ h2 => ?_) fun _ _ _ _ _ _ z => z.elim
    rw [hi] at h2
    exact h2.elim
  | some k =>
    obtain ⟨a, n, fd, ps, lv, M1, F1, hr, hb, har⟩ := (hk k hi).fn
    refine args_run kp ha hs hn I (P := fun vs H1 => ∃ g s ds, Rel (zx X cls fnm) g s σ H1 ∧ IsL (zx X cls fnm) g ds vs ∧ Out (zx X cls fnm) W σ g s H1 (if T.val c then (if noresL ds then newVal s (T.fn k (.res 0 :: ds) [.ins c []]) else .bad) else newEnd s.res.length s.loc (T.fn k (.res s.res.length :: ds) (s.res ++ [.ins c []]))) (PV (zx X cls fnm) σ Q)) (seqL R1 h fun ds vs g2 s2 H2 R2 I2 _ _ h2 => ⟨g2, s2, ds, R2, I2, by rw [hi] at h2; exact h2⟩) fun us s1 vs H1 I1 r ⟨g2, s2, ds, R2, I2, h2⟩ => ?_
    exact run_mk M1 F1 hr hb tk I1 r fun x dx hx hd ne => new_ok har R2 I2 hx hd ne h2
end
end Pm
namespace Pm
open PySem PySem.Spec PyProof.Rows L2
open PySem.W (Frag)
section
variable {X : Cx} {cls : Nat → Addr} {fnm : Fnm} {T : Tab} {W : WX} {a b c : E} {x y z : Expr} {pos : Pos} {es : List E} {xs : List Expr}
variable {Z : Zx} {g g' g1 g2 : Gh} {s s' s1 s2 : S} {σ σ' σ1 σ2 : L2.St} {H H' H1 H2 : Hp} {d e : D} {v u : V} {Q : VK}
theorem cell_setF {i : Nat} {q : Pl} {c : Cell} (h : S.cell { s with loc := s.loc.set i (some (.fz d)) } q = some c) : s.cell q = some c ∧ q ≠ .loc i := by
  cases q with
  | res k => exact ⟨h, by simp⟩
  | loc j =>
    have h : (match (s.loc.set i (some (Sl.fz d)))[j]? with
      | some (some (.ow c)) => some c
      | _ => none) = some c := h
    by_cases e : i = j
    · subst e
      by_cases hl : i < s.loc.length
      · rw [List.getElem?_set_self hl] at h
        cases h
      · rw [List.getElem?_eq_none (by simpa using hl)] at h
        cases h
    · rw [List.getElem?_set_ne e] at h
      exact ⟨h, fun z => e (by cases z; rfl)⟩
theorem padr_set {i : Nat} {o : Option V} {q : Pl} (h : q ≠ .loc i) : padr g (σ.set i o) q = padr g σ q := by
  cases q with
  | res k => rfl
  | loc j =>
    have e : i ≠ j := fun z => h (by rw [z])
    show (match (σ.set i o)[j]? with
      | some (some (.ref p)) => some p
      | _ => none) = _
    rw [List.getElem?_set_ne e]
    rfl
theorem Rel.setF (R1 : Rel Z g s σ H) (i : Nat) (h : Is Z g d v) : Rel Z g { s with loc := s.loc.set i (some (.fz d)) } (σ.set i (some v)) H ∧ ∀ a, Own g { s with loc := s.loc.set i (some (.fz d)) } (σ.set i (some v)) H a → Own g s σ H a := by
  refine ⟨⟨R1.sub, fun j e hj => ?_, fun q c hq => ?_, fun q q' c c' p p' ne h1 h2 h3 h4 => ?_, ?_, R1.rdom⟩, fun a ⟨q, c, p, h1, h2, h3⟩ => ?_⟩
  · have hj : (s.loc.set i (some (Sl.fz d)))[j]? = some (some e) := hj
    by_cases k : i = j
    · subst k
      have hl : i < s.loc.length := by
        have := (List.getElem?_eq_some_iff.mp hj).1
        simpa using this
      rw [List.getElem?_set_self hl] at hj
      cases hj
      exact ⟨v, List.getElem?_set_self (by rw [← R1.len]; exact hl), h⟩
    · rw [List.getElem?_set_ne k] at hj
      obtain ⟨w, e1, e2⟩ := R1.fz j e hj
      exact ⟨w, by rw [List.getElem?_set_ne k]; exact e1, e2⟩
  · obtain ⟨h1, h2⟩ := cell_setF hq
    obtain ⟨p, e1, e2⟩ := R1.cell q c h1
    exact ⟨p, by rw [padr_set h2]; exact e1, e2⟩
  · obtain ⟨k1, n1⟩ := cell_setF h1
    obtain ⟨k2, n2⟩ := cell_setF h2
    rw [padr_set n1] at h3
    rw [padr_set n2] at h4
    exact R1.apart q q' c c' p p' ne k1 k2 h3 h4
  · show (s.loc.set i _).length = (σ.set i _).length
    rw [List.length_set, List.length_set]
    exact R1.len
  · obtain ⟨k1, n1⟩ := cell_setF h1
    rw [padr_set n1] at h2
    exact ⟨q, c, p, k1, h2, h3⟩
theorem Rel.setV {x : Sl} {ex : List Addr} (R1 : Rel Z g s σ H) (i : Nat) (hi : i < s.loc.length) (h : VR Z g s σ H x v ex) : Rel Z g { s with loc := s.loc.set i (some x) } (σ.set i (some v)) H ∧ ∀ a, Own g { s with loc := s.loc.set i (some x) } (σ.set i (some v)) H a → Own g s σ H a ∨ a ∈ ex := by
  cases x with
  | xc _ _ => exact h.elim
  | fz d =>
    obtain ⟨h1, h2⟩ := R1.setF i h.1
    exact ⟨h1, fun a ha => .inl (h2 a ha)⟩
  | ow c =>
    obtain ⟨p, rfl, hc, rfl, ho, hl⟩ := h
    have hs : (s.loc.set i (some (Sl.ow c)))[i]? = some (some (.ow c)) := List.getElem?_set_self hi
    have hσ : (σ.set i (some (V.ref p)))[i]? = some (some (.ref p)) := List.getElem?_set_self (by rw [← R1.len]; exact hi)
    have pa : padr g (σ.set i (some (V.ref p))) (.loc i) = some p := by
      show (match (σ.set i (some (V.ref p)))[i]? with
        | some (some (.ref p)) => some p
        | _ => none) = _
      rw [hσ]
    have ce : ∀ q c', S.cell { s with loc := s.loc.set i (some (.ow c)) } q = some c' → (q = .loc i ∧ c' = c) ∨ (s.cell q = some c' ∧ q ≠ .loc i) := fun q c' hq => by
      cases q with
      | res k => exact .inr ⟨hq, by simp⟩
      | loc j =>
        have hq : (match (s.loc.set i (some (Sl.ow c)))[j]? with
          | some (some (.ow c)) => some c
          | _ => none) = some c' := hq
        by_cases e : i = j
        · subst e
          rw [hs] at hq
          cases hq
          exact .inl ⟨rfl, rfl⟩
        · rw [List.getElem?_set_ne e] at hq
          exact .inr ⟨hq, fun z => e (by cases z; rfl)⟩
    refine ⟨⟨R1.sub, fun j e hj => ?_, fun q c' hq => ?_, fun q q' c1 c2 p1 p2 ne h1 h2 h3 h4 a ha hb => ?_, ?_, R1.rdom⟩, fun a ⟨q, c', p', h1, h2, h3⟩ => ?_⟩
    · have hj : (s.loc.set i (some (Sl.ow c)))[j]? = some (some e) := hj
      by_cases k : i = j
      · subst k
        rw [hs] at hj
        cases hj
        exact ⟨_, hσ, trivial⟩
      · rw [List.getElem?_set_ne k] at hj
        obtain ⟨w, e1, e2⟩ := R1.fz j e hj
        exact ⟨w, by rw [List.getElem?_set_ne k]; exact e1, e2⟩
    · rcases ce q c' hq with ⟨rfl, rfl⟩ | ⟨k1, n1⟩
      · exact ⟨p, pa, hc⟩
      · obtain ⟨p', e1, e2⟩ := R1.cell q c' k1
        exact ⟨p', by rw [padr_set n1]; exact e1, e2⟩
    · rcases ce q c1 h1 with ⟨rfl, rfl⟩ | ⟨k1, n1⟩
      · rw [pa] at h3
        cases h3
        rcases ce q' c2 h2 with ⟨rfl, rfl⟩ | ⟨k2, n2⟩
        · exact ne rfl
        · rw [padr_set n2] at h4
          exact ho a ha ⟨q', c2, p2, k2, h4, hb⟩
      · rw [padr_set n1] at h3
        rcases ce q' c2 h2 with ⟨rfl, rfl⟩ | ⟨k2, n2⟩
        · rw [pa] at h4
          cases h4
          exact ho a hb ⟨q, c1, p1, k1, h3, ha⟩
        · rw [padr_set n2] at h4
          exact R1.apart q q' c1 c2 p1 p2 ne k1 k2 h3 h4 a ha hb
    · show (s.loc.set i _).length = (σ.set i _).length
      rw [List.length_set, List.length_set]
      exact R1.len
    · rcases ce q c' h1 with ⟨rfl, rfl⟩ | ⟨k1, n1⟩
      · rw [pa] at h2
        cases h2
        exact .inr h3
      · rw [padr_set n1] at h2
        exact .inl ⟨q, c', p', k1, h2, h3⟩
mutual
def Tg.slots : Tg → List Nat
  | .var i => [i]
  | .tup l => slotsL l
def slotsL : List Tg → List Nat
  | [] => []
  | t :: r => t.slots ++ slotsL r
end
structure Stored (g : Gh) (s : S) (σ : L2.St) (H : Hp) (vs : List Nat) (loc : List (Option Sl)) (σ' : L2.St) : Prop where
  own : ∀ a, Own g ⟨loc, s.res⟩ σ' H a → Own g s σ H a
  off : ∀ i, i ∉ vs → σ'[i]? = σ[i]?
  len : σ'.length = σ.length
def rdG (Z : Zx) (tg : Tg) : TG := fun v σ H Q => ∃ g s d loc, Rel Z g s σ H ∧ Is Z g d v ∧ bindT tg d s.loc = some loc ∧ ∀ σ', Rel Z g ⟨loc, s.res⟩ σ' H → Stored g s σ H tg.slots loc σ' → Q σ' H
def rdGs (Z : Zx) (tgs : List Tg) : TGs := fun vs σ H Q => ∃ g s ds loc, Rel Z g s σ H ∧ IsL Z g ds vs ∧ bindTs tgs ds s.loc = some loc ∧ ∀ σ', Rel Z g ⟨loc, s.res⟩ σ' H → Stored g s σ H (slotsL tgs) loc σ' → Q σ' H
theorem PG.weak {t t' : TG} (h : PG X x t) (w : ∀ v σ H Q, t' v σ H Q → t v σ H Q) : PG X x t' := ⟨fun pins s σ H v u Q I r q => h.run pins s σ H v u Q I r (w _ _ _ _ q)⟩
theorem PGs.weak {t t' : TGs} (h : PGs X xs t) (w : ∀ v σ H Q, t' v σ H Q → t v σ H Q) : PGs X xs t' := ⟨fun pins s σ H v u Q I r q => h.run pins s σ H v u Q I r (w _ _ _ _ q)⟩
abbrev KG (X : Cx) (cls : Nat → Addr) (fnm : Fnm) (tg : Tg) (x : Expr) : Prop := PG X x (rdG (zx X cls fnm) tg)
abbrev KGs (X : Cx) (cls : Nat → Addr) (fnm : Fnm) (tg : List Tg) (x : List Expr) : Prop := PGs X x (rdGs (zx X cls fnm) tg)
theorem kg_var {i : Nat} {n : Str} (hN : X.N.Nodup) (hi : X.N[i]? = some n) (hx : Loc X.env.scope n) (hf : X.fn n = true ∨ X.env.scope.names.lookup n = some .local) : KG X cls fnm (.var i) (.Name n pos) := by
  refine PG.weak (pg_name hN hi hx hf) fun v σ H Q ⟨g, s, d, loc, R1, i1, e, q⟩ => ?_
  cases e
  obtain ⟨R2, o2⟩ := R1.setF i i1
  refine q _ R2 ⟨o2, fun j hj => ?_, by rw [List.length_set]⟩
  have : i ≠ j := fun z => hj (by rw [z]; simp [Tg.slots])
  rw [List.getElem?_set_ne this]
theorem kgs_nil : KGs X cls fnm [] [] := by
  refine PGs.weak pgs_nil fun v σ H Q ⟨g, s, ds, loc, R1, i1, e, q⟩ => ?_
  cases ds with
  | nil =>
    cases e
    cases i1
    exact ⟨rfl, q σ R1 ⟨fun _ h => h, fun _ _ => rfl, rfl⟩⟩
  | cons d r => cases e
def noStar : Expr → Bool
  | .Starred _ _ => false
  | _ => true
theorem kgs_cons {t : Tg} {ts : List Tg} (h1 : KG X cls fnm t x) (h2 : KGs X cls fnm ts xs) (hs : starX x = false) : KGs X cls fnm (t :: ts) (x :: xs) := by
  have ha : (assignEach (x :: xs) X.env).map (·.2) = assign x X.env :: (assignEach xs X.env).map (·.2) := by cases x <;> first | rfl | cases hs
  refine PGs.weak (pgs_cons h1 h2 ha) fun v σ H Q ⟨g, s, ds, loc, R1, i1, e, q⟩ => ?_
  cases ds with
  | nil => cases e
  | cons d r =>
    obtain ⟨v0, vs, rfl, i1, i2⟩ := i1
    obtain ⟨loc1, e1, e2⟩ := Option.bind_eq_some_iff.mp (show (bindT t d s.loc).bind (fun loc => bindTs ts r loc) = some loc from e)
    refine ⟨v0, vs, rfl, g, s, d, loc1, R1, i1, e1, fun σ1 R2 S1 => ⟨g, ⟨loc1, s.res⟩, r, loc, R2, i2, e2, fun σ2 R3 S2 => q σ2 R3 ⟨fun a ha => S1.own a (S2.own a ha), fun i hi => ?_, S2.len.trans S1.len⟩⟩⟩
    have hi : i ∉ t.slots ++ slotsL ts := hi
    rw [S2.off i (fun z => hi (List.mem_append_right _ z)), S1.off i (fun z => hi (List.mem_append_left _ z))]
theorem assignEach_plain : ∀ {xs : List Expr} {env : PySem.Env}, xs.all (fun x => !starX x) = true → assignEach xs env = xs.map fun x => (false, assign x env)
  | [], _, _ => rfl
  | x :: r, env, h => by
    obtain ⟨h1, h2⟩ := Bool.and_eq_true_iff.mp (show ((!starX x) && r.all fun x => !starX x) = true from h)
    have : assignEach (x :: r) env = (false, assign x env) :: assignEach r env := by cases x <;> first | rfl | cases h1
    rw [this, assignEach_plain h2]
    rfl
theorem bindTs_len : ∀ {ts : List Tg} {ds : List D} {loc loc' : List (Option Sl)}, bindTs ts ds loc = some loc' → ds.length = ts.length
  | [], [], _, _, _ => rfl
  | [], _ :: _, _, _, h => by cases h
  | _ :: _, [], _, _, h => by cases h
  | t :: ts, d :: ds, loc, loc', h => by
    obtain ⟨l1, _, e2⟩ := Option.bind_eq_some_iff.mp (show (bindT t d loc).bind (fun loc => bindTs ts ds loc) = some loc' from h)
    rw [List.length_cons, List.length_cons, bindTs_len e2]
theorem kg_tup {ts : List Tg} {k : Nat} (hc : X.calm = true) (h : KGs X cls fnm ts xs) (hl : xs.length = ts.length) (hs : xs.all (fun x => !starX x) = true) : KG X cls fnm (.tup ts) (.Tuple xs k pos) := by
  have e0 := assignEach_plain (env := X.env) hs
  refine PG.weak (pg_tup (n := xs.length) hc h (by rw [e0, List.length_map]) (by
    rw [e0, List.findIdx?_eq_none_iff]
    intro y hy
    obtain ⟨z, _, rfl⟩ := List.mem_map.mp hy
    rfl)) fun v σ H Q ⟨g, s, d, loc, R1, i1, e, q⟩ => ?_
  cases d <;> first | cases e | skip
  rename_i ds
  obtain ⟨a, vs, rfl, f1, i2⟩ := i1
  refine ⟨a, vs, rfl, sqT_mono R1.sub f1, ?_, g, s, ds, loc, R1, i2, e, q⟩
  rw [isL_len i2, bindTs_len (show bindTs ts ds s.loc = some loc from e), hl]
structure Wk (Z : Zx) (J : It) (items : List D) (g : Gh) : Prop where
  go : ∀ g' s' σ' H' i, g.Le g' → Rel Z g' s' σ' H' → i < items.length → J.go i H'
  stop : ∀ g' s' σ' H', g.Le g' → Rel Z g' s' σ' H' → J.stop items.length H'
  yld : ∀ g' s' σ' H' i x H'', g.Le g' → Rel Z g' s' σ' H' → J.yld i H' x H'' → ∀ d, items[i]? = some d → ∃ g'', Rel Z g'' s' σ' H'' ∧ Fr σ' σ' g' s' H' g'' s' H'' [] ∧ Is Z g'' d x
def rdI (Z : Zx) (T : Tab) (W : WX) (k : Ik) (a b : E) : TI := fun σ H R => ∃ g s, Rel Z g s σ H ∧ Out Z W σ g s H (evI T k a b s) (fun items g' _ H' _ => ∀ J, Wk Z J items g' → R J H')
abbrev KI (X : Cx) (cls : Nat → Addr) (fnm : Fnm) (T : Tab) (W : WX) (k : Ik) (a b : E) (tg : Expr) (x : Expr) : Prop := PI X tg x (rdI (zx X cls fnm) T W k a b)
theorem Wk.list {a : Addr} {vs : List V} {ds : List D} (h : SqL Z.K g.F a vs) (i : IsL Z g ds vs) : Wk Z (Itl Z.K a) ds g := by
  have q : ∀ g' s' σ' H', g.Le g' → Rel Z g' s' σ' H' → SqL Z.K H' a vs := fun g' s' σ' H' L R => sqL_mono R.sub (L.sqL h)
  have hl := isL_len i
  refine ⟨fun g' s' σ' H' j L R hj => ?_, fun g' s' σ' H' L R => ⟨vs, q _ _ _ _ L R, by rw [hl]; exact Nat.le_refl _⟩, fun g' s' σ' H' j x H'' L R ⟨e, y⟩ d hd => ?_⟩
  · exact ⟨vs, vs[j], q _ _ _ _ L R, by simp [hl, hj]⟩
  · subst e
    obtain ⟨v, e1, e2⟩ := isL_get i hd
    have y := y vs (q _ _ _ _ L R)
    rw [e1] at y
    cases y
    exact ⟨g', R, .refl, Is.mono L _ _ e2⟩
theorem Wk.tup {a : Addr} {vs : List V} {ds : List D} (h : SqT Z.K g.F a vs) (i : IsL Z g ds vs) : Wk Z (Itt Z.K a) ds g := by
  have q : ∀ g' s' σ' H', g.Le g' → Rel Z g' s' σ' H' → SqT Z.K H' a vs := fun g' s' σ' H' L R => sqT_mono R.sub (L.sqT h)
  have hl := isL_len i
  refine ⟨fun g' s' σ' H' j L R hj => ?_, fun g' s' σ' H' L R => ⟨vs, q _ _ _ _ L R, by rw [hl]; exact Nat.le_refl _⟩, fun g' s' σ' H' j x H'' L R ⟨e, y⟩ d hd => ?_⟩
  · exact ⟨vs, vs[j], q _ _ _ _ L R, by simp [hl, hj]⟩
  · subst e
    obtain ⟨v, e1, e2⟩ := isL_get i hd
    have y := y vs (q _ _ _ _ L R)
    rw [e1] at y
    cases y
    exact ⟨g', R, .refl, Is.mono L _ _ e2⟩
theorem rngL_get {lo hi : Int} {i : Nat} {d : D} (h : (rngL lo hi)[i]? = some d) : i < (hi - lo).toNat ∧ d = .int (lo + (i : Int)) := by
  unfold rngL at h
  rw [List.getElem?_map] at h
  obtain ⟨j, h1, h2⟩ := Option.map_eq_some_iff.mp h
  obtain ⟨h3, h4⟩ := List.getElem?_eq_some_iff.mp h1
  rw [List.getElem_range] at h4
  rw [List.length_range] at h3
  exact ⟨h3, by rw [← h2, ← h4]⟩
theorem rngL_len {lo hi : Int} : (rngL lo hi).length = (hi - lo).toNat := by
  unfold rngL
  rw [List.length_map, List.length_range]
theorem Wk.rng {lo hi : Int} : Wk Z (Itr lo (hi - lo).toNat) (rngL lo hi) g := by
  refine ⟨fun g' s' σ' H' j L R hj => by rw [rngL_len] at hj; exact hj, fun g' s' σ' H' L R => by rw [rngL_len]; exact Nat.le_refl _, fun g' s' σ' H' j x H'' L R ⟨e, y⟩ d hd => ?_⟩
  subst e y
  obtain ⟨_, e⟩ := rngL_get hd
  subst e
  exact ⟨g', R, .refl, rfl⟩
theorem pair_new {p : Addr} {v u : V} (R1 : Rel Z g s σ H) (hp : H p = none) (i : Is Z g d v) (j : Is Z g e u) : ∃ g'', Rel Z g'' s σ (upd H p (.tup [v, u])) ∧ Fr σ σ g s H g'' s (upd H p (.tup [v, u])) [] ∧ Is Z g'' (.tup [d, e]) (.ref p) := by
  obtain ⟨R2, F2⟩ := R1.allocF (o := .tup [v, u]) hp
  have L := Gh.add_le (o := .tup [v, u]) (R1.free hp).1
  exact ⟨_, R2, F2, p, [v, u], rfl, SqT.of upd_same, v, [u], rfl, Is.mono L _ _ i, u, [], rfl, Is.mono L _ _ j, rfl⟩
end
end Pm
namespace PySem.Pmx
open PySem PySem.Spec PySem.W PyProof.Rows L2 RZ
open Builtin Builtin.Str
abbrev enO (n : Nat) : Obj := { cls := .type "enumerate", data := .fields #[.none, .bool false, .ref n, rawInt 0, .none, .none] }
theorem new_enum1 {v : Value} {o : Obj} {H : Heap → Prop} (B : Begins v o H) :
    Meets (Builtin.«enumerate.__new__» ⟨[.type "enumerate", v], []⟩) (fun _ R s => H s.heap ∧ R (.ok (.ret (.ref (s.heap.push o).objs.size))) { s with heap := (s.heap.push o).push (enO s.heap.objs.size) }) :=
  .of_wp fun prog w A R s h => by
    obtain ⟨hp, gs, dr, tk, os⟩ := s
    obtain ⟨hH, h⟩ := h
    have sb := sub_enumerate
    have it1 : ∀ {A2 : Around} {E2 : Value → Shared → Prop} {Q2 : Value → Shared → Prop}, Q2 (.ref hp.objs.size) ⟨hp.push o, gs, dr, tk, os⟩ → wpAny (model prog w) A2 (pyIter v) Q2 E2 ⟨hp, gs, dr, tk, os⟩ := fun q2 => B.iter prog w _ _ ⟨hp, gs, dr, tk, os⟩ _ hH q2
    wp_walk using it1
    refine wpAny_stack_any fun sk => wpAny_pure ?_
    split
    · rename_i ck _ _ _ _ _
      cases (ck == Value.type "enumerate")
      · wp_walk using it1
        exact ⟨_, rfl, h⟩
      · wp_walk using it1
        exact ⟨_, rfl, h⟩
    · wp_walk using it1
      exact ⟨_, rfl, h⟩
section
variable {prog : Program} {w : World} {A : Around} {E : Value → Shared → Prop} {s : Shared}
theorem call_enum1 {v : Value} {o : Obj} {H : Heap → Prop} {Q : Value → Shared → Prop} (B : Begins v o H) (h1 : H s.heap)
    (k : ∀ h2, IsEnum h2 (s.heap.objs.size + 1) s.heap.objs.size 0 .none → h2.get? s.heap.objs.size = some o → h2.objs.size = s.heap.objs.size + 2 → (∀ b ob, s.heap.get? b = some ob → h2.get? b = some ob) → Q (.ref (s.heap.objs.size + 1)) { s with heap := h2 }) :
    wpAny (model prog w) A (call (.type "enumerate") [v]) Q E s := by
  refine callType_new F.called_enumerate (by decide) (F.typeCall_enumerate_1 _) (F.newCall_enumerate_1 _) (fun ob => F.args_object_init_2 ob _) F.entry_enumerate_new (new_enum1 B) ⟨h1, ?_⟩
  have sz : (s.heap.push o).objs.size = s.heap.objs.size + 1 := Heap.size_push ..
  show And _ _
  rw [sz]
  have en : IsEnum ((s.heap.push o).push (enO s.heap.objs.size)) (s.heap.objs.size + 1) s.heap.objs.size 0 .none := by
    have z := Heap.get?_push_size (s.heap.push o) (o := enO s.heap.objs.size) rfl
    rw [sz] at z
    exact z
  exact ⟨⟨_, en, rfl⟩, k _ en (Heap.get?_push_of_some _ (Heap.get?_push_size _ B.free)) (by rw [Heap.size_push, sz]) fun b ob x => Heap.get?_push_of_some _ (Heap.get?_push_of_some _ x)⟩
end
def itet (K : PySem.W.Frag) (a : Addr) : It :=
  ⟨fun i H => ∃ (xs : List V) (x : V), SqT K H a xs ∧ xs[i]? = some x, fun i H v H' => ∃ T0 x, v = .ref T0 ∧ H T0 = none ∧ H' = upd H T0 (.tup [.int (i : Nat), x]) ∧ ∀ xs, SqT K H a xs → xs[i]? = some x, fun i H => ∃ xs : List V, SqT K H a xs ∧ xs.length ≤ i⟩
theorem tup_inj {X : Cx} {pins : List (Addr × Obj)} {σ : L2.St} {H : Hp} {s : Shared} {a : Addr} {xs ys : List V} (I : L2.Inv X pins σ H s) (h1 : SqT X.K H a xs) (h2 : SqT X.K H a ys) : xs = ys := by
  first
    | exact I.tuple_inj h1 h2
    | exact I.tup_inj h1 h2
theorem turn_enumT {P : Program} {w : World} {K : PySem.W.Frag} {elts : List Expr} {kk : Nat} {tpos : Pos} (a e it : Addr) :
    Turn P w K (.Tuple elts kk tpos) (itet K a) [e, it] e (fun i h => (∃ old, IsEnum h e it ((i : Nat) : Int) old) ∧ h.IsTupleIter it a i ∧ e ≠ it ∧ a ≠ it ∧ a ≠ e) where
  mem := List.mem_cons_self
  obj := fun i h st b hb => by
    obtain ⟨⟨old, en⟩, ⟨o, ho, _, hd⟩, _⟩ := st
    rcases List.mem_cons.mp hb with z | z
    · exact ⟨_, (by rw [z]; exact en), fun v q => by cases q⟩
    · exact ⟨o, by rw [List.mem_singleton.mp z]; exact ho, fun v q => by rw [hd] at q; cases q⟩
  keep := fun i h h' st k => ⟨st.1.imp fun old en => k e (by simp) _ en, st.2.1.at fun o q => k it (by simp) o q, st.2.2⟩
  item := by
    intro X hP hw hK hc i pins s σ H E I hf st hg
    subst hP hw hK
    obtain ⟨⟨old, en⟩, hit, ne, nai, nae⟩ := st
    obtain ⟨xs, x, hq, hx⟩ := hg
    obtain ⟨its, rv, pt, _⟩ := I.tuple hq
    obtain ⟨u, hu, ru⟩ := rv.get hx
    have le := Heap.lt_size en
    have li : it < s.heap.objs.size := by
      obtain ⟨_, q, _⟩ := id hit
      exact Heap.lt_size q
    have hi : i < its.toArray.size := by
      obtain ⟨z, _⟩ := List.getElem?_eq_some_iff.mp hu
      simpa using z
    refine wpAny_pyNext_enum_itemD (Draws.tuple (A := X.A.in1) (I.ok.hd hc) it a nai its.toArray) en ⟨hit, pt⟩ hi ne (by simp [ne, Ne.symm nae]) fun y h' tk hy ho ⟨hit', _⟩ hT hsz hk => ?_
    have ey : y = u := by
      rw [List.getElem?_toArray, hu] at hy
      exact (Option.some.inj hy).symm
    subst ey
    refine ⟨_, rfl, wpAny_letOwnedTupleGo_enum (s := { s with heap := h', toks := tk + 1 }) ho fun h'' en' sb => ?_⟩
    have hT2 := (sb.2 _ (Nat.ne_of_gt le)).trans hT
    have nw : ObjOk X.prog X.w (upd H s.heap.objs.size (.tup [.int (i : Nat), x])) h'' s.heap.objs.size (.tup [.int (i : Nat), x]) :=
      ⟨by show 2 ≤ sizeLine; decide, [.int i tk, y], .cons ⟨_, rfl⟩ (.cons ru .nil), ⟨_, hT2, rfl, _, rfl⟩⟩
    have I1 : L2.Inv X pins σ (upd H s.heap.objs.size (.tup [.int (i : Nat), x])) { s with heap := h'', toks := tk + 1 } :=
      I.turnedNew (ch := [e, it]) (fun b ob hb q => (sb.2 b (fun z => hb (by simp [z]))).trans (hk b ob (fun z => hb (by simp [z])) (fun z => hb (by simp [z])) q)) hf (Nat.le_refl _) nw
    refine ⟨.ref s.heap.objs.size, _, I1, rfl, ⟨_, x, rfl, I.hok.fresh (Nat.le_refl _), rfl, fun ys hy2 => by rw [tup_inj I hy2 hq]; exact hx⟩, ⟨⟨y, ?_⟩, hit'.at fun o q => (sb.2 it (Ne.symm ne)).trans q, ne, nai, nae⟩, fun b hb => ?_⟩
    · rw [show ((i + 1 : Nat) : Int) = (i : Int) + 1 from by omega]
      exact en'
    · have lb : b < s.heap.objs.size := by
        rcases List.mem_cons.mp hb with z | z
        · rw [z]; exact le
        · rw [List.mem_singleton.mp z]; exact li
      rw [upd_ne (Nat.ne_of_lt lb)]
      exact (hf b hb).1
  done := by
    intro X hP hw hK hc i pins s σ H E I hf st hg
    subst hP hw hK
    obtain ⟨⟨old, en⟩, hit, ne, nai, nae⟩ := st
    obtain ⟨xs, hq, hx⟩ := hg
    obtain ⟨its, rv, pt, _⟩ := I.tuple hq
    have hl := rv.length
    have hz : its[i]? = none := List.getElem?_eq_none (by omega)
    obtain ⟨f0, f1, f2, f3, f4, f5⟩ := hf it (by simp)
    have hT : s.TypeIs (.ref e) "enumerate" := ⟨_, en, rfl⟩
    unfold pyNext
    refine wpAny_bind (wpAny_attempt (wpAny_callSpecial?_slot (name := Str.ofString "__next__") hT F.slot_enumerate_next (wpAny_call_entry F.slot_enumerate_next hT F.entry_enumerate_next ?_ (F.args_enumerate_next_1 _))))
    show wpAny _ _ (field (.ref e) 2 >>= _) _ _ _
    refine wpAny_bind (wpAny_field en rfl (x := .ref it) rfl ?_)
    refine wpAny_bind (wpAny_nextOf_tuple_end (A := X.A.in1) (I.ok.hd hc) hit pt (by rw [List.getElem?_toArray]; exact hz) fun h' x ex hx' => ?_)
    obtain ⟨o, ho, hc'⟩ := hx'
    refine wpAny_bind (wpAny_isInstance (T := "StopIteration") (b := true) ⟨o, ho, hc'⟩ isSubtype_stop ?_)
    exact wpAny_pure ⟨rfl, I.turned (t' := s.toks) (fun b ob hb q => ex b ob hb q) f0 f1 f3 f4 f5⟩
  self := fun A i s Q E st h => wpAny_pyIter_enum st.1.choose_spec h
def iEnumT (K : PySem.W.Frag) (ta : TA) : TI := fun σ H R => ta σ H fun vs H1 => ∃ a xs, vs = [.ref a] ∧ SqT K H1 a xs ∧ R (itet K a) H1
theorem pi_enumT {X : Cx} {e : Expr} {ta : TA} {p pos tpos : Pos} {elts : List Expr} {kk : Nat} (hg : Gl X "enumerate") (hm : X.mg "enumerate" = none) (ha : PA X [e] ta) (hs : starEach [e] X.env = [(false, eval e X.env)]) :
    PI X (.Tuple elts kk tpos) (.Call (.Name "enumerate" p) [e] [] pos) (iEnumT X.K ta) := by
  refine ⟨fun pins s σ H R I h => ?_⟩
  refine Call_ (ld_blt I hg hm boot_enumerate (PyProof.Rows.callWith_type1 (thn (ha.run pos pins s σ H _ I h) fun us s1 ⟨vs, H1, I1, r1, q1⟩ => ?_) hs rfl))
  obtain ⟨a, xs, ex, hq, q⟩ := q1
  subst ex
  cases r1 with
  | cons r rr =>
    cases rr
    cases r
    obtain ⟨its, rv, pt, _⟩ := I1.tuple hq
    have la : a < s1.heap.objs.size := by
      obtain ⟨o, ho, _⟩ := id pt
      exact Heap.lt_size ho
    refine call_enum1 (begins_tuple a its.toArray) pt fun h' en it0 hsz hk => wpAny_pyIter_enum en ?_
    have I2 : L2.Inv X pins σ H1 { s1 with heap := h' } := I1.kept (t' := s1.toks) hk
    refine ⟨s1.heap.objs.size + 1, [s1.heap.objs.size + 1, s1.heap.objs.size], _, _, H1, rfl, I2, turn_enumT a (s1.heap.objs.size + 1) s1.heap.objs.size, ⟨⟨.none, en⟩, ⟨_, it0, rfl, rfl⟩, Nat.succ_ne_self _, Nat.ne_of_lt la, Nat.ne_of_lt (Nat.lt_succ_of_lt la)⟩, fun b hb => ?_, q⟩
    have hle : s1.heap.objs.size ≤ b := by
      rcases List.mem_cons.mp hb with z | z
      · rw [z]; exact Nat.le_succ _
      · rw [List.mem_singleton.mp z]; exact Nat.le_refl _
    exact I1.fpOk hle (I1.hok.fresh hle)
end PySem.Pmx
namespace Pm
open PySem PySem.Spec PyProof.Rows L2 RZ
open PySem.W (Frag)
section
variable {X : Cx} {cls : Nat → Addr} {fnm : Fnm} {T : Tab} {W : WX} {a b c : E} {x y z tg : Expr} {pos : Pos} {es : List E} {xs : List Expr}
variable {Z : Zx} {g g' g1 g2 : Gh} {s s' s1 s2 : S} {σ σ' σ1 σ2 : L2.St} {H H' H1 H2 : Hp} {d e : D} {v u : V} {Q : VK}
theorem pe_lk {t : TE} (h : PE X x t) : PE X x (fun σ H Q => t σ H fun v H1 => Q v H1 ∨ ∃ p u, v = .ref p ∧ H1 p = some u ∧ Mut (some u) ∧ ∀ o, Q v (upd H1 p (.frz o u))) := by
  refine ⟨fun pins s σ H Q I q => thn (h.run pins s σ H _ I q) fun u s1 ⟨v, H1, I1, r, q1⟩ => ?_⟩
  rcases q1 with q1 | ⟨p, w', rfl, e, m, q1⟩
  · exact ⟨v, H1, I1, r, q1⟩
  · obtain ⟨o, I2⟩ := I1.lock e m
    exact ⟨.ref p, _, I2, r, q1 o⟩
theorem Rel.lock {p : Addr} {kvs : List (Key × V)} (R1 : Rel Z g s σ H) (h : g.F p = some (.dK kvs)) (o : Obj) :
    Rel Z ⟨upd g.F p (.frz o (.dK kvs)), g.rho⟩ s σ (upd H p (.frz o (.dK kvs))) ∧ Fr σ σ g s H ⟨upd g.F p (.frz o (.dK kvs)), g.rho⟩ s (upd H p (.frz o (.dK kvs))) [] := by
  have hp := R1.sub _ _ h
  have L : g.Le ⟨upd g.F p (.frz o (.dK kvs)), g.rho⟩ := ⟨fun a u e => by
    by_cases k : a = p
    · subst k
      rw [h] at e
      cases e
      exact ⟨_, upd_same, .inr ⟨o, kvs, rfl, rfl⟩⟩
    · exact ⟨u, (upd_ne k).trans e, .refl u⟩, fun _ _ e => e⟩
  have pe : ∀ q, padr (⟨upd g.F p (.frz o (.dK kvs)), g.rho⟩ : Gh) σ q = padr g σ q := fun q => by cases q <;> rfl
  have same : ∀ q c x, s.cell q = some c → padr g σ q = some x → CellAt Z g H x c ∧ ∀ a ∈ foot H x c, a ≠ p := fun q c x h1 h2 => by
    obtain ⟨x', e1, e2⟩ := R1.cell q c h1
    rw [h2] at e1
    cases e1
    refine ⟨e2, fun a ha z => ?_⟩
    subst z
    have := (e2.none_foot a ha).1
    rw [h] at this
    cases this
  have se : ∀ q c x, s.cell q = some c → padr g σ q = some x → ∀ a ∈ foot H x c, upd H p (.frz o (.dK kvs)) a = H a := fun q c x h1 h2 a ha => upd_ne ((same q c x h1 h2).2 a ha)
  have oe : ∀ a, Own ⟨upd g.F p (.frz o (.dK kvs)), g.rho⟩ s σ (upd H p (.frz o (.dK kvs))) a → Own g s σ H a := fun a ⟨q, c, x, h1, h2, h3⟩ => by
    rw [pe] at h2
    rw [foot_eq (se q c x h1 h2)] at h3
    exact ⟨q, c, x, h1, h2, h3⟩
  refine ⟨⟨fun a u e => ?_, fun i d hi => ?_, fun q c hq => ?_, fun q q' c c' x x' ne h1 h2 h3 h4 a ha hb => ?_, R1.len, R1.rdom⟩, ⟨L, fun a u e n => ?_, fun a h1 _ f => ?_, fun a ha => .inr (ha.elim (oe a) fun z => nomatch z), fun a ha => mono_upd a ha, Nat.le_refl _⟩⟩
  · by_cases k : a = p
    · subst k
      have e : upd g.F a (.frz o (.dK kvs)) a = some u := e
      rw [upd_same] at e ⊢
      exact e
    · rw [upd_ne k]
      have e : upd g.F p (.frz o (.dK kvs)) a = some u := e
      rw [upd_ne k] at e
      exact R1.sub a u e
  · obtain ⟨w', e1, e2⟩ := R1.fz i d hi
    exact ⟨w', e1, e2.mono L⟩
  · obtain ⟨x, e1, e2⟩ := R1.cell q c hq
    refine ⟨x, by rw [pe]; exact e1, e2.move L (se q c x hq e1) fun a ha => ?_⟩
    show upd g.F p _ a = none
    rw [upd_ne ((same q c x hq e1).2 a ha)]
    exact (e2.none_foot a ha).1
  · rw [pe] at h3 h4
    rw [foot_eq (se q c x h1 h3)] at ha
    rw [foot_eq (se q' c' x' h2 h4)] at hb
    exact R1.apart q q' c c' x x' ne h1 h2 h3 h4 a ha hb
  · by_cases k : a = p
    · subst k
      rw [hp] at e
      cases e
      exact .inr ⟨by rw [h]; simp, _, upd_same, .inr ⟨o, kvs, rfl, rfl⟩⟩
    · exact .inl ((upd_ne k).trans e)
  · show upd g.F p _ a = none
    rw [upd_ne fun k => by rw [k, h] at f; cases f]
    exact f
theorem isD_get {l : List (D × D)} : ∀ {kvs : List (Key × V)} {i : Nat} {k : Key} {v : V}, IsD Z g l kvs → kvs[i]? = some (k, v) → ∃ q d, l[i]? = some (q, d) ∧ Is Z g q (kV k) ∧ Is Z g d v := by
  induction l with
  | nil =>
    intro kvs i k v h e
    cases h
    simp at e
  | cons p r ih =>
    intro kvs i k v ⟨k0, v0, ws, e1, e2, e3, e4⟩ e
    subst e1
    cases i with
    | zero =>
      have e : (k0, v0) = (k, v) := by simpa using e
      cases e
      refine ⟨p.1, p.2, rfl, ?_, e3⟩
      obtain ⟨q, d⟩ := p
      cases q <;> first | (cases e2; done) | (cases e2; rfl)
    | succ i =>
      obtain ⟨q, d, h1, h2, h3⟩ := ih e4 (by simpa using e)
      exact ⟨q, d, by simpa using h1, h2, h3⟩
theorem isD_len' {l : List (D × D)} {kvs : List (Key × V)} (h : IsD Z g l kvs) : kvs.length = l.length := isD_len h
theorem Wk.items {p : Addr} {o : Obj} {kvs : List (Key × V)} {l : List (D × D)} (h : g.F p = some (.frz o (.dK kvs))) (i : IsD Z g l kvs) : Wk Z (Iti p o kvs) (pairL l) g := by
  have q : ∀ g' s' σ' H', g.Le g' → Rel Z g' s' σ' H' → H' p = some (.frz o (.dK kvs)) := fun g' s' σ' H' L R => R.sub _ _ (L.get h rfl)
  have hl : (pairL l).length = kvs.length := by rw [isD_len i]; simp [pairL]
  refine ⟨fun g' s' σ' H' j L R hj => ⟨q _ _ _ _ L R, by rw [← hl]; exact hj⟩, fun g' s' σ' H' L R => ⟨q _ _ _ _ L R, by rw [hl]; exact Nat.le_refl _⟩, fun g' s' σ' H' j x H'' L R ⟨T0, k, v, e1, e2, e3, e4⟩ d hd => ?_⟩
  subst e2 e4
  obtain ⟨kd, vd, f1, f2, f3⟩ := isD_get i e1
  have ed : d = .tup [kd, vd] := by
    unfold pairL at hd
    rw [List.getElem?_map, f1] at hd
    exact (Option.some.inj hd).symm
  subst ed
  exact pair_new R e3 (Is.mono L _ _ f2) (Is.mono L _ _ f3)
theorem Wk.values {p : Addr} {o : Obj} {kvs : List (Key × V)} {l : List (D × D)} (h : g.F p = some (.frz o (.dK kvs))) (i : IsD Z g l kvs) : Wk Z (Itd p o kvs) (l.map (·.2)) g := by
  have q : ∀ g' s' σ' H', g.Le g' → Rel Z g' s' σ' H' → H' p = some (.frz o (.dK kvs)) := fun g' s' σ' H' L R => R.sub _ _ (L.get h rfl)
  have hl : (l.map (·.2)).length = kvs.length := by rw [isD_len i]; simp
  refine ⟨fun g' s' σ' H' j L R hj => ⟨q _ _ _ _ L R, by rw [← hl]; exact hj⟩, fun g' s' σ' H' L R => ⟨q _ _ _ _ L R, by rw [hl]; exact Nat.le_refl _⟩, fun g' s' σ' H' j x H'' L R ⟨e0, k, e1⟩ d hd => ?_⟩
  subst e0
  obtain ⟨kd, vd, f1, f2, f3⟩ := isD_get i e1
  rw [List.getElem?_map, f1] at hd
  cases hd
  exact ⟨g', R, .refl, Is.mono L _ _ f3⟩
theorem Wk.keys {p : Addr} {o : Obj} {kvs : List (Key × V)} {l : List (D × D)} (h : g.F p = some (.frz o (.dK kvs))) (i : IsD Z g l kvs) : Wk Z (Itk p o kvs) (l.map (·.1)) g := by
  have q : ∀ g' s' σ' H', g.Le g' → Rel Z g' s' σ' H' → H' p = some (.frz o (.dK kvs)) := fun g' s' σ' H' L R => R.sub _ _ (L.get h rfl)
  have hl : (l.map (·.1)).length = kvs.length := by rw [isD_len i]; simp
  refine ⟨fun g' s' σ' H' j L R hj => ⟨q _ _ _ _ L R, by rw [← hl]; exact hj⟩, fun g' s' σ' H' L R => ⟨q _ _ _ _ L R, by rw [hl]; exact Nat.le_refl _⟩, fun g' s' σ' H' j x H'' L R ⟨e0, k, v, e1, e2⟩ d hd => ?_⟩
  subst e0 e2
  obtain ⟨kd, vd, f1, f2, f3⟩ := isD_get i e1
  rw [List.getElem?_map, f1] at hd
  cases hd
  exact ⟨g', R, .refl, Is.mono L _ _ f2⟩
theorem lock_seq {α : Type} {f : Sl → S → R α} {P : α → Gh → S → Hp → List Addr → Prop} {K : VK} {l : List (D × D)} (R1 : Rel Z g s σ H) (h : Out Z W σ g s H ((ev T a s).bind f) P) (hd : ∀ x s1, ev T a s = .ok x s1 → x.d = .dct l)
    (k : ∀ x p o kvs g2 s1 H1, Rel Z g2 s1 σ H1 → x.d = .dct l → g2.F p = some (.frz o (.dK kvs)) → IsD Z g2 l kvs → g.Le g2 → Fr σ σ g s H g2 s1 H1 [] → Out Z W σ g2 s1 H1 (f x s1) P → K (.ref p) H1) :
    rdE Z T W a σ H (fun v H1 => K v H1 ∨ ∃ p u, v = .ref p ∧ H1 p = some u ∧ Mut (some u) ∧ ∀ o, K v (upd H1 p (.frz o u))) := by
  refine ⟨g, s, R1, ?_⟩
  cases e : ev T a s with
  | bad =>
    rw [e] at h
    exact h.elim
  | exc c fs s1 =>
    rw [e] at h
    exact h
  | ok x s1 =>
    have ed := hd x s1 e
    rw [e] at h
    intro g1 H1 ex R' F' v V
    obtain ⟨g2, R2, F2, I2⟩ := V.freeze R' F'
    have h2 : Out Z W σ g2 s1 H1 (f x s1) P := Out.later (show Out Z W σ g s H (f x s1) P from h) F2
    rw [ed] at I2
    obtain ⟨p, kvs, rfl, f1, f2⟩ := I2
    rcases f1 with f1 | ⟨o, f1⟩
    · refine .inr ⟨p, _, rfl, R2.sub _ _ f1, trivial, fun o => ?_⟩
      obtain ⟨R3, F3⟩ := R2.lock f1 o
      exact k x p o kvs _ s1 _ R3 ed upd_same (IsD.mono F3.le _ _ f2) (F2.le.trans F3.le) (F2.trans F3) (h2.later F3)
    · exact .inl (k x p o kvs g2 s1 H1 R2 ed f1 f2 F2.le F2 h2)
theorem evI_one {k : Ik} (h : k.two = false) (s : S) : evI T k a b s = (ev T a s).bind fun x s => ofO (itemsI k x.d .non) s := by
  unfold evI
  rw [h]
  rfl
theorem PI.at {wi' : TI} (w : ∀ σ H R, wi' σ H R → ∃ wi, PI X tg x wi ∧ wi σ H R) : PI X tg x wi' := ⟨fun pins s σ H R I q => by
  obtain ⟨wi, h, q'⟩ := w σ H R q
  exact h.run pins s σ H R I q'⟩
theorem seqQ {α : Type} {f : Sl → S → R α} {P : α → Gh → S → Hp → List Addr → Prop} {K : VK} (R1 : Rel Z g s σ H) (h : Out Z W σ g s H ((ev T a s).bind f) P)
    (k : ∀ x s1, ev T a s = .ok x s1 → ∀ v g2 H1, Rel Z g2 s1 σ H1 → Is Z g2 x.d v → g.Le g2 → Fr σ σ g s H g2 s1 H1 [] → Out Z W σ g2 s1 H1 (f x s1) P → K v H1) : rdE Z T W a σ H K := by
  refine ⟨g, s, R1, ?_⟩
  cases e : ev T a s with
  | bad =>
    rw [e] at h
    exact h.elim
  | exc c fs s1 =>
    rw [e] at h
    exact h
  | ok x s1 =>
    rw [e] at h
    intro g1 H1 ex R' F' v V
    obtain ⟨g2, R2, F2, I2⟩ := V.freeze R' F'
    exact k x s1 e v g2 H1 R2 I2 F2.le F2 (Out.later (show Out Z W σ g s H (f x s1) P from h) F2)
theorem wk_out {o : Option (List D)} {R : It → Hp → Prop} {J : It} (R1 : Rel Z g s σ H) (h : Out Z W σ g s H (ofO o s) (fun items g' _ H' _ => ∀ J, Wk Z J items g' → R J H')) {items : List D} (e : o = some items) (w : Wk Z J items g) : R J H := by
  subst e
  exact h g H [] R1 .refl J w
theorem Wk.str {z : Str} : Wk Z (Its z) (z.cps.toList.map fun c => D.str ⟨#[c]⟩) g := by
  have hl : (z.cps.toList.map fun c => D.str ⟨#[c]⟩).length = z.cps.size := by simp
  refine ⟨fun g' s' σ' H' j L R hj => by rw [hl] at hj; exact hj, fun g' s' σ' H' L R => by show z.cps.size ≤ _; rw [hl]; exact Nat.le_refl _, fun g' s' σ' H' j x H'' L R ⟨e0, c, e1, e2⟩ d hd => ?_⟩
  subst e0 e2
  rw [List.getElem?_map, Array.getElem?_toList, e1] at hd
  cases hd
  exact ⟨g', R, .refl, rfl⟩
theorem ki_seq (ha : KE X cls fnm T W a x) : KI X cls fnm T W .seq a b tg x := by
  refine PI.at fun σ H R ⟨g, s, R1, h⟩ => ?_
  rw [evI_one rfl] at h
  cases e : ev T a s with
  | bad =>
    rw [e] at h
    exact h.elim
  | exc c fs s1 => exact ⟨_, pi_list ha, seqQ R1 h fun x s2 e2 => by rw [e] at e2; cases e2⟩
  | ok x0 s1 =>
    have at_ : ∀ x s2, ev T a s = .ok x s2 → x = x0 := fun x s2 e2 => by rw [e] at e2; cases e2; rfl
    cases hd : x0.d with
    | lst l =>
      refine ⟨_, pi_list ha, seqQ R1 h fun x s2 e2 v g2 H2 R2 I2 _ _ h2 => ?_⟩
      have ex := at_ x s2 e2
      subst ex
      rw [hd] at I2 h2
      obtain ⟨p, vs, rfl, f1, hz, f2⟩ := I2
      exact ⟨p, rfl, ⟨vs, SqL.of (R2.sub _ _ f1)⟩, wk_out R2 h2 rfl (Wk.list (SqL.of f1) f2)⟩
    | tup l =>
      refine ⟨_, pi_tup ha, seqQ R1 h fun x s2 e2 v g2 H2 R2 I2 _ _ h2 => ?_⟩
      have ex := at_ x s2 e2
      subst ex
      rw [hd] at I2 h2
      obtain ⟨p, vs, rfl, f1, f2⟩ := I2
      exact ⟨p, rfl, ⟨vs, sqT_mono R2.sub f1⟩, wk_out R2 h2 rfl (Wk.tup f1 f2)⟩
    | scr ns =>
      refine ⟨_, pi_list ha, seqQ R1 h fun x s2 e2 v g2 H2 R2 I2 _ _ h2 => ?_⟩
      have ex := at_ x s2 e2
      subst ex
      rw [hd] at I2 h2
      obtain ⟨p, rfl, f1⟩ := I2
      exact ⟨p, rfl, ⟨_, sqL_mono R2.sub f1⟩, wk_out R2 h2 rfl (Wk.list f1 (isL_ints ns))⟩
    | str z =>
      refine ⟨_, pi_str ha, seqQ R1 h fun x s2 e2 v g2 H2 R2 I2 _ _ h2 => ?_⟩
      have ex := at_ x s2 e2
      subst ex
      rw [hd] at I2 h2
      exact ⟨z, I2, wk_out R2 h2 rfl Wk.str⟩
    | dct l =>
      refine ⟨_, pi_keys (pe_lk ha), lock_seq R1 h (fun x s2 e2 => by rw [at_ x s2 e2]; exact hd) fun x p o kvs g2 s2 H2 R2 e2 f1 f2 _ _ h2 => ?_⟩
      rw [e2] at h2
      exact ⟨p, o, rfl, .inl ⟨kvs, R2.sub _ _ f1, wk_out R2 h2 rfl (Wk.keys f1 f2)⟩⟩
    | _ =>
      rw [e] at h
      have h : Out (zx X cls fnm) W σ g s H (ofO (itemsI .seq x0.d .non) s1) _ := h
      rw [hd] at h
      exact h.elim
theorem ki_items {elts : List Expr} {kk : Nat} {tpos apos : Pos} (hb : baseOk x = true) (hl : (apos.endLine == pos.line) = true) (ha : KE X cls fnm T W a x) : KI X cls fnm T W .items a b (.Tuple elts kk tpos) (.Call (.Attribute x "items" apos) [] [] pos) := by
  refine PI.at fun σ H R ⟨g, s, R1, h⟩ => ?_
  rw [evI_one rfl] at h
  refine ⟨_, pi_items (pe_lk ha) (attrBase hb) hl, ?_⟩
  cases e : ev T a s with
  | bad =>
    rw [e] at h
    exact h.elim
  | exc c fs s1 => exact lock_seq (l := []) R1 h (fun x s2 e2 => by rw [e] at e2; cases e2) (fun x p o kvs g2 s2 H2 R2 e2 f1 f2 _ _ h2 => by rw [e2] at h2; cases f2; exact ⟨p, o, [], rfl, R2.sub _ _ f1, wk_out R2 h2 rfl (Wk.items (l := []) f1 rfl)⟩)
  | ok x0 s1 =>
    have at_ : ∀ x s2, ev T a s = .ok x s2 → x = x0 := fun x s2 e2 => by rw [e] at e2; cases e2; rfl
    cases hd : x0.d with
    | dct l =>
      refine lock_seq R1 h (fun x s2 e2 => by rw [at_ x s2 e2]; exact hd) fun x p o kvs g2 s2 H2 R2 e2 f1 f2 _ _ h2 => ?_
      rw [e2] at h2
      exact ⟨p, o, kvs, rfl, R2.sub _ _ f1, wk_out R2 h2 rfl (Wk.items f1 f2)⟩
    | _ =>
      rw [e] at h
      have h : Out (zx X cls fnm) W σ g s H (ofO (itemsI .items x0.d .non) s1) _ := h
      rw [hd] at h
      exact h.elim
theorem ki_values {apos : Pos} (hb : baseOk x = true) (hl : (apos.endLine == pos.line) = true) (ha : KE X cls fnm T W a x) : KI X cls fnm T W .values a b tg (.Call (.Attribute x "values" apos) [] [] pos) := by
  refine PI.at fun σ H R ⟨g, s, R1, h⟩ => ?_
  rw [evI_one rfl] at h
  refine ⟨_, pi_values (pe_lk ha) (attrBase hb) hl, ?_⟩
  cases e : ev T a s with
  | bad =>
    rw [e] at h
    exact h.elim
  | exc c fs s1 => exact lock_seq (l := []) R1 h (fun x s2 e2 => by rw [e] at e2; cases e2) (fun x p o kvs g2 s2 H2 R2 e2 f1 f2 _ _ h2 => by rw [e2] at h2; cases f2; exact ⟨p, o, [], rfl, R2.sub _ _ f1, wk_out R2 h2 rfl (Wk.values (l := []) f1 rfl)⟩)
  | ok x0 s1 =>
    have at_ : ∀ x s2, ev T a s = .ok x s2 → x = x0 := fun x s2 e2 => by rw [e] at e2; cases e2; rfl
    cases hd : x0.d with
    | dct l =>
      refine lock_seq R1 h (fun x s2 e2 => by rw [at_ x s2 e2]; exact hd) fun x p o kvs g2 s2 H2 R2 e2 f1 f2 _ _ h2 => ?_
      rw [e2] at h2
      exact ⟨p, o, kvs, rfl, R2.sub _ _ f1, wk_out R2 h2 rfl (Wk.values f1 f2)⟩
    | _ =>
      rw [e] at h
      have h : Out (zx X cls fnm) W σ g s H (ofO (itemsI .values x0.d .non) s1) _ := h
      rw [hd] at h
      exact h.elim
theorem ki_rng1 {p : Pos} (hg : Gl X "range") (hm : X.mg "range" = none) (hs : starX x = false) (ha : KE X cls fnm T W a x) : KI X cls fnm T W .rng1 a b tg (.Call (.Name "range" p) [x] [] pos) := by
  refine PI.at fun σ H R ⟨g, s, R1, h⟩ => ⟨_, pi_range1 hg hm (pa_cons ha pa_nil (starEach_plain hs)) (starEach_plain hs), ?_⟩
  rw [evI_one rfl] at h
  refine seqE R1 h fun d v g2 s2 H2 R2 I2 _ _ h2 => ?_
  generalize d.d = dd at h2 I2
  cases dd <;> first | exact h2.elim | skip
  rename_i j
  cases I2
  have h2 : Out (zx X cls fnm) W σ g2 s2 H2 (ofO (if -(2 ^ 62) ≤ j ∧ j < 2 ^ 62 then some (rngL 0 j) else none) s2) _ := h2
  obtain ⟨⟨k1, k2⟩, h3⟩ := ofO_if h2
  refine ⟨j, rfl, k1, k2, ?_⟩
  have w : Wk (zx X cls fnm) (Itr 0 (j - 0).toNat) (rngL 0 j) g2 := Wk.rng
  rw [Int.sub_zero] at w
  exact h3 g2 H2 [] R2 .refl _ w
theorem ki_rng2 {p : Pos} (hg : Gl X "range") (hm : X.mg "range" = none) (hs : starX x = false) (hs2 : starX y = false) (ha : KE X cls fnm T W a x) (hb : KE X cls fnm T W b y) : KI X cls fnm T W .rng2 a b tg (.Call (.Name "range" p) [x, y] [] pos) := by
  refine PI.at fun σ H R ⟨g, s, R1, h⟩ => ⟨_, pi_range2 hg hm (pa_cons ha (pa_cons hb pa_nil (starEach_plain hs2)) (starEach_plain hs)) (by rw [starEach_plain hs, starEach_plain hs2]; rfl) (starEach_plain hs2), ?_⟩
  have h : Out (zx X cls fnm) W σ g s H ((ev T a s).bind fun x s => (ev T b s).bind fun y s => ofO (itemsI .rng2 x.d y.d) s) _ := h
  refine seqE R1 h fun d v g2 s2 H2 R2 I2 _ _ h2 => seqE R2 h2 fun e u g3 s3 H3 R3 I3 le3 _ h3 => ?_
  generalize d.d = dd at h3 I2
  generalize e.d = ee at h3 I3
  cases dd <;> cases ee <;> first | exact h3.elim | skip
  rename_i i j
  cases I2
  cases I3
  have h3 : Out (zx X cls fnm) W σ g3 s3 H3 (ofO (if -(2 ^ 62) ≤ i ∧ i < 2 ^ 62 ∧ -(2 ^ 62) ≤ j ∧ j < 2 ^ 62 then some (rngL i j) else none) s3) _ := h3
  obtain ⟨k, h4⟩ := ofO_if h3
  exact ⟨i, j, rfl, k, h4 g3 H3 [] R3 .refl _ Wk.rng⟩
theorem enumL_get : ∀ {l : List D} {n i : Nat} {d : D}, (enumL n l)[i]? = some d → ∃ e, l[i]? = some e ∧ d = .tup [.int ((n + i : Nat) : Int), e]
  | [], _, _, _, h => by simp [enumL] at h
  | e :: r, n, 0, d, h => ⟨e, rfl, by simpa [enumL] using h.symm⟩
  | e :: r, n, i + 1, d, h => by
    obtain ⟨e', h1, h2⟩ := enumL_get (l := r) (n := n + 1) (i := i) (by simpa [enumL] using h)
    exact ⟨e', by simpa using h1, by rw [h2]; congr 3; omega⟩
theorem enumL_len : ∀ {l : List D} {n : Nat}, (enumL n l).length = l.length
  | [], _ => rfl
  | _ :: r, n => by
    show (enumL (n + 1) r).length + 1 = r.length + 1
    rw [enumL_len]
theorem Wk.enum {p : Addr} {vs : List V} {ds : List D} (h : Rd g.F p (.lst vs)) (i : IsL Z g ds vs) : Wk Z (Ite Z.K p) (enumL 0 ds) g := by
  have q : ∀ g' s' σ' H', g.Le g' → Rel Z g' s' σ' H' → SqL Z.K H' p vs := fun g' s' σ' H' L R => .inl (rd_mono R.sub (L.rd h rfl))
  have hl : (enumL 0 ds).length = vs.length := by rw [enumL_len, isL_len i]
  refine ⟨fun g' s' σ' H' j L R hj => ?_, fun g' s' σ' H' L R => ⟨vs, q _ _ _ _ L R, by rw [hl]; exact Nat.le_refl _⟩, fun g' s' σ' H' j x H'' L R ⟨T0, v, e1, e2, e3, y⟩ d hd => ?_⟩
  · rw [hl] at hj
    exact ⟨vs, vs[j], q _ _ _ _ L R, by simp [hj]⟩
  · subst e1 e3
    obtain ⟨e, h1, rfl⟩ := enumL_get hd
    obtain ⟨v', k1, k2⟩ := isL_get i h1
    have y := y vs (q _ _ _ _ L R)
    rw [k1] at y
    cases y
    have z : Is Z g' (.int ((0 + j : Nat) : Int)) (.int (j : Nat)) := by rw [Nat.zero_add]; rfl
    exact pair_new R e2 z (Is.mono L _ _ k2)
theorem Wk.enumT {p : Addr} {vs : List V} {ds : List D} (h : SqT Z.K g.F p vs) (i : IsL Z g ds vs) : Wk Z (PySem.Pmx.itet Z.K p) (enumL 0 ds) g := by
  have q : ∀ g' s' σ' H', g.Le g' → Rel Z g' s' σ' H' → SqT Z.K H' p vs := fun g' s' σ' H' L R => sqT_mono R.sub (L.sqT h)
  have hl : (enumL 0 ds).length = vs.length := by rw [enumL_len, isL_len i]
  refine ⟨fun g' s' σ' H' j L R hj => ?_, fun g' s' σ' H' L R => ⟨vs, q _ _ _ _ L R, by rw [hl]; exact Nat.le_refl _⟩, fun g' s' σ' H' j x H'' L R ⟨T0, v, e1, e2, e3, y⟩ d hd => ?_⟩
  · rw [hl] at hj
    exact ⟨vs, vs[j], q _ _ _ _ L R, by simp [hj]⟩
  · subst e1 e3
    obtain ⟨e, h1, rfl⟩ := enumL_get hd
    obtain ⟨v', k1, k2⟩ := isL_get i h1
    have y := y vs (q _ _ _ _ L R)
    rw [k1] at y
    cases y
    have z : Is Z g' (.int ((0 + j : Nat) : Int)) (.int (j : Nat)) := by rw [Nat.zero_add]; rfl
    exact pair_new R e2 z (Is.mono L _ _ k2)
theorem ki_enum {elts : List Expr} {kk : Nat} {tpos p : Pos} (hg : Gl X "enumerate") (hm : X.mg "enumerate" = none) (hs : starX x = false) (ha : KE X cls fnm T W a x) : KI X cls fnm T W .enum a b (.Tuple elts kk tpos) (.Call (.Name "enumerate" p) [x] [] pos) := by
  refine PI.at fun σ H R ⟨g, s, R1, h⟩ => ?_
  rw [evI_one rfl] at h
  have pl := pi_enum (elts := elts) (kk := kk) (tpos := tpos) (p := p) (pos := pos) hg hm (pa_cons ha pa_nil (starEach_plain hs)) (starEach_plain hs)
  have pt := PySem.Pmx.pi_enumT (elts := elts) (kk := kk) (tpos := tpos) (p := p) (pos := pos) hg hm (pa_cons ha pa_nil (starEach_plain hs)) (starEach_plain hs)
  cases e : ev T a s with
  | bad =>
    rw [e] at h
    exact h.elim
  | exc c fs s1 => exact ⟨_, pl, seqQ R1 h fun x s2 e2 => by rw [e] at e2; cases e2⟩
  | ok x0 s1 =>
    have at_ : ∀ x s2, ev T a s = .ok x s2 → x = x0 := fun x s2 e2 => by rw [e] at e2; cases e2; rfl
    cases hd : x0.d with
    | lst l =>
      refine ⟨_, pl, seqQ R1 h fun x s2 e2 v g2 H2 R2 I2 _ _ h2 => ?_⟩
      have ex := at_ x s2 e2
      subst ex
      rw [hd] at I2 h2
      obtain ⟨q, vs, rfl, f1, hz, f2⟩ := I2
      exact ⟨q, vs, rfl, SqL.of (R2.sub _ _ f1), wk_out R2 h2 rfl (Wk.enum (.inl f1) f2)⟩
    | tup l =>
      refine ⟨_, pt, seqQ R1 h fun x s2 e2 v g2 H2 R2 I2 _ _ h2 => ?_⟩
      have ex := at_ x s2 e2
      subst ex
      rw [hd] at I2 h2
      obtain ⟨q, vs, rfl, f1, f2⟩ := I2
      exact ⟨q, vs, rfl, sqT_mono R2.sub f1, wk_out R2 h2 rfl (Wk.enumT f1 f2)⟩
    | _ =>
      rw [e] at h
      have h : Out (zx X cls fnm) W σ g s H (ofO (itemsI .enum x0.d .non) s1) _ := h
      rw [hd] at h
      exact h.elim
theorem zipL_get {l m : List D} {i : Nat} {d : D} (h : (zipL l m)[i]? = some d) : ∃ x y, l[i]? = some x ∧ m[i]? = some y ∧ d = .tup [x, y] := by
  unfold zipL pairL at h
  rw [List.getElem?_map] at h
  obtain ⟨p, h1, h2⟩ := Option.map_eq_some_iff.mp h
  rw [List.getElem?_zip_eq_some] at h1
  exact ⟨p.1, p.2, h1.1, h1.2, h2.symm⟩
theorem zipL_len {l m : List D} : (zipL l m).length = min l.length m.length := by simp [zipL, pairL]
theorem Wk.zip {p q : Addr} {vs us : List V} {ds es : List D} (h1 : Rd g.F p (.lst vs)) (i1 : IsL Z g ds vs) (h2 : Rd g.F q (.lst us)) (i2 : IsL Z g es us) : Wk Z (Itz Z.K p q) (zipL ds es) g := by
  have q1 : ∀ g' s' σ' H', g.Le g' → Rel Z g' s' σ' H' → SqL Z.K H' p vs := fun g' s' σ' H' L R => .inl (rd_mono R.sub (L.rd h1 rfl))
  have q2 : ∀ g' s' σ' H', g.Le g' → Rel Z g' s' σ' H' → SqL Z.K H' q us := fun g' s' σ' H' L R => .inl (rd_mono R.sub (L.rd h2 rfl))
  have l1 := isL_len i1
  have l2 := isL_len i2
  refine ⟨fun g' s' σ' H' j L R hj => ?_, fun g' s' σ' H' L R => ⟨vs, us, q1 _ _ _ _ L R, q2 _ _ _ _ L R, by rw [zipL_len]; omega⟩, fun g' s' σ' H' j x H'' L R ⟨T0, v, w', e1, e2, e3, y1, y2⟩ d hd => ?_⟩
  · rw [zipL_len] at hj
    have j1 : j < vs.length := by omega
    have j2 : j < us.length := by omega
    exact ⟨vs, us, vs[j], us[j], q1 _ _ _ _ L R, q2 _ _ _ _ L R, by simp [j1], by simp [j2]⟩
  · subst e1 e3
    obtain ⟨dx, dy, k1, k2, rfl⟩ := zipL_get hd
    obtain ⟨v1, m1, n1⟩ := isL_get i1 k1
    obtain ⟨v2, m2, n2⟩ := isL_get i2 k2
    have y1 := y1 vs (q1 _ _ _ _ L R)
    have y2 := y2 us (q2 _ _ _ _ L R)
    rw [m1] at y1
    rw [m2] at y2
    cases y1
    cases y2
    exact pair_new R e2 (Is.mono L _ _ n1) (Is.mono L _ _ n2)
theorem Wk.zipT {p q : Addr} {vs us : List V} {ds es : List D} (h1 : SqT Z.K g.F p vs) (i1 : IsL Z g ds vs) (h2 : SqT Z.K g.F q us) (i2 : IsL Z g es us) : Wk Z (ItzT Z.K p q) (zipL ds es) g := by
  have q1 : ∀ g' s' σ' H', g.Le g' → Rel Z g' s' σ' H' → SqT Z.K H' p vs := fun g' s' σ' H' L R => sqT_mono R.sub (L.sqT h1)
  have q2 : ∀ g' s' σ' H', g.Le g' → Rel Z g' s' σ' H' → SqT Z.K H' q us := fun g' s' σ' H' L R => sqT_mono R.sub (L.sqT h2)
  have l1 := isL_len i1
  have l2 := isL_len i2
  refine ⟨fun g' s' σ' H' j L R hj => ?_, fun g' s' σ' H' L R => ⟨vs, us, q1 _ _ _ _ L R, q2 _ _ _ _ L R, by rw [zipL_len]; omega⟩, fun g' s' σ' H' j x H'' L R ⟨T0, v, w', e1, e2, e3, y1, y2⟩ d hd => ?_⟩
  · rw [zipL_len] at hj
    have j1 : j < vs.length := by omega
    have j2 : j < us.length := by omega
    exact ⟨vs, us, vs[j], us[j], q1 _ _ _ _ L R, q2 _ _ _ _ L R, by simp [j1], by simp [j2]⟩
  · subst e1 e3
    obtain ⟨dx, dy, k1, k2, rfl⟩ := zipL_get hd
    obtain ⟨v1, m1, n1⟩ := isL_get i1 k1
    obtain ⟨v2, m2, n2⟩ := isL_get i2 k2
    have y1 := y1 vs (q1 _ _ _ _ L R)
    have y2 := y2 us (q2 _ _ _ _ L R)
    rw [m1] at y1
    rw [m2] at y2
    cases y1
    cases y2
    exact pair_new R e2 (Is.mono L _ _ n1) (Is.mono L _ _ n2)
theorem ki_zip {elts : List Expr} {kk : Nat} {tpos p : Pos} (hg : Gl X "zip") (hm : X.mg "zip" = none) (hs : starX x = false) (hs2 : starX y = false) (ha : KE X cls fnm T W a x) (hb : KE X cls fnm T W b y) : KI X cls fnm T W .zip a b (.Tuple elts kk tpos) (.Call (.Name "zip" p) [x, y] [] pos) := by
  refine PI.at fun σ H R ⟨g, s, R1, h⟩ => ⟨_, pi_zipA hg hm (pa_cons ha (pa_cons hb pa_nil (starEach_plain hs2)) (starEach_plain hs)) (starEach_plain hs) (backTo_none (xs := [y]) (by simp [hs2])), ?_⟩
  have h : Out (zx X cls fnm) W σ g s H ((ev T a s).bind fun x s => (ev T b s).bind fun y s => ofO (itemsI .zip x.d y.d) s) _ := h
  refine seqE R1 h fun d v g2 s2 H2 R2 I2 _ _ h2 => seqE R2 h2 fun e u g3 s3 H3 R3 I3 le3 _ h3 => ?_
  have I2 := Is.mono le3 _ _ I2
  generalize d.d = dd at h3 I2
  generalize e.d = ee at h3 I3
  cases dd <;> first | (cases ee <;> exact h3.elim; done) | skip
  · cases ee <;> first | exact h3.elim | skip
    obtain ⟨q, vs, rfl, f1, f2⟩ := I2
    obtain ⟨q', vs', rfl, f1', f2'⟩ := I3
    exact ⟨q, q', vs, vs', rfl, .inr ⟨sqT_mono R3.sub f1, sqT_mono R3.sub f1', wk_out R3 h3 rfl (Wk.zipT f1 f2 f1' f2')⟩⟩
  · cases ee <;> first | exact h3.elim | skip
    obtain ⟨q, vs, rfl, f1, _, f2⟩ := I2
    obtain ⟨q', vs', rfl, f1', _, f2'⟩ := I3
    exact ⟨q, q', vs, vs', rfl, .inl ⟨SqL.of (R3.sub _ _ f1), SqL.of (R3.sub _ _ f1'), wk_out R3 h3 rfl (Wk.zip (.inl f1) f2 (.inl f1') f2')⟩⟩
end
end Pm
namespace Pm
open PySem PySem.Spec PyProof.Rows L2 RZ
open PySem.W (Frag)
section
variable {X : Cx} {cls : Nat → Addr} {fnm : Fnm} {T : Tab} {W : WX} {a b c : E} {x y z tg : Expr} {pos : Pos} {es : List E} {xs : List Expr}
variable {Z : Zx} {g g' g1 g2 : Gh} {s s' s1 s2 : S} {σ σ' σ1 σ2 : L2.St} {H H' H1 H2 : Hp} {d e : D} {v u : V} {Q : VK} {own : List Nat} {ex : List Addr}
theorem wipeL_len {loc : List (Option Sl)} : ∀ {own : List Nat}, (wipeL loc own).length = loc.length
  | [] => rfl
  | i :: r => by
    show ((wipeL loc r).set i none).length = _
    rw [List.length_set, wipeL_len]
theorem wipeL_some {loc : List (Option Sl)} {j : Nat} {x : Sl} : ∀ {own : List Nat}, (wipeL loc own)[j]? = some (some x) → loc[j]? = some (some x) ∧ j ∉ own
  | [], h => ⟨h, by simp⟩
  | i :: r, h => by
    have h : ((wipeL loc r).set i none)[j]? = some (some x) := h
    by_cases e : i = j
    · subst e
      by_cases hl : i < (wipeL loc r).length
      · rw [List.getElem?_set_self hl] at h
        cases h
      · rw [List.getElem?_eq_none (by simpa using hl)] at h
        cases h
    · rw [List.getElem?_set_ne e] at h
      obtain ⟨h1, h2⟩ := wipeL_some h
      exact ⟨h1, by simp only [List.mem_cons, not_or]; exact ⟨fun z => e z.symm, h2⟩⟩
theorem wipeL_out {loc : List (Option Sl)} {j : Nat} : ∀ {own : List Nat}, j ∉ own → (wipeL loc own)[j]? = loc[j]?
  | [], _ => rfl
  | i :: r, h => by
    show ((wipeL loc r).set i none)[j]? = _
    rw [List.getElem?_set_ne fun z => h (by rw [z]; exact List.mem_cons_self)]
    exact wipeL_out fun m => h (List.mem_cons_of_mem _ m)
theorem backL_out {old new : List (Option Sl)} {j : Nat} : ∀ {own : List Nat}, j ∉ own → (backL old new own)[j]? = new[j]?
  | [], _ => rfl
  | i :: r, h => by
    show ((backL old new r).set i (old.getD i none))[j]? = _
    rw [List.getElem?_set_ne fun z => h (by rw [z]; exact List.mem_cons_self)]
    exact backL_out fun m => h (List.mem_cons_of_mem _ m)
theorem backL_len {old new : List (Option Sl)} : ∀ {own : List Nat}, (backL old new own).length = new.length
  | [] => rfl
  | i :: r => by
    show ((backL old new r).set i _).length = _
    rw [List.length_set, backL_len]
theorem backL_in {old new : List (Option Sl)} {j : Nat} (hl : old.length = new.length) : ∀ {own : List Nat}, j ∈ own → (backL old new own)[j]? = old[j]?
  | [], h => by cases h
  | i :: r, h => by
    show ((backL old new r).set i (old.getD i none))[j]? = _
    by_cases e : i = j
    · subst e
      by_cases k : i < old.length
      · rw [List.getElem?_set_self (by rw [backL_len, ← hl]; exact k), List.getD_eq_getElem?_getD]
        rw [List.getElem?_eq_getElem k]
        rfl
      · rw [List.getElem?_eq_none (by rw [List.length_set, backL_len, ← hl]; omega), List.getElem?_eq_none (by omega)]
    · rw [List.getElem?_set_ne e]
      rcases List.mem_cons.mp h with z | z
      · exact absurd z.symm e
      · exact backL_in hl z
theorem cell_wipe {q : Pl} {c : Cell} (h : (s.wipe own).cell q = some c) : s.cell q = some c ∧ ∀ i ∈ own, q ≠ .loc i := by
  cases q with
  | res k => exact ⟨h, fun i _ => by simp⟩
  | loc j =>
    have h : (match (wipeL s.loc own)[j]? with
      | some (some (.ow c)) => some c
      | _ => none) = some c := h
    cases e : (wipeL s.loc own)[j]? with
    | none => rw [e] at h; cases h
    | some o => cases o with
      | none => rw [e] at h; cases h
      | some x =>
        obtain ⟨h1, h2⟩ := wipeL_some e
        rw [e] at h
        refine ⟨?_, fun i hi z => h2 (by cases z; exact hi)⟩
        show (match s.loc[j]? with
          | some (some (.ow c)) => some c
          | _ => none) = some c
        rw [h1]
        exact h
theorem padr_wipe {q : Pl} (h : ∀ i ∈ own, q ≠ .loc i) : padr g (wipe σ own) q = padr g σ q := by
  cases q with
  | res k => rfl
  | loc j =>
    have hj : j ∉ own := fun m => h j m rfl
    show (match (wipe σ own)[j]? with
      | some (some (.ref p)) => some p
      | _ => none) = _
    rw [wipe_out hj]
    rfl
theorem Rel.wipe (R1 : Rel Z g s σ H) : Rel Z g (s.wipe own) (L2.wipe σ own) H ∧ ∀ a, Own g (s.wipe own) (L2.wipe σ own) H a → Own g s σ H a := by
  refine ⟨⟨R1.sub, fun i d h => ?_, fun q c h => ?_, fun q q' c c' p p' ne h1 h2 h3 h4 => ?_, ?_, R1.rdom⟩, fun a ⟨q, c, p, h1, h2, h3⟩ => ?_⟩
  · obtain ⟨h1, h2⟩ := wipeL_some h
    obtain ⟨v, e1, e2⟩ := R1.fz i d h1
    exact ⟨v, by rw [wipe_out h2]; exact e1, e2⟩
  · obtain ⟨h1, h2⟩ := cell_wipe h
    obtain ⟨p, e1, e2⟩ := R1.cell q c h1
    exact ⟨p, by rw [padr_wipe h2]; exact e1, e2⟩
  · obtain ⟨k1, n1⟩ := cell_wipe h1
    obtain ⟨k2, n2⟩ := cell_wipe h2
    rw [padr_wipe n1] at h3
    rw [padr_wipe n2] at h4
    exact R1.apart q q' c c' p p' ne k1 k2 h3 h4
  · show (wipeL s.loc own).length = _
    rw [wipeL_len, wipe_length]
    exact R1.len
  · obtain ⟨k1, n1⟩ := cell_wipe h1
    rw [padr_wipe n1] at h2
    exact ⟨q, c, p, k1, h2, h3⟩
def Clean (own : List Nat) (s : S) : Prop := ∀ i ∈ own, ∀ x, s.loc[i]? ≠ some (some x)
theorem clean_wipe : Clean own (s.wipe own) := fun i hi x h => (wipeL_some (show (wipeL s.loc own)[i]? = some (some x) from h)).2 hi
theorem Rel.unhide (r : Rel Z g s σ H) (r' : Rel Z g' s' (L2.wipe σ own) H') (F : Fr (L2.wipe σ own) (L2.wipe σ own) g (s.wipe own) H g' s' H' ex) (cl : Clean own s') :
    Rel Z g' (s.over s' own) σ H' ∧ Fr σ σ g s H g' (s.over s' own) H' ex ∧ ∀ x v, VR Z g' s' (L2.wipe σ own) H' x v ex → VR Z g' (s.over s' own) σ H' x v ex := by
  have hlen : s.loc.length = s'.loc.length := by rw [r.len, r'.len, wipe_length]
  -- hidden: i in own, its cell in s
  have nr : ∀ i c p, i ∈ own → s.cell (.loc i) = some c → padr g σ (.loc i) = some p → ∀ a ∈ foot H p c, ¬ Own g (s.wipe own) (L2.wipe σ own) H a := fun i c p hi h1 h2 a ha ⟨q, c', p', h3, h4, h5⟩ => by
    obtain ⟨k1, n1⟩ := cell_wipe h3
    rw [padr_wipe n1] at h4
    exact r.apart (.loc i) q c c' p p' (Ne.symm (n1 i hi)) h1 k1 h2 h4 a ha h5
  have cl2 : ∀ i c p, s.cell (.loc i) = some c → padr g σ (.loc i) = some p → CellAt Z g H p c := fun i c p h1 h2 => by
    obtain ⟨p', e1, e2⟩ := r.cell _ _ h1
    rw [h2] at e1
    cases e1
    exact e2
  have same : ∀ i c p, i ∈ own → s.cell (.loc i) = some c → padr g σ (.loc i) = some p → ∀ a ∈ foot H p c, H' a = H a := fun i c p hi h1 h2 a ha => by
    obtain ⟨o, e⟩ := Option.ne_none_iff_exists'.mp ((cl2 i c p h1 h2).none_foot a ha).2
    rw [e]
    exact F.kept e (nr i c p hi h1 h2 a ha) ((cl2 i c p h1 h2).none_foot a ha).1
  have fnone : ∀ i c p, i ∈ own → s.cell (.loc i) = some c → padr g σ (.loc i) = some p → ∀ a ∈ foot H p c, g'.F a = none := fun i c p hi h1 h2 a ha =>
    F.fnew a ((cl2 i c p h1 h2).none_foot a ha).2 (nr i c p hi h1 h2 a ha) ((cl2 i c p h1 h2).none_foot a ha).1
  have far : ∀ a, (Own g' s' (L2.wipe σ own) H' a ∨ a ∈ ex) → ∀ i c p, i ∈ own → s.cell (.loc i) = some c → padr g σ (.loc i) = some p → a ∉ foot H p c := fun a h i c p hi h1 h2 ha => by
    rcases F.own a h with z | z
    · exact ((cl2 i c p h1 h2).none_foot a ha).2 z
    · exact nr i c p hi h1 h2 a ha z
  -- a cell of the whole
  have lc : ∀ q c, (s.over s' own).cell q = some c → (∃ i, i ∈ own ∧ q = .loc i ∧ s.cell (.loc i) = some c) ∨ ((∀ i ∈ own, q ≠ .loc i) ∧ s'.cell q = some c) := fun q c h => by
    cases q with
    | res k => exact .inr ⟨fun i _ => by simp, h⟩
    | loc j =>
      have h : (match (backL s.loc s'.loc own)[j]? with
        | some (some (.ow c)) => some c
        | _ => none) = some c := h
      by_cases hj : j ∈ own
      · rw [backL_in hlen hj] at h
        exact .inl ⟨j, hj, rfl, h⟩
      · rw [backL_out hj] at h
        exact .inr ⟨fun i hi z => hj (by cases z; exact hi), h⟩
  have pw : ∀ q, (∀ i ∈ own, q ≠ .loc i) → padr g' (L2.wipe σ own) q = padr g' σ q := fun q h => padr_wipe h
  have oo : ∀ a, Own g' (s.over s' own) σ H' a → Own g s σ H a ∨ Own g' s' (L2.wipe σ own) H' a := fun a ⟨q, c, p, h1, h2, h3⟩ => by
    rcases lc q c h1 with ⟨i, hi, rfl, k1⟩ | ⟨n1, k1⟩
    · have hp : padr g σ (.loc i) = some p := h2
      rw [foot_eq (same i c p hi k1 hp)] at h3
      exact .inl ⟨_, c, p, k1, hp, h3⟩
    · exact .inr ⟨q, c, p, k1, by rw [pw q n1]; exact h2, h3⟩
  have ow : ∀ a, Own g (s.wipe own) (L2.wipe σ own) H a → Own g s σ H a := r.wipe.2
  refine ⟨⟨r'.sub, fun i d h => ?_, fun q c h => ?_, fun q q' c c' p p' ne h1 h2 h3 h4 a ha hb => ?_, ?_, r'.rdom⟩, ⟨F.le, fun a o h n => F.keep a o h fun z => n (ow a z), fun a h n f => F.fnew a h (fun z => n (ow a z)) f, fun a h => ?_, F.mono, F.rl⟩, fun x v V => ?_⟩
  · have h : (backL s.loc s'.loc own)[i]? = some (some d) := h
    by_cases hi : i ∈ own
    · rw [backL_in hlen hi] at h
      obtain ⟨v, e1, e2⟩ := r.fz i d h
      exact ⟨v, e1, e2.mono F.le⟩
    · rw [backL_out hi] at h
      obtain ⟨v, e1, e2⟩ := r'.fz i d h
      rw [wipe_out hi] at e1
      exact ⟨v, e1, e2⟩
  · rcases lc q c h with ⟨i, hi, rfl, k1⟩ | ⟨n1, k1⟩
    · obtain ⟨p, e1, e2⟩ := r.cell _ _ k1
      exact ⟨p, e1, e2.move F.le (same i c p hi k1 e1) (fnone i c p hi k1 e1)⟩
    · obtain ⟨p, e1, e2⟩ := r'.cell q c k1
      exact ⟨p, by rw [← pw q n1]; exact e1, e2⟩
  · rcases lc q c h1 with ⟨i, hi, rfl, k1⟩ | ⟨n1, k1⟩
    · have hp : padr g σ (.loc i) = some p := h3
      rw [foot_eq (same i c p hi k1 hp)] at ha
      rcases lc q' c' h2 with ⟨j, hj, rfl, k2⟩ | ⟨n2, k2⟩
      · have hp' : padr g σ (.loc j) = some p' := h4
        rw [foot_eq (same j c' p' hj k2 hp')] at hb
        exact r.apart _ _ c c' p p' ne k1 k2 hp hp' a ha hb
      · rw [← pw q' n2] at h4
        exact far a (.inl ⟨_, c', p', k2, h4, hb⟩) i c p hi k1 hp ha
    · rw [← pw q n1] at h3
      rcases lc q' c' h2 with ⟨j, hj, rfl, k2⟩ | ⟨n2, k2⟩
      · have hp' : padr g σ (.loc j) = some p' := h4
        rw [foot_eq (same j c' p' hj k2 hp')] at hb
        exact far a (.inl ⟨_, c, p, k1, h3, ha⟩) j c' p' hj k2 hp' hb
      · rw [← pw q' n2] at h4
        exact r'.apart q q' c c' p p' ne k1 k2 h3 h4 a ha hb
  · show (backL s.loc s'.loc own).length = _
    rw [backL_len, ← hlen]
    exact r.len
  · rcases h with h | h
    · rcases oo a h with z | z
      · exact .inr z
      · exact (F.own a (.inl z)).imp id (ow a)
    · exact (F.own a (.inr h)).imp id (ow a)
  · cases x with
    | xc _ _ => exact V
    | fz d => exact V
    | ow c =>
      obtain ⟨p, h1, h2, h3, h4, h5⟩ := V
      refine ⟨p, h1, h2, h3, fun a ha ⟨q, c', p', k1, k2, k3⟩ => ?_, h5⟩
      rcases lc q c' k1 with ⟨i, hi, rfl, m1⟩ | ⟨n1, m1⟩
      · have hp : padr g σ (.loc i) = some p' := k2
        rw [foot_eq (same i c' p' hi m1 hp)] at k3
        exact far a (.inr ha) i c' p' hi m1 hp k3
      · rw [← pw q n1] at k2
        exact h4 a ha ⟨q, c', p', m1, k2, k3⟩
end
end Pm
namespace Pm
open PySem PySem.Spec PyProof.Rows L2 RZ
open PySem.W (Frag)
section
variable {X : Cx} {cls : Nat → Addr} {fnm : Fnm} {T : Tab} {W : WX} {a b c : E} {x y z tg : Expr} {pos : Pos} {es : List E} {xs : List Expr}
variable {Z : Zx} {g g' g1 g2 : Gh} {s s' s1 s2 : S} {σ σ' σ1 σ2 : L2.St} {H H' H1 H2 : Hp} {d e : D} {v u : V} {Q : VK} {own : List Nat} {ex : List Addr} {p : Addr} {o : HO}
structure Lone (g : Gh) (s : S) (σ : L2.St) (H : Hp) (p : Addr) (o : HO) : Prop where
  at_ : H p = some o
  nf : g.F p = none
  no : ¬ Own g s σ H p
theorem Lone.fr (h : Lone g s σ H p o) (F : Fr σ σ' g s H g' s' H' ex) : Lone g' s' σ' H' p o :=
  ⟨F.kept h.at_ h.no h.nf, F.fnew p (by rw [h.at_]; simp) h.no h.nf, fun q => (F.own p (.inl q)).elim (fun z => by rw [h.at_] at z; cases z) h.no⟩
theorem Fr.plus (F : Fr σ σ' g s H g' s' H' ex) (h : H p = none) : Fr σ σ' g s H g' s' H' [p] :=
  ⟨F.le, F.keep, F.fnew, fun a ha => by
    rcases ha with ha | ha
    · exact F.own a (.inl ha)
    · have e : a = p := by simpa using ha
      rw [e]
      exact .inl h, F.mono, F.rl⟩
theorem Rel.poke (R1 : Rel Z g s σ H) (h : Lone g s σ H p o) (o' : HO) : Rel Z g s σ (upd H p o') ∧ Lone g s σ (upd H p o') p o' ∧ ∀ a, Own g s σ (upd H p o') a ↔ Own g s σ H a := by
  have fe : ∀ q c x, s.cell q = some c → padr g σ q = some x → (∀ a ∈ foot H x c, upd H p o' a = H a) := fun q c x h1 h2 a ha => upd_ne fun z => h.no (by rw [← z]; exact ⟨q, c, x, h1, h2, ha⟩)
  have ow : ∀ a, Own g s σ (upd H p o') a ↔ Own g s σ H a := fun a => by
    constructor
    · rintro ⟨q, c, x, h1, h2, h3⟩
      rw [foot_eq (fe q c x h1 h2)] at h3
      exact ⟨q, c, x, h1, h2, h3⟩
    · rintro ⟨q, c, x, h1, h2, h3⟩
      rw [← foot_eq (fe q c x h1 h2)] at h3
      exact ⟨q, c, x, h1, h2, h3⟩
  refine ⟨⟨fun a u e => ?_, R1.fz, fun q c hq => ?_, fun q q' c c' x x' ne h1 h2 h3 h4 a ha => ?_, R1.len, R1.rdom⟩, ⟨upd_same, h.nf, fun q => h.no ((ow p).mp q)⟩, ow⟩
  · rw [upd_ne (ne_of_none e h.nf)]
    exact R1.sub a u e
  · obtain ⟨x, e1, e2⟩ := R1.cell q c hq
    exact ⟨x, e1, e2.move (.refl g) (fe q c x hq e1) fun a ha => (e2.none_foot a ha).1⟩
  · rw [foot_eq (fe q c x h1 h3)] at ha
    rw [foot_eq (fe q' c' x' h2 h4)]
    exact R1.apart q q' c c' x x' ne h1 h2 h3 h4 a ha
theorem Fr.poke {H0 : Hp} {g0 : Gh} {s0 : S} {σ0 : L2.St} (F : Fr σ0 σ g0 s0 H0 g s H ex) (h0 : H0 p = none) (h : Lone g s σ H p o) (R1 : Rel Z g s σ H) (o' : HO) : Fr σ0 σ g0 s0 H0 g s (upd H p o') [p] := by
  obtain ⟨_, _, ow⟩ := R1.poke h o'
  refine ⟨F.le, fun a u e n => ?_, F.fnew, fun a ha => ?_, fun a ha => F.mono a (mono_upd a ha), F.rl⟩
  · rw [upd_ne (ne_of_none e h0)]
    exact F.keep a u e n
  · rcases ha with ha | ha
    · exact F.own a (.inl ((ow a).mp ha))
    · have e : a = p := by simpa using ha
      rw [e]
      exact .inl h0
theorem Fr.store {loc : List (Option Sl)} {vs : List Nat} (h : Stored g s σ H vs loc σ') : Fr σ σ' g s H g ⟨loc, s.res⟩ H [] :=
  ⟨.refl g, fun _ _ e _ => .inl e, fun _ _ _ f => f, fun a ha => .inr (ha.elim (h.own a) fun z => nomatch z), fun _ e => e, Nat.le_refl _⟩
theorem Fr.wipe (R1 : Rel Z g s σ H) : Fr σ (L2.wipe σ own) g s H g (s.wipe own) H [] :=
  ⟨.refl g, fun _ _ e _ => .inl e, fun _ _ _ f => f, fun a ha => .inr (ha.elim (R1.wipe.2 a) fun z => nomatch z), fun _ e => e, Nat.le_refl _⟩
theorem wipe_in {σ : L2.St} {i : Nat} : ∀ {own : List Nat}, i ∈ own → i < σ.length → (L2.wipe σ own)[i]? = some none
  | j :: r, h, hl => by
    show ((L2.wipe σ r).set j none)[i]? = _
    by_cases e : j = i
    · subst e
      rw [List.getElem?_set_self (by rw [wipe_length]; exact hl)]
    · rw [List.getElem?_set_ne e]
      rcases List.mem_cons.mp h with z | z
      · exact absurd z.symm e
      · exact wipe_in z hl
theorem wipe_stored {loc : List (Option Sl)} {vs : List Nat} (h : Stored g s (L2.wipe σ own) H vs loc σ') (hv : ∀ i ∈ vs, i ∈ own) : L2.wipe σ' own = L2.wipe σ own := by
  have hl : σ'.length = σ.length := h.len.trans (wipe_length σ own)
  refine List.ext_getElem? fun i => ?_
  by_cases hi : i ∈ own
  · by_cases k : i < σ.length
    · rw [wipe_in hi k, wipe_in hi (by omega)]
    · rw [List.getElem?_eq_none (by rw [wipe_length]; omega), List.getElem?_eq_none (by rw [wipe_length]; omega)]
  · rw [wipe_out hi, h.off i fun z => hi (hv i z)]
theorem lcGo_len {tgt : Tg} {ft : S → R Bool} {fe : S → R Sl} : ∀ {l : List D} {s : S} {acc r : List D} {s' : S}, lcGo own tgt ft fe l s acc = .ok r s' → acc.length ≤ r.length
  | [], s, acc, r, s', h => by cases h; exact Nat.le_refl _
  | x :: xs, s, acc, r, s', h => by
    unfold lcGo at h
    cases e : bindT tgt x s.loc with
    | none => rw [e] at h; cases h
    | some loc =>
      rw [e] at h
      dsimp only at h
      cases e2 : ft ⟨loc, s.res⟩ with
      | bad => rw [e2] at h; cases h
      | exc _ _ _ => rw [e2] at h; cases h
      | ok b s2 =>
        rw [e2] at h
        cases b with
        | false => exact lcGo_len (show lcGo own tgt ft fe xs (s2.wipe own) acc = .ok r s' from h)
        | true =>
          have h : (fe s2).bind (fun d s3 => lcGo own tgt ft fe xs (s3.wipe own) (acc ++ [d.d])) = .ok r s' := h
          cases e3 : fe s2 with
          | bad => rw [e3] at h; cases h
          | exc _ _ _ => rw [e3] at h; cases h
          | ok d s3 =>
            rw [e3] at h
            have z := lcGo_len (show lcGo own tgt ft fe xs (s3.wipe own) (acc ++ [d.d]) = .ok r s' from h)
            rw [List.length_append] at z
            simp only [List.length_cons, List.length_nil] at z
            omega
abbrev W0 : WX := fun _ _ _ _ => False
def rdTs (Z : Zx) (T : Tab) (ifs : Option E) : TT := fun σ H Q => ∃ g s, Rel Z g s σ H ∧ Out Z W0 σ g s H (evT T ifs s) (fun b _ _ H' _ => Q b H')
theorem kts_nil : PTs X [] (rdTs (zx X cls fnm) T none) := ⟨fun pins s σ H Q I ⟨g, s0, R1, h⟩ => pts_nil.run pins s σ H Q I (h g H [] R1 .refl)⟩
theorem kts_one (ha : KT X cls fnm T W0 a x) : PTs X [x] (rdTs (zx X cls fnm) T (some a)) := by
  refine ⟨fun pins s σ H Q I ⟨g, s0, R1, h⟩ => (pts_one ha).run pins s σ H Q I ⟨g, s0, R1, ?_⟩⟩
  have h : Out (zx X cls fnm) W0 σ g s0 H ((ev T a s0).bind fun x s => match x.d with
    | .bl b => R.ok b s
    | _ => .bad) (fun b _ _ H' _ => Q b H') := h
  refine h.bind.mono fun x g1 s1 H1 ex R' F' q => ?_
  obtain ⟨b, e, q⟩ := bl_of (f := fun b => R.ok b s1) q
  exact ⟨b, e, q g1 H1 [] R' F'.drop⟩
theorem ev_lc {elt : E} {tgt : Tg} {k : Ik} {ifs : Option E} (s : S) : ev T (.lc own elt tgt k a b ifs) s = (evI T k a b s).bind fun items s => (lcGo own tgt (fun s => evT T ifs s) (fun s => ev T elt s) items (s.wipe own) []).calm.bind fun acc s2 => if acc.length ≤ lim then R.ok (Sl.ow (.lst acc)) (s.over s2 own) else .bad := by
  unfold evI
  rw [ev]
  cases ev T a s with
  | bad => rfl
  | exc _ _ _ => rfl
  | ok x s1 =>
    show R.bind (if k.two then ev T b s1 else .ok (.fz .non) s1) _ = R.bind (R.bind (if k.two then ev T b s1 else .ok (.fz .non) s1) _) _
    cases (if k.two then ev T b s1 else .ok (.fz .non) s1) with
    | bad => rfl
    | exc _ _ _ => rfl
    | ok y s2 =>
      show (match itemsI k x.d y.d with | some items => _ | none => R.bad) = R.bind (ofO (itemsI k x.d y.d) s2) _
      cases itemsI k x.d y.d <;> rfl
theorem calm_ok {α β : Type} {r : R α} {f : α → S → R β} {P : β → Gh → S → Hp → List Addr → Prop} (h : Out Z W σ g s H (r.calm.bind f) P) : ∃ a s1, r = .ok a s1 ∧ Out Z W σ g s H (f a s1) P := by
  cases r with
  | bad => exact h.elim
  | exc _ _ _ => exact h.elim
  | ok a s1 => exact ⟨a, s1, rfl, h⟩
theorem lc_run {elt : E} {tgt : Tg} {ifs : Option E} {items : List D} {J : It} (hv : ∀ i ∈ tgt.slots, i ∈ own) (R1 : Rel Z g s σ H) (w : Wk Z J items g)
    (h : Out Z W σ g s H ((lcGo own tgt (fun s => evT T ifs s) (fun s => ev T elt s) items (s.wipe own) []).calm.bind fun acc s2 => if acc.length ≤ lim then R.ok (Sl.ow (.lst acc)) (s.over s2 own) else .bad) (PV Z σ Q)) :
    ∀ D, H D = none → ∃ Wm : Nat → Nat → Hp → Prop, (∃ m, Wm 0 m (upd H D (.lst []))) ∧ ∀ i m H, Wm i m H →
      (J.stop i H ∧ Q (.ref D) H) ∨ (J.go i H ∧ ∃ Nx : Hp → Prop, (∀ H', Nx H' → ∃ m', m' < m ∧ Wm (i + 1) m' H') ∧ ∀ x H', J.yld i H x H' → rdG Z tgt x (L2.wipe σ own) H' fun σ2 H2 => L2.wipe σ2 own = L2.wipe σ own ∧ rdTs Z T ifs σ2 H2 fun b H3 =>
        if b = true then rdE Z T W0 elt σ2 H3 fun y H4 => ∃ acc, H4 D = some (.lst acc) ∧ acc.length < sizeLine ∧ Nx (upd H4 D (.lst (acc ++ [y]))) else Nx H3) := by
  intro p hp
  obtain ⟨accF, sF, eF, h⟩ := calm_ok h
  by_cases hz : accF.length ≤ lim
  case neg => rw [if_neg hz] at h; exact h.elim
  rw [if_pos hz] at h
  let Pv : Nat → Hp → Prop := fun i H' => ∃ gi si acc vs, Rel Z gi si (L2.wipe σ own) H' ∧ Fr (L2.wipe σ own) (L2.wipe σ own) g (s.wipe own) H gi si H' [p] ∧ Clean own si ∧ Lone gi si (L2.wipe σ own) H' p (.lst vs) ∧ IsL Z gi acc vs ∧ lcGo own tgt (fun s => evT T ifs s) (fun s => ev T elt s) (items.drop i) si acc = .ok accF sF
  have h0 : Pv 0 (upd H p (.lst [])) := by
    have Rw := (R1.wipe (own := own)).1
    obtain ⟨r1, ow⟩ := Rw.alloc (o := .lst []) hp
    obtain ⟨f1, f2⟩ := Rw.free hp
    refine ⟨g, s.wipe own, [], [], r1, ⟨.refl g, fun a u e _ => .inl (by rw [upd_ne (ne_of_none e hp)]; exact e), fun a _ _ f => f, fun a ha => ?_, fun a ha => mono_upd a ha, Nat.le_refl _⟩, clean_wipe, ⟨upd_same, f1, fun q => f2 ((ow p).mp q)⟩, rfl, by simpa using eF⟩
    rcases ha with ha | ha
    · exact .inr ((ow a).mp ha)
    · have e : a = p := by simpa using ha
      rw [e]
      exact .inl hp
  -- the turn's end
  have fin : ∀ (i : Nat) (gi : Gh) (si : S) (Hi : Hp) (σ2 : L2.St) (g3 : Gh) (s3 : S) (H3 : Hp) (acc : List D) (vs : List V), Fr (L2.wipe σ own) (L2.wipe σ own) g (s.wipe own) H gi si Hi [p] → Rel Z g3 s3 σ2 H3 → Fr (L2.wipe σ own) σ2 g (s.wipe own) H g3 s3 H3 [p] → L2.wipe σ2 own = L2.wipe σ own → Lone g3 s3 σ2 H3 p (.lst vs) → IsL Z g3 acc vs →
      lcGo own tgt (fun s => evT T ifs s) (fun s => ev T elt s) (items.drop (i + 1)) (s3.wipe own) acc = .ok accF sF → Pv (i + 1) H3 := fun i gi si Hi σ2 g3 s3 H3 acc vs _ R3 F3 e2 l3 a3 q => by
    have Rw := (R3.wipe (own := own)).1
    have Fw := Fr.wipe (own := own) R3
    rw [e2] at Rw Fw
    exact ⟨g3, s3.wipe own, acc, vs, Rw, (F3.trans Fw).plus hp, clean_wipe, l3.fr Fw, a3, q⟩
  refine ⟨fun i m H' => m = items.length - i ∧ i ≤ items.length ∧ Pv i H', ⟨items.length, by simp, Nat.zero_le _, h0⟩, ?_⟩
  rintro i m Hi ⟨rfl, hi, gi, si, acc, vs, Ri, Fi, Ci, Li, Ai, qi⟩
  by_cases hlt : i < items.length
  · refine .inr ⟨w.go gi si _ Hi i Fi.le Ri hlt, Pv (i + 1), fun H' p' => ⟨items.length - (i + 1), by omega, rfl, hlt, p'⟩, fun x H' y => ?_⟩
    have hd : items.drop i = items[i] :: items.drop (i + 1) := List.drop_eq_getElem_cons hlt
    rw [hd] at qi
    obtain ⟨g2, R2, F2, I2⟩ := w.yld gi si _ Hi i x H' Fi.le Ri y items[i] (by simp [hlt])
    unfold lcGo at qi
    cases hb : bindT tgt items[i] si.loc with
    | none => rw [hb] at qi; cases qi
    | some loc =>
      rw [hb] at qi
      dsimp only at qi
      refine ⟨g2, si, items[i], loc, R2, I2, hb, fun σ2 R3 St => ?_⟩
      have we := wipe_stored St hv
      refine ⟨we, g2, ⟨loc, si.res⟩, R3, ?_⟩
      cases ht : evT T ifs ⟨loc, si.res⟩ with
      | bad => rw [ht] at qi; cases qi
      | exc _ _ _ => rw [ht] at qi; cases qi
      | ok bb s3 =>
        rw [ht] at qi
        intro g3 H3 ex3 R4 F4
        have Fa := ((Fi.trans F2).trans (Fr.store St)).trans F4
        have La := ((Li.fr F2).fr (Fr.store St)).fr F4
        have Aa := IsL.mono (F2.le.trans F4.le) _ _ Ai
        cases bb with
        | false =>
          show Pv (i + 1) H3
          exact fin i gi si Hi σ2 g3 s3 H3 acc vs Fi R4 (Fa.plus hp) we La Aa qi
        | true =>
          show rdE Z T W0 elt σ2 H3 fun y H4 => ∃ acc, H4 p = some (.lst acc) ∧ acc.length < sizeLine ∧ Pv (i + 1) (upd H4 p (.lst (acc ++ [y])))
          refine ⟨g3, s3, R4, ?_⟩
          have qi : (ev T elt s3).bind (fun d s3 => lcGo own tgt (fun s => evT T ifs s) (fun s => ev T elt s) (items.drop (i + 1)) (s3.wipe own) (acc ++ [d.d])) = .ok accF sF := qi
          cases he : ev T elt s3 with
          | bad => rw [he] at qi; cases qi
          | exc _ _ _ => rw [he] at qi; cases qi
          | ok xd s4 =>
            rw [he] at qi
            have qi : lcGo own tgt (fun s => evT T ifs s) (fun s => ev T elt s) (items.drop (i + 1)) (s4.wipe own) (acc ++ [xd.d]) = .ok accF sF := qi
            intro g4 H4 ex4 R5 F5 v V
            obtain ⟨g5, R6, F6, I6⟩ := V.freeze R5 F5
            have Lb := La.fr F6
            have Fb := Fa.trans F6
            have Ab := IsL.mono F6.le _ _ Aa
            have hl := lcGo_len qi
            rw [List.length_append, List.length_cons, List.length_nil] at hl
            refine ⟨vs, Lb.at_, ?_, ?_⟩
            · rw [isL_len Ab]
              have := lim_le
              omega
            · obtain ⟨R7, L7, _⟩ := R6.poke Lb (.lst (vs ++ [v]))
              exact fin i gi si Hi σ2 g5 s4 _ (acc ++ [xd.d]) (vs ++ [v]) Fi R7 (Fb.poke hp Lb R6 _) we L7 (isL_app Ab ⟨v, [], rfl, I6, rfl⟩) qi
  · have e : i = items.length := by omega
    subst e
    refine .inl ⟨w.stop gi si _ Hi Fi.le Ri, ?_⟩
    rw [List.drop_length] at qi
    cases qi
    obtain ⟨R8, F8, lift⟩ := R1.unhide Ri Fi Ci
    exact h gi Hi [p] R8 F8 _ (lift _ _ ⟨p, rfl, ⟨Li.nf, vs, Li.at_, Nat.le_trans hz lim_le, Ai⟩, rfl, fun a ha => by
      have e : a = p := by simpa using ha
      rw [e]
      exact Li.no, rfl⟩)
theorem ke_lc {elt : E} {eltx : Expr} {tgt : Tg} {k : Ik} {ifs : Option E} {ifx : List Expr} {iter : Expr} {scope : Scope} {ow : List (Str × Nat)} (hc : X.calm = true) (hN : X.N.Nodup) (hi : KI X cls fnm T W k a b tg iter) (ok : BlkOk X.N X.env.scope scope ow) (hv : ∀ i ∈ tgt.slots, i ∈ ow.map (·.2))
    (hg : ∀ (s : Shared) (H : Hp) (C : Addr) (cl : List (Str × Addr)) (fp : List Addr), KG (X.blk s H scope (compEnvC scope cl C X.env) fp) cls fnm tgt tg)
    (ht : ∀ (s : Shared) (H : Hp) (C : Addr) (cl : List (Str × Addr)) (fp : List Addr), PTs (X.blk s H scope (compEnvC scope cl C X.env) fp) ifx (rdTs (zx X cls fnm) T ifs))
    (he : ∀ (s : Shared) (H : Hp) (C : Addr) (cl : List (Str × Addr)) (fp : List Addr), KE (X.blk s H scope (compEnvC scope cl C X.env) fp) cls fnm T W0 elt eltx) (hs : ∀ x, foldedSetIterable iter X.env x = pure x) :
    KE X cls fnm T W (.lc (ow.map (·.2)) elt tgt k a b ifs) (.ListComp eltx [⟨tg, iter, ifx, 0⟩] scope pos) := by
  refine PE.weak (pe_lc (g := rdG (zx X cls fnm) tgt) (te := rdE (zx X cls fnm) T W0 elt) hc hN hi ok (fun s H C cl fp => hg s H C cl fp) ht (fun s H C cl fp => he s H C cl fp) hs) fun σ H Q ⟨g, s, R1, h⟩ => ?_
  rw [ev_lc] at h
  refine ⟨g, s, R1, h.bind.mono fun items g1 s1 H1 ex R' F' q J w => ?_⟩
  exact lc_run hv R' w (q.later F'.drop)
end
end Pm
namespace Pm
open PySem PySem.Spec PyProof.Rows L2 RZ
open PySem.W (Frag)
section
variable {X : Cx} {cls : Nat → Addr} {fnm : Fnm} {T : Tab} {W : WX} {a b c : E} {x y z tg : Expr} {pos pos' : Pos} {es : List E} {xs : List Expr} {st : St} {sts : List St} {sx : Stmt} {sxs : List Stmt}
variable {Z : Zx} {g g' g1 g2 : Gh} {s s' s1 s2 : S} {σ σ' σ1 σ2 : L2.St} {H H' H1 H2 : Hp} {d e : D} {v u : V} {Q : VK} {D : Ends}
def OutS (Z : Zx) (W : WX) (σ : L2.St) (g : Gh) (s : S) (H : Hp) (r : R Fl) (D : Ends) : Prop := match r with
  | .ok .nx s' => ∀ g' σ' H', Rel Z g' s' σ' H' → Fr σ σ' g s H g' s' H' [] → D.nx σ' H'
  | .ok (.ret x) s' => ∀ g' σ' H' ex v, Rel Z g' s' σ' H' → Fr σ σ' g s H g' s' H' ex → VR Z g' s' σ' H' x v ex → D.rt v H'
  | .exc k fs s' => ∀ g' σ' H' cls d, Rel Z g' s' σ' H' → Fr σ σ' g s H g' s' H' [] → ExAt Z g' H' k fs cls d → W cls d σ' H'
  | .bad => False
def rdS (Z : Zx) (T : Tab) (W : WX) (st : St) : TS := fun D σ H => ∃ g s, Rel Z g s σ H ∧ OutS Z W σ g s H (Pm.ex T st s) D
def rdSs (Z : Zx) (T : Tab) (W : WX) (st : List St) : TS := fun D σ H => ∃ g s, Rel Z g s σ H ∧ OutS Z W σ g s H (exL T st s) D
abbrev KS (X : Cx) (cls : Nat → Addr) (fnm : Fnm) (T : Tab) (W : WX) (st : St) (x : Stmt) : Prop := PS X x (rdS (zx X cls fnm) T W st)
abbrev KSs (X : Cx) (cls : Nat → Addr) (fnm : Fnm) (T : Tab) (W : WX) (st : List St) (x : List Stmt) : Prop := PSs X x (rdSs (zx X cls fnm) T W st)
theorem PS.weak {t t' : TS} (h : PS X sx t) (w : ∀ D σ H, t' D σ H → t D σ H) : PS X sx t' := ⟨fun pins s σ H D I q => h.run pins s σ H D I (w _ _ _ q)⟩
theorem PSs.weak {t t' : TS} (h : PSs X sxs t) (w : ∀ D σ H, t' D σ H → t D σ H) : PSs X sxs t' := ⟨fun pins s σ H D I q => h.run pins s σ H D I (w _ _ _ q)⟩
theorem OutS.later {r : R Fl} (h : OutS Z W σ g s H r D) (F : Fr σ σ1 g s H g1 s1 H1 []) : OutS Z W σ1 g1 s1 H1 r D := by
  cases r with
  | ok x s' => cases x with
    | nx => exact fun g' σ' H' R' F' => h g' σ' H' R' (F.trans F')
    | ret x => exact fun g' σ' H' ex v R' F' V => h g' σ' H' ex v R' (F.trans F') V
  | exc c fs s' => exact fun g' σ' H' cls d R' F' => h g' σ' H' cls d R' (F.trans F')
  | bad => exact h
theorem OutS.bindE {α : Type} {r : R α} {f : α → S → R Fl} (h : OutS Z W σ g s H (r.bind f) D) : Out Z W σ g s H r (fun x _ s1 _ _ => OutS Z W σ g s H (f x s1) D) := by
  cases r with
  | ok x s' => exact fun _ _ _ _ _ => h
  | exc c fs s' => exact fun g' H' cls d R' F' X' => h g' σ H' cls d R' F' X'
  | bad => exact h
theorem seqXS {f : Sl → S → R Fl} {K : VK} (R1 : Rel Z g s σ H) (h : OutS Z W σ g s H ((ev T a s).bind f) D)
    (k : ∀ x v g2 s1 H1, Rel Z g2 s1 σ H1 → Is Z g2 x.d v → g.Le g2 → OutS Z W σ g2 s1 H1 (f x s1) D → K v H1) : rdE Z T W a σ H K :=
  ⟨g, s, R1, h.bindE.mono fun x g1 s1 H1 ex R' F' q v V => by
    obtain ⟨g2, R2, F2, I2⟩ := V.freeze R' F'
    exact k x v g2 s1 H1 R2 I2 F2.le (q.later F2)⟩
theorem seqXV {f : Sl → S → R Fl} {K : VK} (R1 : Rel Z g s σ H) (h : OutS Z W σ g s H ((ev T a s).bind f) D)
    (k : ∀ x v g2 s1 H1 ex, Rel Z g2 s1 σ H1 → VR Z g2 s1 σ H1 x v ex → Fr σ σ g s H g2 s1 H1 ex → OutS Z W σ g s H (f x s1) D → K v H1) : rdE Z T W a σ H K :=
  ⟨g, s, R1, h.bindE.mono fun x g1 s1 H1 ex R' F' q v V => k x v g1 s1 H1 ex R' V F' q⟩
theorem seqXR {f : Rf → S → R Fl} {K : VK} (R1 : Rel Z g s σ H) (h : OutS Z W σ g s H ((evR T a s).bind f) D)
    (k : ∀ r v g2 s1 H1, Rel Z g2 s1 σ H1 → RfAt Z g2 σ r v → g.Le g2 → OutS Z W σ g2 s1 H1 (f r s1) D → K v H1) : rdR Z T W a σ H K :=
  ⟨g, s, R1, h.bindE.mono fun r g1 s1 H1 ex R' F' q v A => k r v g1 s1 H1 R' A F'.le (q.later F'.drop)⟩
theorem seqXT {f : Sl → S → R Fl} {K : Bool → Hp → Prop} (R1 : Rel Z g s σ H) (h : OutS Z W σ g s H ((ev T a s).bind f) D)
    (hb : ∀ x s1 g2 H1, Rel Z g2 s1 σ H1 → OutS Z W σ g2 s1 H1 (f x s1) D → ∃ b, x.d = .bl b)
    (k : ∀ x b g2 s1 H1, Rel Z g2 s1 σ H1 → x.d = .bl b → OutS Z W σ g2 s1 H1 (f x s1) D → K b H1) : rdT Z T W a σ H K :=
  ⟨g, s, R1, h.bindE.mono fun x g1 s1 H1 ex R' F' q => by
    have q' := q.later F'.drop
    obtain ⟨b, e⟩ := hb x s1 g1 H1 R' q'
    exact ⟨b, e, k x b g1 s1 H1 R' e q'⟩⟩
theorem OutS.nx (R1 : Rel Z g s σ H) (h : OutS Z W σ g s H (.ok .nx s) D) : D.nx σ H := h g σ H R1 .refl
theorem kss_nil : KSs X cls fnm T W [] [] := PSs.weak pss_nil fun D σ H ⟨g, s, R1, h⟩ => OutS.nx R1 h
theorem kss_cons (h1 : KS X cls fnm T W st sx) (h2 : KSs X cls fnm T W sts sxs) : KSs X cls fnm T W (st :: sts) (sx :: sxs) := by
  refine PSs.weak (pss_cons h1 h2) fun D σ H ⟨g, s, R1, h⟩ => ⟨g, s, R1, ?_⟩
  have h : OutS (zx X cls fnm) W σ g s H ((Pm.ex T st s).bind fun f s => match f with
    | .nx => exL T sts s
    | .ret a => .ok (.ret a) s) D := h
  cases e : Pm.ex T st s with
  | bad =>
    rw [e] at h
    exact h
  | exc c fs s1 =>
    rw [e] at h
    exact h
  | ok f s1 =>
    rw [e] at h
    cases f with
    | nx => exact fun g' σ' H' R' F' => ⟨g', s1, R', OutS.later (show OutS (zx X cls fnm) W σ g s H (exL T sts s1) D from h) F'⟩
    | ret x => exact h
def isComp : Expr → Bool
  | .ListComp _ _ _ _ => true
  | .SetComp _ _ _ _ => true
  | .DictComp _ _ _ _ _ => true
  | _ => false
theorem noSwap {t : Option Expr} {l : Nat} {env : PySem.Env} (h : isComp x = false) : swapsWith x t l env = pure false := by
  unfold swapsWith
  cases x <;> first | rfl | cases h
theorem ks_pass : KS X cls fnm T W .pass (.Pass pos) := PS.weak ps_pass fun D σ H ⟨g, s, R1, h⟩ => OutS.nx R1 h
theorem ks_expr (hs : isComp x = false) (ha : KE X cls fnm T W a x) : KS X cls fnm T W (.expr a) (.Expr x pos) := by
  refine PS.weak (ps_expr ha (noSwap hs)) fun D σ H ⟨g, s, R1, h⟩ => ?_
  unfold Pm.ex at h
  exact seqXS R1 h fun x v g2 s2 H2 R2 I2 _ h2 => OutS.nx R2 h2
theorem ks_setK {t : TE} {i : Nat} {n : Str} (hi : X.N[i]? = some n) (he : PS X sx (tAsg t (gName i))) (w : ∀ σ H Q, RE X cls fnm T W a σ H Q → t σ H Q) (hl : i < X.N.length) : KS X cls fnm T W (.asg (.var i) a) sx := by
  refine ⟨fun pins sh σ H D I ⟨g, s, R1, h⟩ => he.run pins sh σ H D I (w σ H _ ?_)⟩
  unfold Pm.ex at h
  refine seqXV R1 h fun x v g2 s2 H2 ex R2 V2 F2 h2 => ?_
  have li : i < s2.loc.length := by rw [R2.len, I.len]; exact hl
  obtain ⟨R3, o3⟩ := R2.setV i li V2
  exact h2 g2 _ H2 R3 ⟨F2.le, F2.keep, F2.fnew, fun a ha => F2.own a (ha.elim (fun z => o3 a z) fun z => nomatch z), F2.mono, F2.rl⟩
theorem ks_set {i : Nat} {n : Str} (hN : X.N.Nodup) (hi : X.N[i]? = some n) (hx : Loc X.env.scope n) (hf : X.fn n = true ∨ X.env.scope.names.lookup n = some .local) (hs : isComp x = false) (ha : KE X cls fnm T W a x) : KS X cls fnm T W (.asg (.var i) a) (.Assign [.Name n pos'] x pos) :=
  ks_setK hi (ps_set hN hi hx ha (noSwap hs) hf) (fun _ _ _ q => q) (List.getElem?_eq_some_iff.mp hi).1
def Tg.isVar : Tg → Bool
  | .var _ => true
  | _ => false
theorem ks_asg {t : Tg} (hv : t.isVar = false) (hw : swappedStores [tg] x X.env = pure none) (ht : starX tg = false) (hs : isComp x = false) (ha : KE X cls fnm T W a x) (hg : KG X cls fnm t tg) : KS X cls fnm T W (.asg t a) (.Assign [tg] x pos) := by
  have h1 : (assignEach [tg] X.env).map (·.2) = [assign tg X.env] := by cases tg <;> first | rfl | cases ht
  refine PS.weak (ps_asg ha hg (noSwap hs) hw h1) fun D σ H ⟨g, s, R1, h⟩ => ?_
  have h : OutS (zx X cls fnm) W σ g s H ((ev T a s).bind fun x s => match bindT t x.d s.loc with
    | some loc => R.ok .nx ⟨loc, s.res⟩
    | none => .bad) D := by
    cases t with
    | var i => cases hv
    | tup l => exact h
  refine seqXS R1 h fun x v g2 s2 H2 R2 I2 _ h2 => ?_
  cases hb : bindT t x.d s2.loc with
  | none =>
    rw [hb] at h2
    exact h2.elim
  | some loc =>
    rw [hb] at h2
    exact ⟨g2, s2, x.d, loc, R2, I2, hb, fun σ' R3 St => h2 g2 σ' H2 R3 (Fr.store St)⟩
theorem ks_if {p q : List St} {px qx : List Stmt} (hc : KT X cls fnm T W c z) (hp : KSs X cls fnm T W p px) (hq : KSs X cls fnm T W q qx) : KS X cls fnm T W (.ite c p q) (.If z px qx pos) := by
  refine PS.weak (ps_if hc hp hq) fun D σ H ⟨g, s, R1, h⟩ => ?_
  unfold Pm.ex at h
  have inv : ∀ {x : Sl} {s1 : S} {g2 : Gh} {H1 : Hp}, OutS (zx X cls fnm) W σ g2 s1 H1 (match x.d with
      | .bl true => exL T p s1
      | .bl false => exL T q s1
      | _ => .bad) D → ∃ b, x.d = .bl b ∧ OutS (zx X cls fnm) W σ g2 s1 H1 (if b = true then exL T p s1 else exL T q s1) D := fun {x s1 g2 H1} h => by
    cases e : x.d <;> rw [e] at h <;> first | exact h.elim | skip
    rename_i b
    cases b
    · exact ⟨false, rfl, h⟩
    · exact ⟨true, rfl, h⟩
  refine seqXT R1 h (fun x s1 g2 H1 _ q => ?_) fun x b g2 s1 H1 R2 e q => ?_
  · obtain ⟨b, e, _⟩ := inv q
    exact ⟨b, e⟩
  · obtain ⟨b', e', q'⟩ := inv q
    rw [e] at e'
    cases e'
    cases b
    · exact ⟨g2, s1, R2, q'⟩
    · exact ⟨g2, s1, R2, q'⟩
theorem ks_while {body : List St} {bx : List Stmt} (hp : PassesOwn (model X.prog X.w) X.A X.env X.xe) (hc : KT X cls fnm T W c z) (hb : KSs X cls fnm T W body bx) : KS X cls fnm T W (.whil c body) (.While z bx [] pos) := by
  refine PS.weak (ps_while hp hc hb) fun D σ H ⟨g, s, R1, h⟩ => ?_
  unfold Pm.ex at h
  refine ⟨fun m σ' H' => ∃ g' s', Rel (zx X cls fnm) g' s' σ' H' ∧ OutS (zx X cls fnm) W σ' g' s' H' (whGo (fun s => (ev T c s).bind fun x s => match x.d with
    | .bl b => .ok b s
    | _ => .bad) (fun s => exL T body s) m s') D, ⟨100000, g, s, R1, h⟩, ?_⟩
  rintro m σ1 H1 ⟨g1, s1, R1, h⟩
  cases m with
  | zero => exact h.elim
  | succ m =>
    have h : OutS (zx X cls fnm) W σ1 g1 s1 H1 (((ev T c s1).bind fun x s => match x.d with
      | .bl b => R.ok b s
      | _ => .bad).bind fun b s => if b then (exL T body s).bind fun f s => (match f with
        | .nx => whGo (fun s => (ev T c s).bind fun x s => match x.d with
          | .bl b => .ok b s
          | _ => .bad) (fun s => exL T body s) m s
        | .ret a => .ok (.ret a) s) else .ok .nx s) D := h
    refine ⟨g1, s1, R1, ?_⟩
    cases e : ev T c s1 with
    | bad =>
      rw [e] at h
      exact h.elim
    | exc k fs s2 =>
      rw [e] at h
      exact fun g' H' cls d R' F' X' => h g' σ1 H' cls d R' F' X'
    | ok x s2 =>
      rw [e] at h
      intro g2 H2 ex2 R2 F2
      have F2 := F2.drop
      cases ed : x.d <;> first | (have h : OutS (zx X cls fnm) W σ1 g1 s1 H1 (((match x.d with | .bl b => R.ok b s2 | _ => .bad) : R Bool).bind _) D := h; rw [ed] at h; exact h.elim) | skip
      rename_i b
      have h : OutS (zx X cls fnm) W σ1 g1 s1 H1 (((match x.d with | .bl b => R.ok b s2 | _ => .bad) : R Bool).bind fun b s => if b then (exL T body s).bind fun f s => (match f with
        | .nx => whGo (fun s => (ev T c s).bind fun x s => match x.d with
          | .bl b => .ok b s
          | _ => .bad) (fun s => exL T body s) m s
        | .ret a => .ok (.ret a) s) else .ok .nx s) D := h
      rw [ed] at h
      refine ⟨b, rfl, ?_⟩
      cases b with
      | false => exact h g2 σ1 H2 R2 F2
      | true =>
        rw [if_pos rfl]
        refine ⟨fun σ' H' => ∃ g' s', Rel (zx X cls fnm) g' s' σ' H' ∧ OutS (zx X cls fnm) W σ' g' s' H' (whGo (fun s => (ev T c s).bind fun x s => match x.d with
          | .bl b => .ok b s
          | _ => .bad) (fun s => exL T body s) m s') D, fun σ' H' q => ⟨m, Nat.lt_succ_self _, q⟩, g2, s2, R2, ?_⟩
        have h : OutS (zx X cls fnm) W σ1 g1 s1 H1 ((exL T body s2).bind fun f s => (match f with
          | .nx => whGo (fun s => (ev T c s).bind fun x s => match x.d with
            | .bl b => .ok b s
            | _ => .bad) (fun s => exL T body s) m s
          | .ret a => .ok (.ret a) s)) D := h
        have h := h.later F2
        cases e3 : exL T body s2 with
        | bad =>
          rw [e3] at h
          exact h
        | exc k fs s3 =>
          rw [e3] at h
          exact h
        | ok f s3 =>
          rw [e3] at h
          cases f with
          | nx => exact fun g' σ' H' R' F' => ⟨g', s3, R', OutS.later (W := W) h F'⟩
          | ret y => exact h
theorem ks_for {t : Tg} {k : Ik} {body : List St} {bx : List Stmt} (hp : PassesOwn (model X.prog X.w) X.A X.env X.xe) (hc : X.calm = true) (hi : KI X cls fnm T W k a b tg x) (hg : KG X cls fnm t tg) (hb : KSs X cls fnm T W body bx) (hs : ∀ v, foldedSetIterable x X.env v = pure v) :
    KS X cls fnm T W (.forI t k a b body) (.For tg x bx [] pos) := by
  refine PS.weak (ps_for hp hc hi hg hb hs) fun D σ H ⟨g, s, R1, h⟩ => ?_
  unfold Pm.ex at h
  refine ⟨g, s, R1, h.bindE.mono fun items g0 s0 H0 ex0 R0 F0 q J w => ?_⟩
  have q := q.later F0.drop
  refine ⟨fun i m σ' H' => m = items.length - i ∧ i ≤ items.length ∧ ∃ g' s', g0.Le g' ∧ Rel (zx X cls fnm) g' s' σ' H' ∧ OutS (zx X cls fnm) W σ' g' s' H' (forGo t (fun s => exL T body s) (items.drop i) s') D, ⟨items.length, by simp, Nat.zero_le _, g0, s0, .refl _, R0, by simpa using q⟩, ?_⟩
  rintro i m σi Hi ⟨rfl, hi, gi, si, Li, Ri, qi⟩
  by_cases hlt : i < items.length
  · refine .inr ⟨w.go gi si _ Hi i Li Ri hlt, fun σ' H' => ∃ g' s', g0.Le g' ∧ Rel (zx X cls fnm) g' s' σ' H' ∧ OutS (zx X cls fnm) W σ' g' s' H' (forGo t (fun s => exL T body s) (items.drop (i + 1)) s') D, fun σ' H' p' => ⟨items.length - (i + 1), by omega, rfl, hlt, p'⟩, fun x H' y => ?_⟩
    have hd : items.drop i = items[i] :: items.drop (i + 1) := List.drop_eq_getElem_cons hlt
    rw [hd] at qi
    obtain ⟨g2, R2, F2, I2⟩ := w.yld gi si _ Hi i x H' Li Ri y items[i] (by simp [hlt])
    have qi := qi.later F2
    unfold forGo at qi
    cases hbt : bindT t items[i] si.loc with
    | none =>
      rw [hbt] at qi
      exact qi.elim
    | some loc =>
      rw [hbt] at qi
      dsimp only at qi
      refine ⟨g2, si, items[i], loc, R2, I2, hbt, fun σ2 R3 St => ⟨g2, ⟨loc, si.res⟩, R3, ?_⟩⟩
      have qi := qi.later (Fr.store St)
      cases e3 : exL T body ⟨loc, si.res⟩ with
      | bad =>
        rw [e3] at qi
        exact qi
      | exc k fs s3 =>
        rw [e3] at qi
        exact qi
      | ok f s3 =>
        rw [e3] at qi
        cases f with
        | nx => exact fun g' σ' H'' R' F' => ⟨g', s3, (Li.trans F2.le).trans F'.le, R', OutS.later (W := W) qi F'⟩
        | ret y => exact qi
  · have e : i = items.length := by omega
    subst e
    refine .inl ⟨w.stop gi si _ Hi Li Ri, ?_⟩
    rw [List.drop_length] at qi
    exact OutS.nx Ri qi
end
end Pm
namespace Pm
open PySem PySem.Spec PyProof.Rows L2 RZ
open PySem.W (Frag)
section
variable {X : Cx} {cls : Nat → Addr} {fnm : Fnm} {T : Tab} {W : WX} {a b c : E} {x y z tg : Expr} {pos pos' : Pos} {es : List E} {xs : List Expr} {st : St} {sts : List St} {sx : Stmt} {sxs : List Stmt}
variable {Z : Zx} {g g' g1 g2 : Gh} {s s' s1 s2 : S} {σ σ' σ1 σ2 : L2.St} {H H' H1 H2 : Hp} {d e : D} {v u : V} {Q : VK} {En : Ends} {p : Addr}
theorem cell_put {q q' : Pl} {c c' c1 : Cell} (hq : s.cell q = some c) (h : (s.put q c').cell q' = some c1) : (q' = q ∧ c1 = c') ∨ (q' ≠ q ∧ s.cell q' = some c1) := by
  cases q with
  | loc i =>
    cases q' with
    | res k => exact .inr ⟨by simp, h⟩
    | loc j =>
      have h : (match (s.loc.set i (some (Sl.ow c')))[j]? with
        | some (some (.ow c)) => some c
        | _ => none) = some c1 := h
      by_cases e : i = j
      · subst e
        have hl : i < s.loc.length := by
          cases hh : s.loc[i]? with
          | none => simp [S.cell, hh] at hq
          | some o => exact (List.getElem?_eq_some_iff.mp hh).1
        rw [List.getElem?_set_self hl] at h
        cases h
        exact .inl ⟨rfl, rfl⟩
      · rw [List.getElem?_set_ne e] at h
        exact .inr ⟨fun z => e (by cases z; rfl), h⟩
  | res i =>
    cases q' with
    | loc j => exact .inr ⟨by simp, h⟩
    | res k =>
      have h : (s.res.set i c')[k]? = some c1 := h
      by_cases e : i = k
      · subst e
        have hl : i < s.res.length := (List.getElem?_eq_some_iff.mp (show s.res[i]? = some c from hq)).1
        rw [List.getElem?_set_self hl] at h
        cases h
        exact .inl ⟨rfl, rfl⟩
      · rw [List.getElem?_set_ne e] at h
        exact .inr ⟨fun z => e (by cases z; rfl), h⟩
theorem put_fz {q : Pl} {c c' : Cell} {i : Nat} {x : Sl} (hq : s.cell q = some c) (h : (s.put q c').loc[i]? = some (some x)) : (∃ c0, x = .ow c0 ∧ s.loc[i]? = some (some (.ow c))) ∨ s.loc[i]? = some (some x) := by
  cases q with
  | res k => exact .inr h
  | loc j =>
    have h : (s.loc.set j (some (Sl.ow c')))[i]? = some (some x) := h
    by_cases e : j = i
    · subst e
      by_cases hl : j < s.loc.length
      · rw [List.getElem?_set_self hl] at h
        cases h
        refine .inl ⟨_, rfl, ?_⟩
        have hq : (match s.loc[j]? with
          | some (some (.ow c)) => some c
          | _ => none) = some c := hq
        cases hh : s.loc[j]? with
        | none => rw [hh] at hq; cases hq
        | some o => cases o with
          | none => rw [hh] at hq; cases hq
          | some y => cases y with
            | ow z => rw [hh] at hq; cases hq; rfl
            | fz z => rw [hh] at hq; cases hq
            | xc _ _ => rw [hh] at hq; cases hq
      · rw [List.getElem?_eq_none (by simpa using hl)] at h
        cases h
    · rw [List.getElem?_set_ne e] at h
      exact .inr h
theorem put_loc {q : Pl} {c : Cell} : (s.put q c).loc.length = s.loc.length := by
  cases q with
  | res k => rfl
  | loc j => exact List.length_set
theorem put_res {q : Pl} {c : Cell} : (s.put q c).res.length = s.res.length := by
  cases q with
  | res k => exact List.length_set
  | loc j => rfl
theorem Rel.put {q : Pl} {c c' : Cell} {o' : HO} (R1 : Rel Z g s σ H) (hq : s.cell q = some c) (hp : padr g σ q = some p) (hm : p ∈ foot H p c) (hf : foot (upd H p o') p c' = foot H p c) (hc : CellAt Z g (upd H p o') p c') :
    Rel Z g (s.put q c') σ (upd H p o') ∧ Fr σ σ g s H g (s.put q c') (upd H p o') [] := by
  have at_ : CellAt Z g H p c := by
    obtain ⟨x, e1, e2⟩ := R1.cell q c hq
    rw [hp] at e1
    cases e1
    exact e2
  have far : ∀ q' c1 x, q' ≠ q → s.cell q' = some c1 → padr g σ q' = some x → ∀ a ∈ foot H x c1, upd H p o' a = H a := fun q' c1 x n h1 h2 a ha => upd_ne fun z => by
    subst z
    exact R1.apart q q' c c1 a x (Ne.symm n) hq h1 hp h2 a hm ha
  have ow : ∀ a, Own g (s.put q c') σ (upd H p o') a → Own g s σ H a := fun a ⟨q', c1, x, h1, h2, h3⟩ => by
    rcases cell_put hq h1 with ⟨rfl, rfl⟩ | ⟨n, k⟩
    · rw [hp] at h2
      cases h2
      rw [hf] at h3
      exact ⟨_, c, _, hq, hp, h3⟩
    · rw [foot_eq (far q' c1 x n k h2)] at h3
      exact ⟨q', c1, x, k, h2, h3⟩
  have op : Own g s σ H p := ⟨q, c, p, hq, hp, hm⟩
  have np := (R1.own_some op).2
  refine ⟨⟨fun a u e => ?_, fun i d h => (put_fz hq h).elim (fun ⟨c0, e1, e2⟩ => by
    obtain ⟨v, k1, _⟩ := R1.fz i _ e2
    rw [e1]
    exact ⟨v, k1, trivial⟩) fun z => R1.fz i d z, fun q' c1 h => ?_, fun q1 q2 c1 c2 x1 x2 ne h1 h2 h3 h4 a ha hb => ?_, by rw [put_loc]; exact R1.len, fun k x h => by rw [put_res]; exact R1.rdom k x h⟩, ⟨.refl g, fun a u e n => .inl ?_, fun a _ _ f => f, fun a ha => .inr (ha.elim (ow a) fun z => nomatch z), fun a ha => mono_upd a ha, by rw [put_res]; exact Nat.le_refl _⟩⟩
  · rw [upd_ne (ne_of_none e np)]
    exact R1.sub a u e
  · rcases cell_put hq h with ⟨rfl, rfl⟩ | ⟨n, k⟩
    · exact ⟨p, hp, hc⟩
    · obtain ⟨x, e1, e2⟩ := R1.cell q' c1 k
      exact ⟨x, e1, e2.move (.refl g) (far q' c1 x n k e1) fun a ha => (e2.none_foot a ha).1⟩
  · rcases cell_put hq h1 with ⟨rfl, rfl⟩ | ⟨n1, k1⟩
    · rw [hp] at h3
      cases h3
      rw [hf] at ha
      rcases cell_put hq h2 with ⟨rfl, rfl⟩ | ⟨n2, k2⟩
      · exact ne rfl
      · rw [foot_eq (far q2 c2 x2 n2 k2 h4)] at hb
        exact R1.apart _ q2 c c2 _ x2 (Ne.symm n2) hq k2 hp h4 a ha hb
    · rw [foot_eq (far q1 c1 x1 n1 k1 h3)] at ha
      rcases cell_put hq h2 with ⟨rfl, rfl⟩ | ⟨n2, k2⟩
      · rw [hp] at h4
        cases h4
        rw [hf] at hb
        exact R1.apart q1 _ c1 c x1 _ n1 k1 hq h3 hp a ha hb
      · rw [foot_eq (far q2 c2 x2 n2 k2 h4)] at hb
        exact R1.apart q1 q2 c1 c2 x1 x2 ne k1 k2 h3 h4 a ha hb
  · rw [upd_ne fun z => n (by rw [z]; exact op)]
    exact e
theorem rf_cell {r : Rf} {q : Pl} {c : Cell} (R1 : Rel Z g s σ H) (A : RfAt Z g σ r v) (h : cellR r s = some (q, c)) : s.cell q = some c ∧ ∃ a, v = .ref a ∧ padr g σ q = some a ∧ CellAt Z g H a c := by
  obtain ⟨q0, h1, h2⟩ := Option.bind_eq_some_iff.mp (show r.pl.bind (fun p => (s.cell p).map fun c => (p, c)) = some (q, c) from h)
  obtain ⟨c0, h3, h4⟩ := Option.map_eq_some_iff.mp h2
  cases h4
  obtain ⟨a, e1, e2⟩ := R1.cell q c h3
  refine ⟨h3, a, ?_, e1, e2⟩
  cases r with
  | slot i =>
    cases h1
    have A : σ[i]? = some (some v) := A
    have e1 : (match σ[i]? with
      | some (some (.ref p)) => some p
      | _ => none) = some a := e1
    rw [A] at e1
    cases v with
    | ref w => cases e1; rfl
    | _ => cases e1
  | val d =>
    cases d <;> first | (cases h1; done) | skip
    cases h1
    obtain ⟨w, rfl, f⟩ := A
    have e1 : g.rho _ = some a := e1
    rw [f] at e1
    cases e1
    rfl
theorem isD_put {l : List (D × D)} {kvs : List (Key × V)} {k : D} {q : Key} (hk : keyD k = some q) (ik : IsD Z g l kvs) (iv : Is Z g d v) : IsD Z g (dput l k d) (putK kvs q v) := by
  have anyE : ∀ {l : List (D × D)} {kvs : List (Key × V)}, IsD Z g l kvs → (l.any fun p => p.1.keyEq k) = kvs.any fun kv => decide (kv.1 = q) := fun {l} => by
    induction l with
    | nil => intro kvs h; cases h; rfl
    | cons p r ih =>
      intro kvs ⟨k0, v0, ws, e1, e2, _, e4⟩
      subst e1
      rw [List.any_cons, List.any_cons, ih e4, keyEq_iff hk e2]
  have mapE : ∀ {l : List (D × D)} {kvs : List (Key × V)}, IsD Z g l kvs → IsD Z g (l.map fun p => if p.1.keyEq k then (p.1, d) else p) (kvs.map fun kv => if kv.1 = q then (kv.1, v) else kv) := fun {l} => by
    induction l with
    | nil => intro kvs h; cases h; rfl
    | cons p r ih =>
      intro kvs ⟨k0, v0, ws, e1, e2, e3, e4⟩
      subst e1
      have ke := keyEq_iff hk e2
      by_cases h : k0 = q
      · rw [decide_eq_true h] at ke
        exact ⟨k0, v, _, by rw [List.map_cons, if_pos h], by rw [ke]; exact e2, by rw [ke]; exact iv, ih e4⟩
      · rw [decide_eq_false h] at ke
        exact ⟨k0, v0, _, by rw [List.map_cons, if_neg h], by rw [ke]; exact e2, by rw [ke]; exact e3, ih e4⟩
  have appE : ∀ {l : List (D × D)} {kvs : List (Key × V)}, IsD Z g l kvs → IsD Z g (l ++ [(k, d)]) (kvs ++ [(q, v)]) := fun {l} => by
    induction l with
    | nil => intro kvs h; cases h; exact ⟨q, v, [], rfl, hk, iv, rfl⟩
    | cons p r ih =>
      intro kvs ⟨k0, v0, ws, e1, e2, e3, e4⟩
      subst e1
      exact ⟨k0, v0, _, rfl, e2, e3, ih e4⟩
  unfold dput putK
  rw [anyE ik]
  by_cases h : (kvs.any fun kv => decide (kv.1 = q)) = true
  · rw [if_pos h, if_pos h]
    exact mapE ik
  · rw [if_neg h, if_neg h]
    exact appE ik
theorem isD_drop {l : List (D × D)} {kvs : List (Key × V)} {k : D} {q : Key} (hk : keyD k = some q) (ik : IsD Z g l kvs) : IsD Z g (l.filter fun p => !p.1.keyEq k) (dropK kvs q) := by
  induction l generalizing kvs with
  | nil => cases ik; rfl
  | cons p r ih =>
    obtain ⟨k0, v0, ws, e1, e2, e3, e4⟩ := ik
    subst e1
    have ke := keyEq_iff hk e2
    have i := ih e4
    unfold dropK
    by_cases h : k0 = q
    · rw [decide_eq_true h] at ke
      rw [List.filter_cons_of_neg (by simp [ke]), List.filter_cons_of_neg (by simp [h])]
      exact i
    · rw [decide_eq_false h] at ke
      rw [List.filter_cons_of_pos (by simp [ke]), List.filter_cons_of_pos (by simp [h])]
      exact ⟨k0, v0, _, rfl, e2, e3, i⟩
theorem key_of_isKey {k : D} (h : k.isKey = true) : ∃ q, keyD k = some q := by
  cases k <;> first | exact ⟨_, rfl⟩ | cases h
theorem set_any (hu : X.A.units + 1 < cLine) : PSet X (fun o i v H Q => rSetL o i v H Q ∨ rSetD o i v H Q) := by
  intro pins s σ H o i v ov iv u Q I ro ri rv h
  rcases h with h | h
  · exact set_list pins s σ H o i v ov iv u Q I ro ri rv h
  · exact set_dict hu pins s σ H o i v ov iv u Q I ro ri rv h
theorem ks_setIx (hu : X.A.units + 1 < cLine) (hs : isComp z = false) (hv : KE X cls fnm T W c z) (ho : KR X cls fnm T W a x) (hi : KE X cls fnm T W b y)
    (ha : ∀ v, assign (.Subscript x y pos') X.env v = (do
      let ov ← holding [v] (eval x X.env)
      let iv ← holding [v, ov] (eval y X.env)
      standAt pos'
      holding [v, ov, iv] (setItem ov iv v)
      release [v, ov, iv] [])) : KS X cls fnm T W (.setIx a b c) (.Assign [.Subscript x y pos'] z pos) := by
  refine PS.weak (ps_asg hv (pg_sub ho hi (set_any hu) ha) (show swapsWith z (some (.Subscript x y pos')) pos.line X.env = pure false from noSwap hs) rfl rfl) fun D σ H ⟨g, s, R1, h⟩ => ?_
  unfold Pm.ex at h
  refine seqXS R1 h fun zv w g2 s2 H2 R2 I2 _ h2 => seqXR R2 h2 fun r v g3 s3 H3 R3 A3 le3 h3 => seqXS R3 h3 fun yv u g4 s4 H4 R4 I4 le4 h4 => ?_
  have I2 := Is.mono (le3.trans le4) _ _ I2
  have A3 := A3.mono le4
  cases hc : cellR r s4 with
  | none =>
    rw [hc] at h4
    exact h4.elim
  | some pc =>
    obtain ⟨q, ce⟩ := pc
    rw [hc] at h4
    have h4 : OutS (zx X cls fnm) W σ g4 s4 H4 (match setCell ce yv.d zv.d with
      | some c' => R.ok .nx (s4.put q c')
      | none => .bad) D := h4
    obtain ⟨k1, p, rfl, k2, k3⟩ := rf_cell R4 A3 hc
    cases ce with
    | lst l =>
      generalize yv.d = yd at h4 I4
      cases yd <;> first | exact h4.elim | skip
      rename_i j
      cases I4
      have h4 : OutS (zx X cls fnm) W σ g4 s4 H4 (match (L2.ixN l.length j).map fun k => Cell.lst (l.set k zv.d) with
        | some c' => R.ok .nx (s4.put q c')
        | none => .bad) D := h4
      cases hj : L2.ixN l.length j with
      | none =>
        rw [hj] at h4
        exact h4.elim
      | some m =>
        rw [hj] at h4
        obtain ⟨f, vs, e, hz, i⟩ := k3
        refine .inl ⟨p, vs, j, m, rfl, rfl, e, by rw [isL_len i]; exact hj, ?_⟩
        obtain ⟨R5, F5⟩ := R4.put (c' := .lst (l.set m zv.d)) (o' := .lst (vs.set m w)) k1 k2 (by simp [foot]) rfl ⟨f, _, upd_same, by rw [List.length_set]; exact hz, isL_set m i I2⟩
        exact h4 g4 σ _ R5 F5
    | dct l =>
      have h4 : OutS (zx X cls fnm) W σ g4 s4 H4 (match (if yv.d.isKey ∧ l.length < lim then some (Cell.dct (dput l yv.d zv.d)) else none) with
        | some c' => R.ok .nx (s4.put q c')
        | none => .bad) D := h4
      by_cases hk : yv.d.isKey = true ∧ l.length < lim
      · rw [if_pos hk] at h4
        obtain ⟨kq, hq⟩ := key_of_isKey hk.1
        obtain ⟨f, kvs, e, i⟩ := k3
        refine .inr ⟨p, _, rfl, .inl ⟨kvs, kq, e, keyD_V hq I4, ?_, rfl⟩, ?_⟩
        · rw [isD_len i]
          exact Nat.lt_of_lt_of_le hk.2 lim_le
        · obtain ⟨R5, F5⟩ := R4.put (c' := .dct (dput l yv.d zv.d)) (o' := .dK (putK kvs kq w)) k1 k2 (by simp [foot]) rfl ⟨f, _, upd_same, isD_put hq i I2⟩
          exact h4 g4 σ _ R5 F5
      · rw [if_neg hk] at h4
        exact h4.elim
    | _ => exact h4.elim
theorem isF_put {f : Nat} (inj : ∀ k, Z.fnm k = Z.fnm f → k = f) : ∀ {fs : List (Nat × D)} {ws : List (Str × V)}, IsF Z g fs ws → Is Z g d v → IsF Z g (Pm.putF fs f d) (L2.putF (Z.fnm f) v ws)
  | [], _, h, i => by cases h; exact ⟨v, [], rfl, i, rfl⟩
  | (k, e) :: r, _, ⟨w, ws, e1, e2, e3⟩, i => by
    subst e1
    unfold Pm.putF L2.putF
    by_cases hk : k = f
    · subst hk
      rw [if_pos rfl, if_pos rfl]
      exact ⟨v, ws, rfl, i, e3⟩
    · rw [if_neg hk, if_neg (fun z => hk (inj k z))]
      exact ⟨w, _, rfl, e2, isF_put inj e3 i⟩
theorem isF_len : ∀ {fs : List (Nat × D)} {ws : List (Str × V)}, IsF Z g fs ws → ws.length = fs.length
  | [], _, h => by cases h; rfl
  | (k, e) :: r, _, ⟨w, ws, e1, e2, e3⟩ => by rw [e1, List.length_cons, List.length_cons, isF_len e3]
theorem ks_setF {f : Nat} (inj : ∀ k, fnm k = fnm f → k = f) (hf : ∀ c, (T.flds c).contains f = true → Cls X.K (cls c) ∧ NoAttr X.K (cls c) (fnm f)) (hs : isComp z = false) (hv : KE X cls fnm T W c z) (ho : KE X cls fnm T W a x) :
    KS X cls fnm T W (.setF a f c) (.Assign [.Attribute x (fnm f) pos'] z pos) := by
  refine PS.weak (ps_fld ho hv (noSwap hs)) fun En σ H ⟨g, s, R1, h⟩ => ?_
  unfold Pm.ex at h
  refine seqXS R1 h fun zv w g2 s2 H2 R2 I2 _ h2 => seqXS R2 h2 fun xv u g3 s3 H3 R3 I3 le3 h3 => ?_
  have I2 := Is.mono le3 _ _ I2
  generalize xv.d = xd at h3 I3
  cases xd <;> first | exact h3.elim | skip
  rename_i k
  obtain ⟨p, rfl, f1⟩ := I3
  have h3 : OutS (zx X cls fnm) W σ g3 s3 H3 (match s3.res[k]? with
    | some (.ins c fs) => if fs.length < 100 ∧ (T.flds c).contains f then R.ok .nx { s3 with res := s3.res.set k (.ins c (Pm.putF fs f zv.d)) } else .bad
    | _ => .bad) En := h3
  cases hc : s3.res[k]? with
  | none =>
    rw [hc] at h3
    exact h3.elim
  | some ce =>
    rw [hc] at h3
    cases ce <;> first | exact h3.elim | skip
    rename_i cn fs
    have h3 : OutS (zx X cls fnm) W σ g3 s3 H3 (if fs.length < 100 ∧ (T.flds cn).contains f then R.ok .nx { s3 with res := s3.res.set k (.ins cn (Pm.putF fs f zv.d)) } else .bad) En := h3
    by_cases hk : fs.length < 100 ∧ (T.flds cn).contains f = true
    · rw [if_pos hk] at h3
      obtain ⟨p', e0, f2, dx, ws, e1, e2, e3, e4⟩ := R3.cell (.res k) _ hc
      have e0' : g3.rho k = some p' := e0
      rw [f1] at e0'
      cases e0'
      refine ⟨p, cls cn, dx, ws, rfl, e1, (hf cn hk.2).1, (hf cn hk.2).2, by rw [isF_len e4]; omega, ?_⟩
      have nd : dx ≠ p := fun z => by rw [z, e1] at e2; cases e2
      have hfo : foot H3 p (.ins cn fs) = [p, dx] := by
        unfold foot
        rw [e1]
        rfl
      obtain ⟨R5, F5⟩ := R3.put (q := .res k) (p := p) (c' := .ins cn (Pm.putF fs f zv.d)) (o' := .ins (cls cn) dx (L2.putF (fnm f) w ws)) hc f1 (by rw [hfo]; simp) (by
        rw [hfo]
        unfold foot
        rw [upd_same]
        rfl) ⟨f2, dx, _, upd_same, by rw [upd_ne nd]; exact e2, e3, isF_put inj e4 I2⟩
      exact h3 g3 σ _ R5 F5
    · rw [if_neg hk] at h3
      exact h3.elim
theorem ks_app {apos cpos : Pos} (hb : baseOk x = true) (hl : (apos.endLine == cpos.line) = true) (hs : starX y = false) (ho : KR X cls fnm T W a x) (hv : KE X cls fnm T W b y) :
    KS X cls fnm T W (.app a b) (.Expr (.Call (.Attribute x "append" apos) [y] [] cpos) pos) := by
  refine PS.weak (ps_expr (pe_bm F.plainAttrs_list F.slot_list_append F.type_list_append mt_append ho (pa_cons hv pa_nil (starEach_plain hs)) (attrBase hb) (by rw [starEach_plain hs]; rfl) hl (starEach_plain hs) rfl) rfl) fun En σ H ⟨g, s, R1, h⟩ => ?_
  unfold Pm.ex at h
  refine seqXR R1 h fun r v g2 s2 H2 R2 A2 _ h2 => ?_
  by_cases hk : isLst r s2 = true
  · rw [if_pos hk] at h2
    refine ⟨?_, seqXS R2 h2 fun zv w g3 s3 H3 R3 I3 le3 h3 => ?_⟩
    · unfold isLst at hk
      cases hc : cellR r s2 with
      | none => rw [hc] at hk; cases hk
      | some pc =>
        obtain ⟨q, ce⟩ := pc
        rw [hc] at hk
        cases ce <;> first | (cases hk; done) | skip
        obtain ⟨_, p, rfl, _, _, vs, e, _⟩ := rf_cell R2 A2 hc
        exact .inl ⟨rfl, vs, SqL.of e⟩
    · cases hc : cellR r s3 with
      | none =>
        rw [hc] at h3
        exact h3.elim
      | some pc =>
        obtain ⟨q, ce⟩ := pc
        rw [hc] at h3
        obtain ⟨k1, p, rfl, k2, k3⟩ := rf_cell R3 (A2.mono le3) hc
        cases ce <;> first | exact h3.elim | skip
        rename_i l
        have h3 : OutS (zx X cls fnm) W σ g3 s3 H3 (match (if l.length < lim then some (Cell.lst (l ++ [zv.d])) else none) with
          | some c' => R.ok .nx (s3.put q c')
          | none => .bad) En := h3
        by_cases hz : l.length < lim
        · rw [if_pos hz] at h3
          obtain ⟨f, vs, e, _, i⟩ := k3
          refine ⟨p, vs, w, rfl, rfl, e, by rw [isL_len i]; exact Nat.lt_of_lt_of_le hz lim_le, ?_⟩
          obtain ⟨R5, F5⟩ := R3.put (c' := .lst (l ++ [zv.d])) (o' := .lst (vs ++ [w])) k1 k2 (by simp [foot]) rfl ⟨f, _, upd_same, by rw [List.length_append]; exact Nat.le_trans hz lim_le, isL_app i ⟨w, [], rfl, I3, rfl⟩⟩
          exact h3 g3 σ _ R5 F5
        · rw [if_neg hz] at h3
          exact h3.elim
  · rw [if_neg hk] at h2
    exact h2.elim
theorem isL_last : ∀ {l : List D} {vs : List V}, IsL Z g l vs → l.getLast? = some d → ∃ w, vs[vs.length - 1]? = some w ∧ Is Z g d w := fun {l vs} h e => by
  rw [List.getLast?_eq_getElem?] at e
  obtain ⟨w, h1, h2⟩ := isL_get h e
  exact ⟨w, by rw [isL_len h]; exact h1, h2⟩
theorem isL_dropLast {l : List D} {vs : List V} (h : IsL Z g l vs) : IsL Z g l.dropLast vs.dropLast := by
  rw [List.dropLast_eq_take, List.dropLast_eq_take, isL_len h]
  exact isL_take _ h
theorem ke_pop {apos cpos : Pos} (hb : baseOk x = true) (hl : (apos.endLine == cpos.line) = true) (ho : KR X cls fnm T W a x) : KE X cls fnm T W (.pop a) (.Call (.Attribute x "pop" apos) [] [] cpos) := by
  refine PE.weak (pe_bm0 F.plainAttrs_list F.slot_list_pop F.type_list_pop mt_pop ho (attrBase hb) hl) fun σ H Q ⟨g, s, R1, h⟩ => ?_
  unfold ev at h
  refine seqR R1 h fun r v g2 s2 H2 R2 A2 _ _ h2 => ?_
  cases hc : cellR r s2 with
  | none =>
    rw [hc] at h2
    exact h2.elim
  | some pc =>
    obtain ⟨q, ce⟩ := pc
    rw [hc] at h2
    obtain ⟨k1, p, rfl, k2, k3⟩ := rf_cell R2 A2 hc
    cases ce <;> first | exact h2.elim | skip
    rename_i l
    have h2 : Out (zx X cls fnm) W σ g2 s2 H2 (match (l.getLast?.map fun d => (d, Cell.lst l.dropLast)) with
      | some (d, c') => R.ok (Sl.fz d) (s2.put q c')
      | none => .bad) (PV (zx X cls fnm) σ Q) := h2
    cases hg : l.getLast? with
    | none =>
      rw [hg] at h2
      exact h2.elim
    | some dl =>
      rw [hg] at h2
      obtain ⟨f, vs, e, hz, i⟩ := k3
      obtain ⟨w, e1, e2⟩ := isL_last i hg
      refine ⟨.inl ⟨rfl, vs, SqL.of e⟩, p, vs, w, rfl, rfl, e, e1, ?_⟩
      obtain ⟨R5, F5⟩ := R2.put (c' := .lst l.dropLast) (o' := .lst vs.dropLast) k1 k2 (by simp [foot]) rfl ⟨f, _, upd_same, by rw [List.length_dropLast]; omega, isL_dropLast i⟩
      exact h2 g2 _ [] R5 F5 w ⟨e2, rfl⟩
theorem look_isd {r : Rf} (R1 : Rel Z g s σ H) (A : RfAt Z g σ r v) (h : isDct r s = true) : ∃ p, v = .ref p ∧ L2.IsD H p := by
  unfold isDct at h
  cases hc : lookR r s with
  | none => rw [hc] at h; cases h
  | some dd =>
    rw [hc] at h
    cases dd <;> first | (cases h; done) | skip
    obtain ⟨p, kvs, rfl, e, _⟩ := look_at R1 A hc
    exact ⟨p, rfl, .inl ⟨kvs, e⟩⟩
theorem ke_get {cpos apos : Pos} {q : Expr} (hu : X.A.units + 1 < cLine) (m : M2 X x "get" apos y q cpos) (ho : KR X cls fnm T W a x) (hk : KE X cls fnm T W b y) (hv : KE X cls fnm T W c q) : KE X cls fnm T W (.get a b c) (.Call (.Attribute x "get" apos) [y, q] [] cpos) := by
  refine PE.weak (pe_dget2 hu ho hk hv m) fun σ H Q ⟨g, s, R1, h⟩ => ?_
  unfold ev at h
  refine seqR R1 h fun r v g2 s2 H2 R2 A2 _ _ h2 => ?_
  by_cases hd : isDct r s2 = true
  · rw [if_pos hd] at h2
    obtain ⟨p, rfl, e⟩ := look_isd R2 A2 hd
    refine ⟨p, rfl, e, seqE R2 h2 fun kv u g3 s3 H3 R3 I3 le3 _ h3 => seqE R3 h3 fun zv w g4 s4 H4 R4 I4 le4 _ h4 => ?_⟩
    cases hl : lookR r s4 with
    | none =>
      rw [hl] at h4
      exact h4.elim
    | some dd =>
      rw [hl] at h4
      have LL := look_at R4 (A2.mono (le3.trans le4)) hl
      cases dd <;> first | exact h4.elim | skip
      rename_i l
      have h4 : Out (zx X cls fnm) W σ g4 s4 H4 (if kv.d.isKey = true then R.ok (Sl.fz ((dget l kv.d).getD zv.d)) s4 else .bad) (PV (zx X cls fnm) σ Q) := h4
      by_cases ok : kv.d.isKey = true
      · rw [if_pos ok] at h4
        obtain ⟨p', e', o, ho, hg⟩ := dct_ask ok LL (Is.mono le4 _ _ I3)
        cases e'
        refine ⟨o, hg, ?_⟩
        rcases ho with ⟨h1, h2⟩ | ⟨xx, w', h1, h2, h5⟩
        · rw [h2]
          rw [h1] at h4
          exact Out.fz R4 h4 I4
        · rw [h2]
          rw [h1] at h4
          exact Out.fz R4 h4 h5
      · rw [if_neg ok] at h4
        exact h4.elim
  · rw [if_neg hd] at h2
    exact h2.elim
theorem ke_popK {cpos apos : Pos} (m : M1 X x "pop" apos y cpos) (ho : KR X cls fnm T W a x) (hk : KE X cls fnm T W b y) : KE X cls fnm T W (.popK a b) (.Call (.Attribute x "pop" apos) [y] [] cpos) := by
  refine PE.weak (pe_dpop1 ho hk m) fun σ H Q ⟨g, s, R1, h⟩ => ?_
  unfold ev at h
  refine seqR R1 h fun r v g2 s2 H2 R2 A2 _ _ h2 => ?_
  by_cases hd : isDct r s2 = true
  · rw [if_pos hd] at h2
    obtain ⟨p, rfl, e⟩ := look_isd R2 A2 hd
    refine ⟨p, rfl, e, seqE R2 h2 fun kv u g3 s3 H3 R3 I3 le3 _ h3 => ?_⟩
    cases hc : cellR r s3 with
    | none =>
      rw [hc] at h3
      exact h3.elim
    | some pc =>
      obtain ⟨q, ce⟩ := pc
      rw [hc] at h3
      obtain ⟨k1, p', e', k2, k3⟩ := rf_cell R3 (A2.mono le3) hc
      cases e'
      have h3 : Out (zx X cls fnm) W σ g3 s3 H3 (match popKC ce kv.d with
        | some (d, c') => R.ok (Sl.fz d) (s3.put q c')
        | none => .bad) (PV (zx X cls fnm) σ Q) := h3
      cases ce with
      | dct l =>
      by_cases ok : kv.d.isKey = true
      · obtain ⟨f, kvs, e, i⟩ := k3
        obtain ⟨kq, hq⟩ := key_of_isKey ok
        have h3 : Out (zx X cls fnm) W σ g3 s3 H3 (match (if kv.d.isKey = true then (dget l kv.d).map fun d => (d, Cell.dct (l.filter fun p => !p.1.keyEq kv.d)) else none) with
          | some (d, c') => R.ok (Sl.fz d) (s3.put q c')
          | none => .bad) (PV (zx X cls fnm) σ Q) := h3
        rw [if_pos ok] at h3
        rcases dget_val hq i with ⟨h1, _⟩ | ⟨dv, w, h1, h2, h5⟩
        · rw [h1] at h3
          exact h3.elim
        · rw [h1] at h3
          refine ⟨kvs, kq, w, e, keyD_V hq I3, h2, ?_⟩
          obtain ⟨R5, F5⟩ := R3.put (c' := .dct (l.filter fun p => !p.1.keyEq kv.d)) (o' := .dK (dropK kvs kq)) k1 k2 (by simp [foot]) rfl ⟨f, _, upd_same, isD_drop hq i⟩
          exact h3 g3 _ [] R5 F5 w ⟨h5, rfl⟩
      · have h3 : Out (zx X cls fnm) W σ g3 s3 H3 (match (if kv.d.isKey = true then (dget l kv.d).map fun d => (d, Cell.dct (l.filter fun p => !p.1.keyEq kv.d)) else none) with
          | some (d, c') => R.ok (Sl.fz d) (s3.put q c')
          | none => .bad) (PV (zx X cls fnm) σ Q) := h3
        rw [if_neg ok] at h3
        exact h3.elim
      | _ => exact h3.elim
  · rw [if_neg hd] at h2
    exact h2.elim
end
end Pm
namespace Pm
open PySem PySem.Spec PyProof.Rows L2 RZ
open PySem.W (Frag)
section
variable {X : Cx} {cls : Nat → Addr} {fnm : Fnm} {T : Tab} {W : WX} {a b c : E} {x y z tg : Expr} {pos pos' : Pos} {es : List E} {xs : List Expr} {st : St} {sts : List St} {sx : Stmt} {sxs : List Stmt}
variable {Z : Zx} {g g' g1 g2 : Gh} {s s' s1 s2 : S} {σ σ' σ1 σ2 : L2.St} {H H' H1 H2 : Hp} {d e : D} {v u : V} {Q : VK} {En : Ends} {p : Addr} {ex ex' : List Addr}
def rdM (Z : Zx) (T : Tab) (W : WX) (e : E) : TE := fun σ H Q => ∃ g s, Rel Z g s σ H ∧ Out Z W σ g s H (evM T e s) (PV Z σ Q)
abbrev KM (X : Cx) (cls : Nat → Addr) (fnm : Fnm) (T : Tab) (W : WX) (e : E) (x : Expr) : Prop := PE X x (rdM (zx X cls fnm) T W e)
theorem evM_no (h : a.isVar = false) (s : S) : evM T a s = ev T a s := by
  cases a <;> first | rfl | cases h
theorem km_of (h : a.isVar = false) (ha : KE X cls fnm T W a x) : KM X cls fnm T W a x := PE.weak ha fun σ H Q ⟨g, s, R1, q⟩ => ⟨g, s, R1, by rw [evM_no h] at q; exact q⟩
theorem Rel.take {i : Nat} {c : Cell} (R1 : Rel Z g s σ H) (h : s.loc[i]? = some (some (.ow c))) (hl : c.con = true) :
    ∃ p, σ[i]? = some (some (.ref p)) ∧ Rel Z g { s with loc := s.loc.set i none } σ H ∧ Fr σ σ g s H g { s with loc := s.loc.set i none } H (foot H p c) ∧ VR Z g { s with loc := s.loc.set i none } σ H (.ow c) (.ref p) (foot H p c) := by
  have hc : s.cell (.loc i) = some c := by simp [S.cell, h]
  obtain ⟨p, e1, e2⟩ := R1.cell _ _ hc
  have ep : σ[i]? = some (some (.ref p)) := by
    have e1 : (match σ[i]? with
      | some (some (.ref p)) => some p
      | _ => none) = some p := e1
    cases hh : σ[i]? with
    | none => rw [hh] at e1; cases e1
    | some o => cases o with
      | none => rw [hh] at e1; cases e1
      | some w => cases w with
        | ref q => rw [hh] at e1; cases e1; rfl
        | _ => rw [hh] at e1; cases e1
  have hlt : i < s.loc.length := (List.getElem?_eq_some_iff.mp h).1
  have cn : ∀ q c', S.cell { s with loc := s.loc.set i none } q = some c' → q ≠ .loc i ∧ s.cell q = some c' := fun q c' hq => by
    cases q with
    | res k => exact ⟨by simp, hq⟩
    | loc j =>
      have hq : (match (s.loc.set i none)[j]? with
        | some (some (.ow c)) => some c
        | _ => none) = some c' := hq
      by_cases hj : i = j
      · subst hj
        rw [List.getElem?_set_self hlt] at hq
        cases hq
      · rw [List.getElem?_set_ne hj] at hq
        exact ⟨fun z => hj (by cases z; rfl), hq⟩
  have ow : ∀ a, Own g { s with loc := s.loc.set i none } σ H a → Own g s σ H a := fun a ⟨q, c', x, h1, h2, h3⟩ => ⟨q, c', x, (cn q c' h1).2, h2, h3⟩
  have far : ∀ a ∈ foot H p c, ¬ Own g { s with loc := s.loc.set i none } σ H a := fun a ha ⟨q, c', x, h1, h2, h3⟩ => by
    obtain ⟨n1, n2⟩ := cn q c' h1
    exact R1.apart (.loc i) q c c' p x (Ne.symm n1) hc n2 e1 h2 a ha h3
  refine ⟨p, ep, ⟨R1.sub, fun j d hj => ?_, fun q c' hq => R1.cell q c' (cn q c' hq).2, fun q q' c1 c2 p1 p2 ne h1 h2 => R1.apart q q' c1 c2 p1 p2 ne (cn q c1 h1).2 (cn q' c2 h2).2, by rw [← R1.len]; exact List.length_set, R1.rdom⟩, ⟨.refl g, fun _ _ e _ => .inl e, fun _ _ _ f => f, fun a ha => .inr (ha.elim (ow a) fun m => ⟨_, c, p, hc, e1, m⟩), fun _ e => e, Nat.le_refl _⟩, p, rfl, e2, rfl, far, hl⟩
  have hj : (s.loc.set i none)[j]? = some (some d) := hj
  by_cases k : i = j
  · subst k
    rw [List.getElem?_set_self hlt] at hj
    cases hj
  · rw [List.getElem?_set_ne k] at hj
    exact R1.fz j d hj
theorem km_var {i : Nat} {n : Str} (hN : X.N[i]? = some n) (hv : Vis X.env.scope n) (hd : (n == ("__debug__" : Str)) = false) (hc : (n == ("__classdict__" : Str)) = false) : KM X cls fnm T W (.var i) (.Name n pos) := by
  refine PE.weak (pe_var hN hv hd hc) fun σ H Q ⟨g, s, R1, h⟩ => ?_
  have h : Out (zx X cls fnm) W σ g s H (match s.loc[i]? with
    | some (some (.ow c)) => if c.con then .ok (.ow c) { s with loc := s.loc.set i none } else .bad
    | _ => ev T (.var i) s) (PV (zx X cls fnm) σ Q) := h
  cases e : s.loc[i]? with
  | none =>
    rw [e] at h
    have e2 : ev T (.var i) s = .bad := by unfold ev; rw [e]
    have h : Out (zx X cls fnm) W σ g s H (ev T (.var i) s) (PV (zx X cls fnm) σ Q) := h
    rw [e2] at h
    exact h.elim
  | some o => cases o with
    | none =>
      rw [e] at h
      have e2 : ev T (.var i) s = .bad := by unfold ev; rw [e]
      have h : Out (zx X cls fnm) W σ g s H (ev T (.var i) s) (PV (zx X cls fnm) σ Q) := h
      rw [e2] at h
      exact h.elim
    | some sl => cases sl with
      | fz d =>
        rw [e] at h
        have e2 : ev T (.var i) s = .ok (.fz d) s := by unfold ev; rw [e]
        have h : Out (zx X cls fnm) W σ g s H (ev T (.var i) s) (PV (zx X cls fnm) σ Q) := h
        rw [e2] at h
        obtain ⟨v, h1, h2⟩ := R1.fz i _ e
        exact ⟨v, h1, Out.fz R1 h h2⟩
      | xc _ _ =>
        rw [e] at h
        have e2 : ev T (.var i) s = .bad := by unfold ev; rw [e]
        have h : Out (zx X cls fnm) W σ g s H (ev T (.var i) s) (PV (zx X cls fnm) σ Q) := h
        rw [e2] at h
        exact h.elim
      | ow c =>
        rw [e] at h
        have h : Out (zx X cls fnm) W σ g s H (if c.con = true then (.ok (.ow c) { s with loc := s.loc.set i none } : R Sl) else .bad) (PV (zx X cls fnm) σ Q) := h
        by_cases k : c.con = true
        · rw [if_pos k] at h
          obtain ⟨p, ep, R2, F2, V2⟩ := R1.take e k
          exact ⟨_, ep, h g H _ R2 F2 _ V2⟩
        · rw [if_neg k] at h
          exact h.elim
theorem ks_ret (ha : KM X cls fnm T W a x) : KS X cls fnm T W (.ret a) (.Return (some x) pos) := by
  refine PS.weak (ps_ret ha) fun En σ H ⟨g, s, R1, h⟩ => ⟨g, s, R1, ?_⟩
  unfold Pm.ex at h
  exact h.bindE.mono fun x g1 s1 H1 ex R' F' q v V => q g1 σ H1 ex v R' F' V
theorem ks_retN : KS X cls fnm T W (.ret (.cst .non)) (.Return none pos) := by
  refine PS.weak ps_retN fun En σ H ⟨g, s, R1, h⟩ => ?_
  exact h g σ H [] .non R1 .refl ⟨rfl, rfl⟩
def VRs (Z : Zx) (g : Gh) (s : S) (σ : L2.St) (H : Hp) : List Sl → List V → List Addr → Prop
  | [], vs, ex => vs = [] ∧ ex = []
  | x :: xs, vs, ex => ∃ v ws e1 e2, vs = v :: ws ∧ ex = e1 ++ e2 ∧ VR Z g s σ H x v e1 ∧ VRs Z g s σ H xs ws e2 ∧ ∀ a ∈ e1, a ∉ e2
theorem VR.fr {x : Sl} (V1 : VR Z g s σ H x v ex) (F : Fr σ σ' g s H g' s' H' ex') : VR Z g' s' σ' H' x v ex ∧ ∀ a ∈ ex, a ∉ ex' := by
  cases x with
  | xc _ _ => exact V1.elim
  | fz d => exact ⟨⟨Is.mono F.le _ _ V1.1, V1.2⟩, fun a ha => by rw [V1.2] at ha; cases ha⟩
  | ow c =>
    obtain ⟨p, rfl, hc, rfl, ho, hl⟩ := V1
    have same : ∀ a ∈ foot H p c, H' a = H a := fun a ha => by
      obtain ⟨o, e⟩ := Option.ne_none_iff_exists'.mp (hc.none_foot a ha).2
      rw [e]
      exact F.kept e (ho a ha) (hc.none_foot a ha).1
    have fn : ∀ a ∈ foot H p c, g'.F a = none := fun a ha => F.fnew a (hc.none_foot a ha).2 (ho a ha) (hc.none_foot a ha).1
    have ow : ∀ a ∈ foot H p c, ¬ (Own g' s' σ' H' a ∨ a ∈ ex') := fun a ha z => (F.own a z).elim (hc.none_foot a ha).2 (ho a ha)
    exact ⟨⟨p, rfl, hc.move F.le same fn, (foot_eq same).symm, fun a ha => fun z => ow a ha (.inl z), hl⟩, fun a ha z => ow a ha (.inr z)⟩
theorem VR.own {x : Sl} (V1 : VR Z g s σ H x v ex) (h : ∀ a ∈ ex, ¬ Own g s' σ' H a) : VR Z g s' σ' H x v ex := by
  cases x with
  | xc _ _ => exact V1
  | fz d => exact V1
  | ow c =>
    obtain ⟨p, h1, h2, h3, h4, h5⟩ := V1
    exact ⟨p, h1, h2, h3, h, h5⟩
theorem VR.no {x : Sl} (V1 : VR Z g s σ H x v ex) : ∀ a ∈ ex, ¬ Own g s σ H a := by
  cases x with
  | xc _ _ => exact V1.elim
  | fz d => intro a ha; rw [V1.2] at ha; cases ha
  | ow c =>
    obtain ⟨p, h1, h2, h3, h4, h5⟩ := V1
    exact h4
theorem VRs.own : ∀ {xs : List Sl} {vs : List V} {ex : List Addr}, VRs Z g s σ H xs vs ex → (∀ a ∈ ex, ¬ Own g s' σ' H a) → VRs Z g s' σ' H xs vs ex
  | [], _, _, h, _ => h
  | x :: xs, _, _, ⟨v, ws, e1, e2, h1, h2, h3, h4, h5⟩, k => by
    subst h1 h2
    exact ⟨v, ws, e1, e2, rfl, rfl, h3.own fun a ha => k a (List.mem_append_left _ ha), VRs.own h4 fun a ha => k a (List.mem_append_right _ ha), h5⟩
theorem VRs.no : ∀ {xs : List Sl} {vs : List V} {ex : List Addr}, VRs Z g s σ H xs vs ex → ∀ a ∈ ex, ¬ Own g s σ H a
  | [], _, _, h, a, ha => by rw [h.2] at ha; cases ha
  | x :: xs, _, _, ⟨v, ws, e1, e2, h1, h2, h3, h4, h5⟩, a, ha => by
    subst h1 h2
    rcases List.mem_append.mp ha with z | z
    · exact h3.no a z
    · exact VRs.no h4 a z
def rdSL (Z : Zx) (T : Tab) (W : WX) (l : List E) : TA := fun σ H Q => ∃ g s, Rel Z g s σ H ∧ Out Z W σ g s H (evS T l s) (fun xs g' s' H' ex => ∀ vs, VRs Z g' s' σ H' xs vs ex → Q vs H')
abbrev KSL (X : Cx) (cls : Nat → Addr) (fnm : Fnm) (T : Tab) (W : WX) (e : List E) (x : List Expr) : Prop := PA X x (rdSL (zx X cls fnm) T W e)
theorem ksl_nil : KSL X cls fnm T W [] [] := PA.weak pa_nil fun σ H Q ⟨g, s, R1, h⟩ => h g H [] R1 .refl [] ⟨rfl, rfl⟩
theorem ksl_cons (ha : KE X cls fnm T W a x) (hr : KSL X cls fnm T W es xs) (h2 : starX x = false) : KSL X cls fnm T W (a :: es) (x :: xs) := by
  refine PA.weak (pa_cons ha hr (starEach_plain h2)) fun σ H Q ⟨g, s, R1, h⟩ => ⟨g, s, R1, ?_⟩
  have h : Out (zx X cls fnm) W σ g s H ((ev T a s).bind fun x s => (evS T es s).bind fun xs s => R.ok (x :: xs) s) _ := h
  refine h.bind.mono fun x g1 s1 H1 ex1 R2 F2 q v V1 => ⟨g1, s1, R2, (q.bind.later F2.drop).mono fun xs g2 s2 H2 ex2 R3 F3 q2 ws Vs => ?_⟩
  obtain ⟨V2, dis⟩ := V1.fr F3
  refine q2 g2 H2 (ex1 ++ ex2) R3 ⟨F2.le.trans F3.le, (F2.trans F3).keep, (F2.trans F3).fnew, fun a ha => ?_, (F2.trans F3).mono, (F2.trans F3).rl⟩ (v :: ws) ⟨v, ws, ex1, ex2, rfl, rfl, V2, Vs, dis⟩
  rcases ha with ha | ha
  · exact (F2.trans F3).own a (.inl ha)
  · rcases List.mem_append.mp ha with z | z
    · exact F2.own a (.inr z)
    · exact (F2.trans F3).own a (.inr z)
def setV : List Nat → List V → L2.St → L2.St
  | [], _, σ => σ
  | _, [], σ => σ
  | i :: is, v :: vs, σ => setV is vs (σ.set i (some v))
theorem setS_ok : ∀ {is : List Nat} {xs : List Sl} {vs : List V} {ex : List Addr} {s : S} {σ : L2.St} {loc : List (Option Sl)}, Rel Z g s σ H → VRs Z g s σ H xs vs ex → setS is xs s.loc = some loc → (∀ i ∈ is, i < s.loc.length) →
    Rel Z g ⟨loc, s.res⟩ (setV is vs σ) H ∧ ∀ a, Own g ⟨loc, s.res⟩ (setV is vs σ) H a → Own g s σ H a ∨ a ∈ ex
  | [], [], vs, ex, s, σ, loc, R1, V1, e, _ => by
    cases e
    obtain ⟨rfl, rfl⟩ := V1
    exact ⟨R1, fun a h => .inl h⟩
  | [], _ :: _, _, _, _, _, _, _, _, e, _ => by cases e
  | _ :: _, [], _, _, _, _, _, _, _, e, _ => by cases e
  | i :: is, x :: xs, vs, ex, s, σ, loc, R1, V1, e, hi => by
    obtain ⟨v, ws, e1, e2, rfl, rfl, h3, h4, h5⟩ := V1
    obtain ⟨R2, o2⟩ := R1.setV i (hi i List.mem_cons_self) h3
    have h4' : VRs Z g { s with loc := s.loc.set i (some x) } (σ.set i (some v)) H xs ws e2 := VRs.own h4 fun a ha z => (o2 a z).elim (VRs.no h4 a ha) fun m => h5 a m ha
    obtain ⟨R3, o3⟩ := setS_ok (is := is) R2 h4' (show setS is xs (s.loc.set i (some x)) = some loc from e) fun j hj => by
      show j < (s.loc.set i _).length
      rw [List.length_set]
      exact hi j (List.mem_cons_of_mem _ hj)
    refine ⟨R3, fun a h => ?_⟩
    rcases o3 a h with z | z
    · rcases o2 a z with z | z
      · exact .inl z
      · exact .inr (List.mem_append_left _ z)
    · exact .inr (List.mem_append_right _ z)
theorem par_out {is : List Nat} {n : Nat} (R1 : Rel Z g s σ H) (hl : ∀ i ∈ is, i < s.loc.length) (h : OutS Z W σ g s H ((evS T es s).bind fun xs s => match setS is xs s.loc with
    | some loc => R.ok .nx ⟨loc, s.res⟩
    | none => .bad) En) (hn : is.length = n) : rdSL Z T W es σ H fun vs H1 => vs.length = n ∧ En.nx (setV is vs σ) H1 := by
  refine ⟨g, s, R1, h.bindE.mono fun xs g1 s1 H1 ex R' F' q vs Vs => ?_⟩
  have hlen : s1.loc.length = s.loc.length := by rw [R'.len, R1.len]
  cases e : setS is xs s1.loc with
  | none =>
    rw [e] at q
    exact q.elim
  | some loc =>
    rw [e] at q
    obtain ⟨R2, o2⟩ := setS_ok R' Vs e fun i hi => by rw [hlen]; exact hl i hi
    have len1 : ∀ {is : List Nat} {xs : List Sl} {l l' : List (Option Sl)}, setS is xs l = some l' → xs.length = is.length := fun {is} => by
      induction is with
      | nil => intro xs l l' h; cases xs with
        | nil => rfl
        | cons _ _ => cases h
      | cons i r ih => intro xs l l' h; cases xs with
        | nil => cases h
        | cons x r' => rw [List.length_cons, List.length_cons, ih (show setS r r' (l.set i (some x)) = some l' from h)]
    have len2 : ∀ {xs : List Sl} {vs : List V} {ex : List Addr}, VRs Z g1 s1 σ H1 xs vs ex → vs.length = xs.length := fun {xs} => by
      induction xs with
      | nil => intro vs ex h; rw [h.1]; rfl
      | cons x r ih => intro vs ex ⟨v, ws, e1, e2, h1, h2, h3, h4, h5⟩; rw [h1, List.length_cons, List.length_cons, ih h4]
    refine ⟨by rw [len2 Vs, len1 e, hn], q g1 _ H1 R2 ⟨F'.le, F'.keep, F'.fnew, fun a ha => ?_, F'.mono, F'.rl⟩⟩
    exact F'.own a (ha.elim (fun z => o2 a z) fun z => nomatch z)
theorem ks_par2 {i j : Nat} {n m : Str} {px py pt pt2 : Pos} {kt k2 : Nat} (hc : X.calm = true) (hN : X.N.Nodup) (hi : X.N[i]? = some n) (hj : X.N[j]? = some m) (hij : i ≠ j)
    (hx : X.env.scope.names.lookup n = some .local) (hy : X.env.scope.names.lookup m = some .local) (ha : KSL X cls fnm T W [a, b] [x, y])
    (hw : swappedStores [.Tuple [.Name n px, .Name m py] kt pt] (.Tuple [x, y] k2 pt2) X.env = pure (some [n, m])) :
    KS X cls fnm T W (.par [(i, a), (j, b)]) (.Assign [.Tuple [.Name n px, .Name m py] kt pt] (.Tuple [x, y] k2 pt2) pos) := by
  refine ⟨fun pins sh σ H En I ⟨g, s, R1, h⟩ => (ps_par hc hN hi hj hij hx hy ha hw rfl).run pins sh σ H En I ?_⟩
  unfold Pm.ex at h
  have hl : ∀ k ∈ [i, j], k < s.loc.length := fun k hk => by
    rw [R1.len, I.len]
    rcases List.mem_cons.mp hk with rfl | hk
    · exact (List.getElem?_eq_some_iff.mp hi).1
    · rcases List.mem_cons.mp hk with rfl | hk
      · exact (List.getElem?_eq_some_iff.mp hj).1
      · cases hk
  obtain ⟨g', s', R', q⟩ := par_out (n := 2) R1 hl h rfl
  refine ⟨g', s', R', q.mono fun xs g1 s1 H1 ex _ _ k vs V => ?_⟩
  obtain ⟨k1, k2⟩ := k vs V
  match vs, k1, k2 with
  | [v, w], _, k2 => exact ⟨v, w, rfl, k2⟩
theorem lc_rd {ow : List (Str × Nat)} {elt : E} {tgt : Tg} {k : Ik} {ifs : Option E} (hv : ∀ i ∈ tgt.slots, i ∈ ow.map (·.2)) : ∀ σ H Q, RE X cls fnm T W (.lc (ow.map (·.2)) elt tgt k a b ifs) σ H Q → tLc (rdI (zx X cls fnm) T W k a b) (rdG (zx X cls fnm) tgt) (rdTs (zx X cls fnm) T ifs) (rdE (zx X cls fnm) T W0 elt) (ow.map (·.2)) σ H Q :=
  fun σ H Q ⟨g, s, R1, h⟩ => by
    rw [ev_lc] at h
    exact ⟨g, s, R1, h.bind.mono fun items g1 s1 H1 ex R' F' q J w => lc_run hv R' w (q.later F'.drop)⟩
theorem ks_setLc {elt : E} {eltx : Expr} {tgt : Tg} {k : Ik} {ifs : Option E} {ifx : List Expr} {iter : Expr} {scope : Scope} {ow : List (Str × Nat)} {i : Nat} {n : Str} {py spos : Pos} (hc : X.calm = true) (hN : X.N.Nodup) (hy : X.N[i]? = some n) (hyl : X.env.scope.names.lookup n = some .local)
    (hsw : swapsWith (.ListComp eltx [⟨tg, iter, ifx, 0⟩] scope pos) (some (.Name n py)) spos.line X.env = pure true) (hi : KI X cls fnm T W k a b tg iter) (ok : BlkOk X.N X.env.scope scope ow) (hv : ∀ i ∈ tgt.slots, i ∈ ow.map (·.2))
    (hg : ∀ (s : Shared) (H : Hp) (C : Addr) (cl : List (Str × Addr)) (fp : List Addr), KG (X.blk s H scope (compEnvC scope cl C X.env) fp) cls fnm tgt tg)
    (ht : ∀ (s : Shared) (H : Hp) (C : Addr) (cl : List (Str × Addr)) (fp : List Addr), PTs (X.blk s H scope (compEnvC scope cl C X.env) fp) ifx (rdTs (zx X cls fnm) T ifs))
    (he : ∀ (s : Shared) (H : Hp) (C : Addr) (cl : List (Str × Addr)) (fp : List Addr), KE (X.blk s H scope (compEnvC scope cl C X.env) fp) cls fnm T W0 elt eltx) (hs : ∀ x, foldedSetIterable iter X.env x = pure x) :
    KS X cls fnm T W (.asg (.var i) (.lc (ow.map (·.2)) elt tgt k a b ifs)) (.Assign [.Name n py] (.ListComp eltx [⟨tg, iter, ifx, 0⟩] scope pos) spos) :=
  ks_setK hy (ps_setLc (g := rdG (zx X cls fnm) tgt) (te := rdE (zx X cls fnm) T W0 elt) hc hN hy hyl hsw hi ok (fun s H C cl fp => hg s H C cl fp) ht (fun s H C cl fp => he s H C cl fp) hs) (lc_rd hv) (List.getElem?_eq_some_iff.mp hy).1
end
end Pm
namespace Pm
open PySem PySem.Spec PyProof.Rows L2 RZ
open PySem.W (Frag)
section
variable {X : Cx} {cls : Nat → Addr} {fnm : Fnm} {T : Tab} {W : WX}
variable {Z : Zx} {g g' g1 g2 : Gh} {s s' s1 s2 : S} {σ σ' σ1 σ2 : L2.St} {H H' H1 H2 : Hp} {d e : D} {v u : V} {Q : VK} {p : Addr} {ex ex' : List Addr}
def s0 (ds : List D) (k : Nat) (res : List Cell) : S := ⟨ds.map (fun d => some (Sl.fz d)) ++ List.replicate k none, res⟩
theorem s0_get {ds : List D} {k i : Nat} {res : List Cell} {x : Sl} (h : (s0 ds k res).loc[i]? = some (some x)) : ∃ d, x = .fz d ∧ ds[i]? = some d := by
  have h : (ds.map (fun d => some (Sl.fz d)) ++ List.replicate k none)[i]? = some (some x) := h
  by_cases hi : i < ds.length
  · rw [List.getElem?_append_left (by simpa using hi), List.getElem?_map] at h
    obtain ⟨d, h1, h2⟩ := Option.map_eq_some_iff.mp h
    cases h2
    exact ⟨d, rfl, h1⟩
  · rw [List.getElem?_append_right (by simpa using hi)] at h
    have := List.mem_of_getElem? h
    rw [List.mem_replicate] at this
    cases this.2
theorem s0_cell {ds : List D} {k : Nat} {res : List Cell} {q : Pl} {c : Cell} (h : (s0 ds k res).cell q = some c) : (⟨[], res⟩ : S).cell q = some c ∧ ∃ j, q = .res j := by
  cases q with
  | res j => exact ⟨h, j, rfl⟩
  | loc i =>
    have h : (match (s0 ds k res).loc[i]? with
      | some (some (.ow c)) => some c
      | _ => none) = some c := h
    cases e : (s0 ds k res).loc[i]? with
    | none => rw [e] at h; cases h
    | some o => cases o with
      | none => rw [e] at h; cases h
      | some x =>
        obtain ⟨d, rfl, _⟩ := s0_get e
        rw [e] at h
        cases h
theorem rel_start {ds : List D} {vs : List V} {k : Nat} {res : List Cell} {N : List Str} (R1 : Rel Z g ⟨[], res⟩ [] H) (i : IsL Z g ds vs) (hk : k = N.length - vs.length) : Rel Z g (s0 ds k res) (L2.start N vs) H ∧ ∀ a, Own g (s0 ds k res) (L2.start N vs) H a → Own g ⟨[], res⟩ [] H a := by
  have hl := isL_len i
  refine ⟨⟨R1.sub, fun j d h => ?_, fun q c h => ?_, fun q q' c c' p p' ne h1 h2 h3 h4 => ?_, ?_, R1.rdom⟩, fun a ⟨q, c, x, h1, h2, h3⟩ => ?_⟩
  · obtain ⟨d', e, h1⟩ := s0_get h
    subst e
    obtain ⟨v, h2, h3⟩ := isL_get i h1
    refine ⟨v, ?_, h3⟩
    unfold L2.start
    have hj : j < vs.length := (List.getElem?_eq_some_iff.mp h2).1
    rw [List.getElem?_append_left (by simpa using hj), List.getElem?_map, h2]
    rfl
  · obtain ⟨h1, j, rfl⟩ := s0_cell h
    exact R1.cell _ c h1
  · obtain ⟨k1, j, rfl⟩ := s0_cell h1
    obtain ⟨k2, j', rfl⟩ := s0_cell h2
    exact R1.apart _ _ c c' p p' ne k1 k2 h3 h4
  · show (ds.map _ ++ List.replicate k none).length = (vs.map some ++ List.replicate (N.length - vs.length) none).length
    simp [hl, hk]
  · obtain ⟨k1, j, rfl⟩ := s0_cell h1
    exact ⟨_, c, x, k1, h2, h3⟩
theorem Fr.rs {res : List Cell} (F : Fr σ σ' g s H g' s' H' ex) (hr : s.res = res) (h : ∀ a, Own g s σ H a → Own g ⟨[], res⟩ [] H a) : Fr [] [] g ⟨[], res⟩ H g' ⟨[], s'.res⟩ H' ex := by
  have up : ∀ a, Own g ⟨[], res⟩ [] H a → Own g s σ H a := fun a z => own_rs (s := s) (by unfold S.rs; rw [hr]; exact z)
  refine ⟨F.le, fun a o e n => F.keep a o e fun z => n (h a z), fun a e n f => F.fnew a e (fun z => n (h a z)) f, fun a ha => ?_, F.mono, by rw [← hr]; exact F.rl⟩
  exact (F.own a (ha.imp (fun z => own_rs (s := s') z) id)).imp id (h a)
theorem VR.rs {x : Sl} (V1 : VR Z g s σ H x v ex) : VR Z g ⟨[], s.res⟩ [] H x v ex := by
  cases x with
  | xc _ _ => exact V1
  | fz d => exact V1
  | ow c =>
    obtain ⟨p, h1, h2, h3, h4, h5⟩ := V1
    exact ⟨p, h1, h2, h3, fun a ha z => h4 a ha (own_rs (s := s) z), h5⟩
theorem body_ok {c : Code} {ds : List D} {vs : List V} {res : List Cell} {N : List Str} {E : XK} (hn : N.length = c.n) (R1 : Rel Z g ⟨[], res⟩ [] H) (i : IsL Z g ds vs) (hl : vs.length = c.ar)
    (m : match runCode T c ds res with
      | .ok x res' => ∀ v g' H' ex, Rel Z g' ⟨[], res'⟩ [] H' → Fr [] [] g ⟨[], res⟩ H g' ⟨[], res'⟩ H' ex → VR Z g' ⟨[], res'⟩ [] H' x v ex → Q v H'
      | .exc k fs res' => ∀ g' H' cls d, Rel Z g' ⟨[], res'⟩ [] H' → Fr [] [] g ⟨[], res⟩ H g' ⟨[], res'⟩ H' [] → ExAt Z g' H' k fs cls d → E cls d H'
      | .bad => False) : rdSs Z T (fun cls d _ H => E cls d H) c.body { nx := fun _ H' => Q .non H', rt := Q } (L2.start N vs) H := by
  have hd : ds.length = c.ar := by rw [← isL_len i]; exact hl
  obtain ⟨R2, o2⟩ := rel_start (k := c.n - c.ar) (N := N) R1 i (by rw [hn, hl])
  refine ⟨g, s0 ds (c.n - c.ar) res, R2, ?_⟩
  unfold runCode at m
  rw [if_pos hd] at m
  have m : match (match exL T c.body (s0 ds (c.n - c.ar) res) with
      | .ok .nx s => FR.ok (.fz .non) s.res
      | .ok (.ret a) s => .ok a s.res
      | .exc k fs s => .exc k fs s.res
      | .bad => .bad) with
    | .ok x res' => ∀ v g' H' ex, Rel Z g' ⟨[], res'⟩ [] H' → Fr [] [] g ⟨[], res⟩ H g' ⟨[], res'⟩ H' ex → VR Z g' ⟨[], res'⟩ [] H' x v ex → Q v H'
    | .exc k fs res' => ∀ g' H' cls d, Rel Z g' ⟨[], res'⟩ [] H' → Fr [] [] g ⟨[], res⟩ H g' ⟨[], res'⟩ H' [] → ExAt Z g' H' k fs cls d → E cls d H'
    | .bad => False := m
  cases e : exL T c.body (s0 ds (c.n - c.ar) res) with
  | bad =>
    rw [e] at m
    exact m
  | exc k fs s1 =>
    rw [e] at m
    exact fun g' σ' H' cls d R' F' X' => m g' H' cls d R'.rs (F'.rs rfl o2) X'
  | ok f s1 =>
    rw [e] at m
    cases f with
    | nx => exact fun g' σ' H' R' F' => m .non g' H' [] R'.rs (F'.rs rfl o2) ⟨rfl, rfl⟩
    | ret x => exact fun g' σ' H' ex v R' F' V' => m v g' H' ex R'.rs (F'.rs rfl o2) V'.rs
theorem fn_code {P : Program} {w : World} {K : Frag} {mg : Str → Option Value} {base : Heap} {x qual : Str} {st : Stmt} {f : Addr} {fd : FuncData} {N ps : List Str} {k : Nat} {c : Code} (F : C8.Fun K x qual st f fd) (Sc : FnScope N ps (C8.fnScope st)) (hn : N.length = c.n) (hp : ps.length = c.ar)
    (hb : ∀ (cdv : Value) (A : Around) (outer : List Env) (s : Shared) (H : Hp) (E : XK), Room k (A.deeper (envOfC qual (C8.fnScope st) s.heap.objs.size f cdv)) →
      KSs (cxOf (L2.CX P w) P w K mg base N qual (C8.fnScope st) f cdv A outer s H E) cls fnm T (fun cls d _ H => E cls d H) c.body (C8.fnBody st)) :
    FnOk P w K mg base (L2.CX P w) (k + 1) f fd ps (spF ⟨K, w, cls, fnm⟩ (runCode T c) c.ar) := by
  obtain ⟨oc, od, dV, kV, doc, pm, an, cdv, ct, osl, rfl, lk, hcd⟩ := F.ex
  refine fn_of lk hcd Sc (fun vs H Q E h => h.1.trans hp.symm) fun A outer s H vs Q E hr ⟨hl, g, res, ds, R1, i, m⟩ => ?_
  exact ⟨_, hb cdv A outer s H E hr, body_ok hn R1 i hl m⟩
theorem runCode_ar {c : Code} : ∀ ds res, ds.length ≠ c.ar → runCode T c ds res = .bad := fun ds res h => by
  unfold runCode
  rw [if_neg h]
end
end Pm
namespace PySem
theorem zip_lookup : ∀ {ns : List Str} {us : List Value}, ns.Nodup → us.length = ns.length → (ns.filterMap fun n => ((ns.zip us).lookup n).map (n, ·)) = ns.zip us ∧ (ns.filter fun n => ((ns.zip us).lookup n).isNone) = [] := by
  intro ns us nd hl
  have key : ∀ (ns : List Str) (us : List Value), ns.Nodup → us.length = ns.length → ∀ pre : List (Str × Value), (∀ n ∈ ns, pre.lookup n = none) →
      (ns.filterMap fun n => ((pre ++ ns.zip us).lookup n).map (n, ·)) = ns.zip us ∧ (ns.filter fun n => ((pre ++ ns.zip us).lookup n).isNone) = [] := by
    intro ns
    induction ns with
    | nil => intro us _ _ pre _; simp
    | cons a r ih =>
      intro us nd hl pre hp
      cases us with
      | nil => cases hl
      | cons u us =>
        have nd' := List.nodup_cons.mp nd
        have la : (pre ++ (a :: r).zip (u :: us)).lookup a = some u := by
          rw [List.lookup_append, hp a (List.mem_cons_self)]
          simp [List.lookup]
        obtain ⟨i1, i2⟩ := ih us nd'.2 (by simpa using hl) (pre ++ [(a, u)]) (fun n hn => by
          have ne : (n == a) = false := beq_eq_false_iff_ne.mpr (fun z => nd'.1 (z ▸ hn))
          rw [List.lookup_append, hp n (List.mem_cons_of_mem _ hn)]
          simp [List.lookup, ne])
        have e : pre ++ (a :: r).zip (u :: us) = (pre ++ [(a, u)]) ++ r.zip us := by simp
        rw [e] at la ⊢
        constructor
        · rw [List.filterMap_cons, la]
          simp only [Option.map_some]
          rw [i1]
          rfl
        · rw [List.filter_cons, la]
          simpa using i2
  simpa using key ns us nd hl [] (by simp)
theorem bind_plain {fd : FuncData} {us : List Value} {ns : List Str} (hn : fd.params.args.map (·.arg) = ns) (h1 : fd.params.posonlyargs = []) (h2 : fd.params.vararg = none) (h3 : fd.params.kwonlyargs = []) (h4 : fd.params.kwarg = none) (hd : fd.defaults = .none) (nd : ns.Nodup) (hl : us.length = ns.length) :
    bindArgs fd ⟨us, []⟩ = pure (ns.zip us) := by
  obtain ⟨z1, z2⟩ := zip_lookup nd hl
  unfold bindArgs
  simp only [h1, h2, h3, h4, hd, hn, List.map_nil, List.nil_append, List.append_nil, seqItems?]
  simp [hl, z1, z2]
  rfl
theorem meth_form {o : Expr} {m : Str} {apos pos : Pos} {xs : List Expr} {env : Env} (hl : (apos.endLine == pos.line) = true) (hf : methodCallForm (xs.length + 0) (backTo pos (starEach xs env)) (backToKw pos (keywordEach [] env)) = true) :
    eval (.Call (.Attribute o m apos) xs [] pos) env = (do
      let ov ← attributeBase o m env (eval o env)
      standAt apos.atName
      let (f, first) ← holding [ov] (getMethod ov m (do return (← importBound o env).getD true))
      callWith pos f first (backTo pos (starEach xs env)) []) := by
  rw [arm_eval_Call]
  unfold methodCall
  have hf' : methodCallForm (xs.length + ([] : List Keyword).length) (backTo pos (starEach xs env)) (backToKw pos (keywordEach [] env)) = true := hf
  rw [hf']
  have hp : methodCallPos true o env apos pos = pure pos := by unfold methodCallPos; simp [hl]
  rw [hp]
  rfl
theorem meth_few {xs : List Expr} {env : Env} {pos : Pos} (h : xs.all (fun x => !Pm.starX x) = true) (hl : xs.length < 30) : methodCallForm (xs.length + 0) (backTo pos (starEach xs env)) (backToKw pos (keywordEach [] env)) = true := by
  have e : (backTo pos (starEach xs env)).all (!·.1) = true := by
    have z := Pm.backTo_none (env := env) (pos := pos) h
    rw [List.all_eq_true]
    intro p hp
    cases q : p.1 with
    | false => rfl
    | true =>
      have : (backTo pos (starEach xs env)).any (·.1) = true := List.any_eq_true.mpr ⟨p, hp, q⟩
      rw [z] at this
      cases this
  unfold methodCallForm
  rw [e]
  simpa [keywordEach, backToKw] using hl
namespace Pmx
open PySem.W PySem.Calls PyProof.Rows PySem.HandSPX
structure XTxt (prog : Program) (K : Frag) (C fI cda cc : Addr) : Prop where
  cls : ∃ nm q N bs bm sn sub ab col dd k0 k1 k2 k3 k5, K.lookup C = some (excClassObj nm q C N bs bm true sn sub ab col dd k0 k1 k2 k3 k5 "ValueError.__new__") ∧ refsVE bm = true
  tI : typeIn K (.ref fI) = some (.type "function")
  cod : ∃ (ccl : Value) (cdd : Option Addr) (ccs : Array (Option Value)) (vs : Array Value) (file : Str) (tf : Tok), K.lookup cda = some ⟨ccl, cdd, .fields vs, ccs⟩ ∧ vs[2]? = some (.str file tf) ∧ ((prog.main.file : Str) == file) = true
  cel : ∃ (cl : Value) (cld : Option Addr) (csl : Array (Option Value)), K.lookup cc = some ⟨cl, cld, .cell (some (.ref C)), csl⟩
  sub : mroIn K C (.ref C) = some true
  nsup : nsIn K mainGlobals "super" = some none
  top : (prog.main.scope.names.lookup ("super" : Str)).isSome = false
  sup : ks_superIn K C C "__init__" = some (some (.builtin "ValueError.__init__"))
  subB : subIn K (.ref C) (.type "ValueError") = some true
  opa : nsIn K cStatics "thirdparty.any" = some none
section
variable {prog : Program} {w : World} {A : Around} {E : Value → Shared → Prop} {s : Shared} {K : Frag} {C fI cda cc L x t0 : Addr}
theorem call_mw {h : Heap} {g : Array GenState} {d : Drawn} {t : Nat} {os : OsState} {nm q : Str} {N u e t0 : Addr} {bs bm : List Value} {hdct : Bool} {sn : List Str} {sub : List Value} {ab : Bool} {col : Option Bool} {dd : Option Addr} {k0 k1 k2 k3 k5 : Option Value} {rest : List Value} {Q : Value → Shared → Prop}
    (hC : h.get? C = some (excClassObj nm q C N bs bm hdct sn sub ab col dd k0 k1 k2 k3 k5 "ValueError.__new__")) (he : h.get? e = some (excO C t0)) (hu : h.get? u = some (kxs_mw "ValueError.__init__" e)) (hrest : rest.length ≤ sizeLine)
    (hq : ∀ h' t1, (∀ b o, b ≠ e → h.get? b = some o → h'.get? b = some o) → h'.get? e = some (excO C t1) → Q .none ⟨h', g, d, t, os⟩) :
    wpAny (model prog w) A (call (.ref u) rest) Q E ⟨h, g, d, t, os⟩ := by
  refine wpAny_call (codeAny_of_tree ?_)
  show wpAny _ A.in1 (callAny (.ref u) ⟨rest, []⟩) _ _ _
  simp only [callAny]
  refine wpAny_bind (wpAny_load hu ?_)
  simp only [kxs_mw, show (Value.type "method-wrapper" == Value.type "method" || Value.type "method-wrapper" == Value.type "builtin_function_or_method" || Value.type "method-wrapper" == Value.type "method-wrapper") = true by decide, if_true]
  refine KFB.if_so (by decide) ?_
  refine wpAny_bind (ESX.check_bound F.excBase_ValueError hC he rfl ?_)
  refine wpAny_bind (wpAny_pure (wpAny_pure ?_))
  refine ⟨Code.quiet_builtin _ (by decide +kernel), codeAny_builtin F.excBase_ValueError.initEntry ?_⟩
  rw [Around.under_plainId F.excBase_ValueError.init.plain _]
  wp_walk
  refine hq _ h.objs.size (fun b o hb ho => ?_) ?_
  · rw [Heap.get?_update_other _ _ (Ne.symm hb)]
    exact Heap.get?_push_of_some _ ho
  · rw [Heap.get?_update_self _ (Heap.get?_push_of_some _ he) rfl]
    rfl
theorem super_init (T : XTxt prog K C fI cda cc) {q0 : Str} {scope : Scope} {body : List Stmt} {p0 p1 p2 p3 p4 : Pos} {j : Nat} {txt : Str} {fd : FuncData} {ar : Arg} {oc : Value} {od : Option Addr} {osl : Array (Option Value)} {m mg mb : Str → Option Value} {Q : Value → Shared → Prop}
    (X : K.In s.heap) (hns : s.heap.Ns L m) (hg : s.heap.Ns mainGlobals mg) (hb : s.heap.Ns builtinsNs mb) (hbs : mb "super" = some (.type "super")) (hx : s.heap.get? x = some (excO C t0)) (hf : K.lookup fI = some ⟨oc, od, .func fd, osl⟩) (hp : (fd.params.posonlyargs ++ fd.params.args).head? = some ar) (hv : m ar.arg = some (.ref x))
    (hks : scope.names.lookup ("super" : Str) = some .globalImplicit) (hkc : scope.names.lookup ("__class__" : Str) = some .free) (hka : scope.names.lookup ar.arg = some .local) (hk : scope.kind = .function) (hl : (p2.endLine == p4.line) = true)
    (h : ∀ h' t1 tk, (∀ b o, b ≠ x → s.heap.get? b = some o → h'.get? b = some o) → h'.get? x = some (excO C t1) → Q .none { s with heap := h', toks := tk }) :
    _root_.PySem.wpAt (model prog w) A (.func body (ksEnv q0 scope L fI (.ref cda) cc)) (eval (.Call (.Attribute (.Call (.Name "super" p0) [] [] p1) "__init__" p2) [.Constant (.str txt) j p3] [] p4) (ksEnv q0 scope L fI (.ref cda) cc)) Q E s := by
  obtain ⟨nm, q, N, bs, bm, sn, sub, ab, col, dd, k0, k1, k2, k3, k5, hC, hbm⟩ := T.cls
  obtain ⟨ccl, cdd, ccs, vs, file, tf, hcode, hvs, hfile⟩ := T.cod
  obtain ⟨cl, cld, csl, hcell⟩ := T.cel
  obtain ⟨hh, g, d, t, os⟩ := s
  have hC1 : hh.get? C = some (excClassObj nm q C N bs bm true sn sub ab col dd k0 k1 k2 k3 k5 "ValueError.__new__") := X _ _ hC
  have hxI : InstAt hh x (excO C t0) C none := ⟨hx, rfl, rfl, trivial⟩
  refine ks_wpAt_MethodCall ?_ (meth_form hl (meth_few (xs := [.Constant (.str txt) j p3]) rfl (by show 1 < 30; decide)))
  refine ks_wpAt_super_base (env := ksEnv q0 scope L fI (.ref cda) cc) hks hkc (by decide) rfl (X _ _ hf) rfl hp rfl (X _ _ hcode) rfl hvs hfile T.top ?_
  refine ks_loadName_global hk hks (loadGlobal_builtin (env := ksEnv q0 scope L fI (.ref cda) cc) hg (mg_none_of X hg T.nsup) hb hbs ⟨rfl, ?_⟩)
  refine wpAny_loadName_free hk hkc rfl ⟨_, X _ _ hcell, rfl⟩ ?_
  refine wpAny_loadName_local hk hka hns hv ?_
  refine ks_wpAny_isType_cls hC1 rfl ⟨rfl, ?_⟩
  refine ks_wpAny_call_super hC1 rfl hx rfl (fun c e => by cases e) (looks_mroIn X T.sub) (fun h1 e1 k1' => ?_)
  have X1 : K.In h1 := X.keeps k1'
  have hx1 := k1' _ _ hx
  have hcd : clsIn K C = some { name := nm, bases := bs, mro := .ref C :: bm, ns := N, qualname := q, hasDict := true, slotNames := sn, subclasses := sub, abstract := ab, collection := col, hasDel := false } := by unfold clsIn; rw [hC] <;> rfl
  have hsup := T.sup
  unfold ks_superIn at hsup
  rw [hcd] at hsup
  have hI : Looks (model prog w) h1 (isInstance (.ref x) (.type "ValueError")) true := InstAt.type (M := model prog w) (show InstAt h1 x (excO C t0) C none from ⟨hx1, rfl, rfl, trivial⟩) |>.andThen (looks_subIn X1 T.subB)
  have hxC : x ≠ C := fun z => by
    rw [z, hC1] at hx
    cases hx
  have hmro : Looks (model prog w) h1 (mroOf (.ref C)) (.ref C :: bm) := (looks_clsIn X1 hcd).andThen .now
  refine kxs_getMethod kxs_ValueError e1 (looks_opaque X1 T.opa) hmro rfl X1 hsup hI hxC (by decide) ?_
  -- the call of the bound __init__
  refine kxs_callWith (i := "ValueError.__init__") (x := x) rfl ?_
  refine evalArgs_plain ?_
  refine Calls.spliced_cons ?_
  show wpAny _ _ (eval (.Constant (.str txt) j p3) (ksEnv q0 scope L fI (.ref cda) cc)) _ _ _
  refine Calls.Constant_str ?_
  refine Calls.spliced_nil ⟨?_, ?_⟩
  · exact Heap.get?_push_size _ rfl
  · refine call_mw (Heap.get?_push_of_some _ (X1 _ _ hC)) (Heap.get?_push_of_some _ hx1) (Heap.get?_push_size _ rfl) (by rw [sizeLine_eq]; exact (by decide : 1 ≤ 16777216)) fun h' t1 k' e' => ?_
    exact h h' t1 _ (fun b o hb ho => k' b o hb (Heap.get?_push_of_some _ (k1' b o ho))) e'
def ag2 (p1 p2 : Pos) (n : Str) : Arguments := { posonlyargs := [], args := [{ arg := "self", annotation := none, pos := p1 }, { arg := n, annotation := none, pos := p2 }], vararg := none, kwonlyargs := [], kw_defaults := [], kwarg := none, defaults := [] }
def ag1 (p1 : Pos) : Arguments := { posonlyargs := [], args := [{ arg := "self", annotation := none, pos := p1 }], vararg := none, kwonlyargs := [], kw_defaults := [], kwarg := none, defaults := [] }
def supS (p0 p1 p2 p3 p4 p5 : Pos) (txt : Str) (j : Nat) : Stmt := .Expr (.Call (.Attribute (.Call (.Name "super" p0) [] [] p1) "__init__" p2) [.Constant (.str txt) j p3] [] p4) p5
def stoS (q1 q2 q3 q4 : Pos) (n f : Str) : Stmt := .Assign [.Attribute (.Name "self" q1) f q2] (.Name n q3) q4
structure ScOk (scope : Scope) (ns : List Str) : Prop where
  sup : scope.names.lookup ("super" : Str) = some .globalImplicit
  cla : scope.names.lookup ("__class__" : Str) = some .free
  loc : ∀ n ∈ ns, scope.names.lookup n = some .local
  cel : ∀ y ∈ scope.names, y.2 ≠ .cell
  kind : scope.kind = .function
  co : scope.isCoroutine = false
  gen : scope.isGenerator = false
variable {R : Result → Shared → Prop}
theorem fn_quiet {env : Env} (h : env.scope.kind = .function) : interactive env = false := by
  unfold interactive
  rw [h]
  rfl
theorem noLk {a : Addr} (X : K.In s.heap) (h : s.heap.get? a = none) : K.lookup a = none := by
  cases e : K.lookup a with
  | none => rfl
  | some o =>
    have := X _ _ e
    rw [h] at this
    cases this
theorem init1 (T : XTxt prog K C fI cda cc) {qual txt : Str} {scope : Scope} {p1 p0 p2 p3 p4 p5 p6 : Pos} {j : Nat} {kV doc pm ct oc : Value} {an od : Option Addr} {osl : Array (Option Value)} {mg mb : Str → Option Value}
    (hf : K.lookup fI = some ⟨oc, od, .func (ksFn "__init__" qual (ag1 p1) [supS p0 p2 p3 p4 p5 p6 txt j] scope .none kV doc pm an (.ref cda) ct cc), osl⟩) (hcd : codeIn K (.ref cda) qual = true) (Sc : ScOk scope ["self"]) (hl : (p3.endLine == p5.line) = true)
    (X : K.In s.heap) (hlim : s.heap.NoLimit) (hg : s.heap.Ns mainGlobals mg) (hb : s.heap.Ns builtinsNs mb) (hbs : mb "super" = some (.type "super")) (hx : s.heap.get? x = some (excO C t0)) (hroom : A.depth < recursionLimit)
    (hq : ∀ h' t1 tk, (∀ b o, b ≠ x → s.heap.get? b = some o → h'.get? b = some o) → h'.get? x = some (excO C t1) → R (.ok (.ret .none)) { s with heap := h', toks := tk }) :
    codeAny (model prog w) A (.call (.ref fI) ⟨[.ref x], []⟩) R s := by
  refine ks_codeAny_call_defAt hroom (X _ _ hf) rfl hlim (codeRec_of X hcd) rfl (.of_eq (bind_plain (ns := [("self" : Str)]) (us := [.ref x]) rfl rfl rfl rfl rfl rfl (by simp) rfl)) Sc.cel (fun y hy => ?_) (fun h₁ hns k₁ => ?_) Sc.co Sc.gen Sc.kind
  · have e : y = (("self" : Str), Value.ref x) := by simpa using hy
    rw [e]
    exact Sc.loc "self" (by simp)
  · refine ks_wpAt_execs_cons (ks_wpAt_Expr_any ?_ (fn_quiet Sc.kind) rfl)
    refine super_init (s := { s with heap := h₁, toks := _ }) T (X.keeps k₁) hns (hg.keeps k₁) (hb.keeps k₁) hbs (k₁ _ _ hx) hf rfl (by rfl) Sc.sup Sc.cla (Sc.loc "self" (by simp)) Sc.kind hl fun h' t1 tk k' e' => ?_
    refine wpAt_of_wpAny (wpAny_execs_nil ?_)
    exact hq h' t1 tk (fun b o hb ho => k' b o hb (k₁ b o ho)) e'
theorem init2 (T : XTxt prog K C fI cda cc) {qual txt n f : Str} {scope : Scope} {p1 p7 p0 p2 p3 p4 p5 p6 q1 q2 q3 q4 : Pos} {j : Nat} {kV doc pm ct oc v : Value} {an od : Option Addr} {osl : Array (Option Value)} {mg mb : Str → Option Value}
    (hf : K.lookup fI = some ⟨oc, od, .func (ksFn "__init__" qual (ag2 p1 p7 n) [supS p0 p2 p3 p4 p5 p6 txt j, stoS q1 q2 q3 q4 n f] scope .none kV doc pm an (.ref cda) ct cc), osl⟩) (hcd : codeIn K (.ref cda) qual = true) (Sc : ScOk scope ["self", n]) (hl : (p3.endLine == p5.line) = true)
    (hn : ("self" : Str) ≠ n) (hdn : (n == ("__debug__" : Str)) = false) (sa : findIn K (.ref C) "__setattr__" = some (some (.builtin "object.__setattr__"))) (noF : findIn K (.ref C) f = some none)
    (X : K.In s.heap) (hlim : s.heap.NoLimit) (hg : s.heap.Ns mainGlobals mg) (hb : s.heap.Ns builtinsNs mb) (hbs : mb "super" = some (.type "super")) (hx : s.heap.get? x = some (excO C t0)) (hnx : K.lookup x = none) (hroom : A.depth < recursionLimit)
    (hq : ∀ h' t1 tk dx, (∀ b o, b ≠ x → s.heap.get? b = some o → h'.get? b = some o) → h'.get? x = some { cls := .ref C, dict := some dx, data := .fields #[.ref t1, .none, .none, .none, .bool false, .none] } → s.heap.objs.size ≤ dx → dx ≠ x → h'.Ns1 dx (fun y => if y = f then some v else none) → R (.ok (.ret .none)) { s with heap := h', toks := tk }) :
    codeAny (model prog w) A (.call (.ref fI) ⟨[.ref x, v], []⟩) R s := by
  obtain ⟨nm, q, N, bs, bm, sn, sub, ab, col, dd, k0, k1, k2, k3, k5, hC, hbm⟩ := T.cls
  have hcl : clsIn K C = some { name := nm, bases := bs, mro := .ref C :: bm, ns := N, qualname := q, hasDict := true, slotNames := sn, subclasses := sub, abstract := ab, collection := col, hasDel := false } := by unfold clsIn; rw [hC] <;> rfl
  refine ks_codeAny_call_defAt hroom (X _ _ hf) rfl hlim (codeRec_of X hcd) rfl (.of_eq (bind_plain (ns := [("self" : Str), n]) (us := [.ref x, v]) rfl rfl rfl rfl rfl rfl (by simp [hn]) rfl)) Sc.cel (fun y hy => ?_) (fun h₁ hns k₁ => ?_) Sc.co Sc.gen Sc.kind
  · have e : y = (("self" : Str), Value.ref x) ∨ y = (n, v) := by simpa using hy
    rcases e with e | e <;> rw [e]
    · exact Sc.loc "self" (by simp)
    · exact Sc.loc n (by simp)
  · have m0 : ([(("self" : Str), Value.ref x), (n, v)].reverse.lookup ("self" : Str)) = some (Value.ref x) := by
      have e1 : (("self" : Str) == n) = false := beq_eq_false_iff_ne.mpr hn
      simp [List.lookup, e1]
    have m1 : ([(("self" : Str), Value.ref x), (n, v)].reverse.lookup n) = some v := by simp [List.lookup]
    refine ks_wpAt_execs_cons (ks_wpAt_Expr_any ?_ (fn_quiet Sc.kind) rfl)
    have hxL : s.heap.objs.size ≠ x := Nat.ne_of_gt (Heap.lt_size hx)
    refine super_init (s := { s with heap := h₁, toks := _ }) T (X.keeps k₁) hns (hg.keeps k₁) (hb.keeps k₁) hbs (k₁ _ _ hx) hf rfl m0 Sc.sup Sc.cla (Sc.loc "self" (by simp)) Sc.kind hl fun h' t1 tk k' e' => ?_
    have hns' : h'.Ns s.heap.objs.size (fun y => [(("self" : Str), Value.ref x), (n, v)].reverse.lookup y) := hns.at fun o e => k' _ o hxL e
    have old : ∀ b o, b ≠ x → s.heap.get? b = some o → h'.get? b = some o := fun b o hb ho => k' b o hb (k₁ b o ho)
    have X' : K.In h' := fun b o e => old b o (fun z => by rw [z, hnx] at e; cases e) (X b o e)
    refine wpAt_of_wpAny (wpAny_execs_cons (plainObj_wpAny_Assign_Attribute ?_ rfl))
    refine wpAny_Name (wpAny_loadName_local Sc.kind (Sc.loc n (by simp)) hns' m1 ?_) hdn
    refine wpAny_Name (wpAny_loadName_local Sc.kind (Sc.loc "self" (by simp)) hns' m0 ?_) (by decide)
    refine set_plain X' (ox := excO C t1) (od := none) ⟨e', rfl, rfl, trivial⟩ sa ?_
    refine exc_osa X' e' hcl (show refsVE (.ref C :: bm) = true from hbm) rfl noF (fun h₃ tk₃ dx k₃ dn dne hx₃ hn₃ => ?_)
    refine wpAny_execs_nil (hq h₃ t1 tk₃ dx (fun b o hb e => k₃ b o hb (old b o hb e)) hx₃ ?_ dne hn₃)
    have z : s.heap.objs.size < h'.objs.size := hns'.lt
    exact Nat.le_of_lt (Nat.lt_of_lt_of_le z dn)
end
end Pmx
end PySem
namespace PySem
namespace Pmx
open PySem.W PySem.Calls PyProof.Rows PySem.HandSPX
def X1 (prog : Program) (K : Frag) (C : Addr) (f : Str) : Prop := ∃ fI cda cc qual txt n scope p1 p7 p0 p2 p3 p4 p5 p6 q1 q2 q3 q4 j kV doc pm ct oc an od osl,
  XTxt prog K C fI cda cc ∧ K.lookup fI = some ⟨oc, od, .func (ksFn "__init__" qual (ag2 p1 p7 n) [supS p0 p2 p3 p4 p5 p6 txt j, stoS q1 q2 q3 q4 n f] scope .none kV doc pm an (.ref cda) ct cc), osl⟩ ∧ codeIn K (.ref cda) qual = true ∧
    ScOk scope ["self", n] ∧ (p3.endLine == p5.line) = true ∧ ("self" : Str) ≠ n ∧ (n == ("__debug__" : Str)) = false ∧ findIn K (.ref C) "__setattr__" = some (some (.builtin "object.__setattr__")) ∧ findIn K (.ref C) f = some none ∧ findIn K (.ref C) "__init__" = some (some (.ref fI))
def X0 (prog : Program) (K : Frag) (C : Addr) : Prop := ∃ fI cda cc qual txt scope p1 p0 p2 p3 p4 p5 p6 j kV doc pm ct oc an od osl,
  XTxt prog K C fI cda cc ∧ K.lookup fI = some ⟨oc, od, .func (ksFn "__init__" qual (ag1 p1) [supS p0 p2 p3 p4 p5 p6 txt j] scope .none kV doc pm an (.ref cda) ct cc), osl⟩ ∧ codeIn K (.ref cda) qual = true ∧
    ScOk scope ["self"] ∧ (p3.endLine == p5.line) = true ∧ findIn K (.ref C) "__init__" = some (some (.ref fI))
section
variable {prog : Program} {w : World} {A : Around} {R : Result → Shared → Prop} {s : Shared} {K : Frag} {C : Addr}
theorem made1 {f : Str} (T : X1 prog K C f) {v : Value} {mg mb : Str → Option Value} (X : K.In s.heap) (hlim : s.heap.NoLimit) (hg : s.heap.Ns mainGlobals mg) (hb : s.heap.Ns builtinsNs mb) (hbs : mb "super" = some (.type "super")) (hroom : A.depth + 1 < recursionLimit)
    (hq : ∀ h' tk e d, (∀ b o, s.heap.get? b = some o → h'.get? b = some o) → s.heap.objs.size ≤ e → (∃ oe vs, h'.get? e = some oe ∧ oe.cls = .ref C ∧ oe.dict = some d ∧ oe.data = .fields vs ∧ vs[1]? = some .none) → s.heap.objs.size ≤ d → d ≠ e →
      h'.Ns1 d (fun y => if y = f then some v else none) → R (.ok (.ret (.ref e))) { s with heap := h', toks := tk }) :
    codeAny (model prog w) A (.call (.ref C) ⟨[v], []⟩) R s := by
  obtain ⟨fI, cda, cc, qual, txt, n, scope, p1, p7, p0, p2, p3, p4, p5, p6, q1, q2, q3, q4, j, kV, doc, pm, ct, oc, an, od, osl, XT, hf, hcd, Sc, hl, hn, hdn, sa, noF, iC⟩ := T
  obtain ⟨nm, q, N, bs, bm, sn, sub, ab, col, dd, k0, k1, k2, k3, k5, hC, hbm⟩ := XT.cls
  obtain ⟨hp, g, dr, tk, os⟩ := s
  have k : ∀ b o, hp.get? b = some o → ((hp.push (kdv_tup [v])).push (excO C hp.objs.size)).get? b = some o := fun b o e => Heap.get?_push_of_some _ (Heap.get?_push_of_some _ e)
  have hget : ((hp.push (kdv_tup [v])).push (excO C hp.objs.size)).get? (hp.objs.size + 1) = some (excO C hp.objs.size) := by heap_get
  have hnx : K.lookup (hp.objs.size + 1) = none := by
    cases e : K.lookup (hp.objs.size + 1) with
    | none => rfl
    | some o =>
      have z : hp.get? (hp.objs.size + 1) = some o := X _ _ e
      exact absurd (Nat.lt_of_succ_lt (Heap.lt_size z)) (Nat.lt_irrefl _)
  refine call_own F.excBase_ValueError (fun Y => refsVE_contains Y bm hbm) (X _ _ hC) (looks_findIn X iC) (fun self => bind_fn X self XT.tI) (by rw [sizeLine_eq]; exact (by decide : 1 ≤ 16777216)) ?_
  refine init2 (s := ⟨(hp.push (kdv_tup [v])).push (excO C hp.objs.size), g, dr, tk, os⟩) XT hf hcd Sc hl hn hdn sa noF (X.keeps k) (hlim.keeps k) (hg.keeps k) (hb.keeps k) hbs hget hnx ?_ fun h' t1 tk' dx k' hx dn dne hns => ?_
  · show A.depth + 1 < recursionLimit
    exact hroom
  · have old : ∀ b o, hp.get? b = some o → h'.get? b = some o := fun b o e => k' b o (Nat.ne_of_lt (Nat.lt_succ_of_lt (Heap.lt_size e))) (k b o e)
    have z : hp.objs.size ≤ dx := by
      have q := dn
      have e1 : ((hp.push (kdv_tup [v])).push (excO C hp.objs.size)).objs.size = hp.objs.size + 1 + 1 := by rw [Heap.size_push, Heap.size_push]
      have q' : hp.objs.size + 1 + 1 ≤ dx := by rw [← e1]; exact q
      omega
    exact ⟨rfl, hq h' tk' (hp.objs.size + 1) dx old (Nat.le_succ _) ⟨_, _, hx, rfl, rfl, rfl, rfl⟩ z dne hns⟩
theorem made0 (T : X0 prog K C) {mg mb : Str → Option Value} (X : K.In s.heap) (hlim : s.heap.NoLimit) (hg : s.heap.Ns mainGlobals mg) (hb : s.heap.Ns builtinsNs mb) (hbs : mb "super" = some (.type "super")) (hroom : A.depth + 1 < recursionLimit)
    (hq : ∀ h' tk e, (∀ b o, s.heap.get? b = some o → h'.get? b = some o) → s.heap.objs.size ≤ e → (∃ oe vs, h'.get? e = some oe ∧ oe.cls = .ref C ∧ oe.dict = none ∧ oe.data = .fields vs ∧ vs[1]? = some .none) →
      R (.ok (.ret (.ref e))) { s with heap := h', toks := tk }) :
    codeAny (model prog w) A (.call (.ref C) ⟨[], []⟩) R s := by
  obtain ⟨fI, cda, cc, qual, txt, scope, p1, p0, p2, p3, p4, p5, p6, j, kV, doc, pm, ct, oc, an, od, osl, XT, hf, hcd, Sc, hl, iC⟩ := T
  obtain ⟨nm, q, N, bs, bm, sn, sub, ab, col, dd, k0, k1, k2, k3, k5, hC, hbm⟩ := XT.cls
  obtain ⟨hp, g, dr, tk, os⟩ := s
  have k : ∀ b o, hp.get? b = some o → ((hp.push (kdv_tup [])).push (excO C hp.objs.size)).get? b = some o := fun b o e => Heap.get?_push_of_some _ (Heap.get?_push_of_some _ e)
  have hget : ((hp.push (kdv_tup [])).push (excO C hp.objs.size)).get? (hp.objs.size + 1) = some (excO C hp.objs.size) := by heap_get
  refine call_own F.excBase_ValueError (fun Y => refsVE_contains Y bm hbm) (X _ _ hC) (looks_findIn X iC) (fun self => bind_fn X self XT.tI) (Nat.zero_le _) ?_
  refine init1 (s := ⟨(hp.push (kdv_tup [])).push (excO C hp.objs.size), g, dr, tk, os⟩) XT hf hcd Sc hl (X.keeps k) (hlim.keeps k) (hg.keeps k) (hb.keeps k) hbs hget ?_ fun h' t1 tk' k' hx => ?_
  · show A.depth + 1 < recursionLimit
    exact hroom
  · have old : ∀ b o, hp.get? b = some o → h'.get? b = some o := fun b o e => k' b o (Nat.ne_of_lt (Nat.lt_succ_of_lt (Heap.lt_size e))) (k b o e)
    exact ⟨rfl, hq h' tk' (hp.objs.size + 1) old (Nat.le_succ _) ⟨_, _, hx, rfl, rfl, rfl, rfl⟩⟩
end
end Pmx
end PySem
namespace Pm
open PySem PySem.Spec PyProof.Rows L2 RZ
open PySem.W (Frag)
section
variable {X : Cx} {cls : Nat → Addr} {fnm : Fnm} {T : Tab} {W : WX} {C : Addr} {a : E} {x : Expr} {es : List E} {xs : List Expr}
theorem relO_one {f : Str} {v : V} {u : Value} (r : RelV v u) (g : Str) : RelO (List.lookup g [(f, v)]) (if g = f then some u else none) := by
  by_cases h : g = f
  · subst h
    rw [if_pos rfl]
    have e : List.lookup g [(g, v)] = some v := by simp [List.lookup]
    rw [e]
    exact r
  · have e : (g == f) = false := beq_eq_false_iff_ne.mpr h
    rw [if_neg h]
    simp [List.lookup, e, RelO]
structure XCls (X : Cx) (C : Addr) : Prop where
  kp : PySem.W.keepIn X.K (.ref C) = true
  exC : PySem.W.subIn X.K (.ref C) (.type "BaseException") = some true
  tyC : PySem.W.typeIn X.K (.ref C) = some (.type "type")
theorem pmk1 {n f : Str} {ta : TA} {p pos : Pos} {k : Nat} (c : XCls X C) (T : PySem.Pmx.X1 X.prog X.K C f) (hr : Room k X.A) (hg : Gl X n) (hm : X.mg n = some (.ref C)) (hd : (n == ("__debug__" : Str)) = false) (ha : PA X [x] ta) (hs : starX x = false) :
    PMk X (.Call (.Name n p) [x] [] pos) (fun σ H Q => ta σ H fun vs H1 => ∃ v, vs = [v] ∧ ∀ d, H1 d = none → Q (.ref C) (some d) (upd H1 d (.xd [(f, v)]))) := by
  intro pins s σ H Q I h
  refine wpAny_Call_Name_kw (ld_glob I hg hm ?_ hd)
  refine PySem.W.callWith_K (h₀ := X.base) I.ok.mod.kin c.kp (thn (ha.run pos pins s σ H _ I h) fun us s1 ⟨vs, H1, I1, r1, v, ev, q1⟩ => ⟨I1.kIn, ?_⟩) (starEach_plain hs) rfl
  subst ev
  cases r1 with
  | @cons _ v' _ us' rv rn =>
    cases rn
    show wpAny _ _ (call (.ref C) [v']) _ _ _
    obtain ⟨mb, hb, hbb⟩ := I1.mod.blt
    have hlim := I1.nolimit
    have hbk := I1.bk
    have hgl := I1.mod.glob.keeps hbk
    have hbl := hb.keeps hbk
    obtain ⟨hp, g, dr, tk, os⟩ := s1
    refine wpAny_call (PySem.Pmx.made1 T I1.kIn hlim hgl hbl ((hbb "super" (by decide)).trans (by first | rfl | kernel_rfl)) (by have := hr.dp; omega) fun h' tk' e d M1 M2 M3 M4 M5 M6 => ?_)
    show MkP X pins σ Q (.ref e) ⟨h', g, dr, tk', os⟩
    obtain ⟨oe, fv, hoe, hc, hdd, hdat, h1⟩ := M3
    obtain ⟨G', g1, g2⟩ := restrict h' fun b => decide (b ≠ e)
    have gk : ∀ b, b ≠ e → G'.get? b = h'.get? b := fun b hb => g1 b (decide_eq_true hb)
    have ge : G'.get? e = none := g2 e (by simp)
    have old : ∀ b o, hp.get? b = some o → G'.get? b = some o := fun b o q => (gk b (Nat.ne_of_lt (Nat.lt_of_lt_of_le (Heap.lt_size q) M2))).trans (M1 b o q)
    have ob : ObjOk X.prog X.w (upd H1 d (.xd [(f, v)])) G' d (.xd [(f, v)]) := ⟨_, M6.at (fun o q => (gk d M5).trans q), fun g => relO_one rv g⟩
    have J : Inv X pins σ (upd H1 d (.xd [(f, v)])) ⟨G', g, dr, tk', os⟩ := I1.laid (t' := tk') old M4 ob
    refine ⟨e, oe, fv, ⟨G', g, dr, tk', os⟩, _, .ref C, some d, rfl, J, fun b o q => ?_, ge, hoe, ⟨hc, hdd⟩, hdat, h1, ?_, rfl, I1.bare, raises_own c.exC c.tyC, q1 d (I1.hok.fresh M4)⟩
    · by_cases hb : b = e
      · have q' : G'.get? b = some o := q
        rw [hb, ge] at q'
        cases q'
      · exact (gk b hb).symm.trans q
    · rw [upd_ne (Ne.symm M5)]
      exact I1.hok.fresh M2
theorem pmk0 {n : Str} {p pos : Pos} {k : Nat} (c : XCls X C) (T : PySem.Pmx.X0 X.prog X.K C) (hr : Room k X.A) (hg : Gl X n) (hm : X.mg n = some (.ref C)) (hd : (n == ("__debug__" : Str)) = false) :
    PMk X (.Call (.Name n p) [] [] pos) (fun σ H Q => Q (.ref C) none H) := by
  intro pins s1 σ H1 Q I1 q1
  refine wpAny_Call_Name_kw (ld_glob I1 hg hm ?_ hd)
  refine PySem.W.callWith_K0 I1.kIn c.kp ?_
  show wpAny _ _ (call (.ref C) []) _ _ _
  obtain ⟨mb, hb, hbb⟩ := I1.mod.blt
  have hlim := I1.nolimit
  have hbk := I1.bk
  have hgl := I1.mod.glob.keeps hbk
  have hbl := hb.keeps hbk
  obtain ⟨hp, g, dr, tk, os⟩ := s1
  refine wpAny_call (PySem.Pmx.made0 T I1.kIn hlim hgl hbl ((hbb "super" (by decide)).trans (by first | rfl | kernel_rfl)) (by have := hr.dp; omega) fun h' tk' e M1 M2 M3 => ?_)
  show MkP X pins σ Q (.ref e) ⟨h', g, dr, tk', os⟩
  obtain ⟨oe, fv, hoe, hc, hdd, hdat, h1⟩ := M3
  obtain ⟨G', g1, g2⟩ := restrict h' fun b => decide (b ≠ e)
  have gk : ∀ b, b ≠ e → G'.get? b = h'.get? b := fun b hb => g1 b (decide_eq_true hb)
  have ge : G'.get? e = none := g2 e (by simp)
  have old : ∀ b o, hp.get? b = some o → G'.get? b = some o := fun b o q => (gk b (Nat.ne_of_lt (Nat.lt_of_lt_of_le (Heap.lt_size q) M2))).trans (M1 b o q)
  have J : Inv X pins σ H1 ⟨G', g, dr, tk', os⟩ := I1.kept (t' := tk') old
  refine ⟨e, oe, fv, ⟨G', g, dr, tk', os⟩, _, .ref C, none, rfl, J, fun b o q => ?_, ge, hoe, ⟨hc, hdd⟩, hdat, h1, I1.hok.fresh M2, rfl, I1.bare, raises_own c.exC c.tyC, q1⟩
  by_cases hb : b = e
  · have q' : G'.get? b = some o := q
    rw [hb, ge] at q'
    cases q'
  · exact (gk b hb).symm.trans q
end
end Pm
namespace Pm
open PySem PySem.Spec PyProof.Rows L2 RZ
open PySem.W (Frag)
section
variable {X : Cx} {cls : Nat → Addr} {fnm : Fnm} {T : Tab} {W : WX} {C : Addr} {a : E} {x : Expr} {es : List E} {xs : List Expr}
variable {Z : Zx} {g g' g1 g2 : Gh} {s s' s1 s2 : S} {σ σ' σ1 σ2 : L2.St} {H H' H1 H2 : Hp} {d e : D} {v u : V} {Q : VK} {En : Ends} {p : Addr}
theorem seqXL {f : List D → S → R Fl} {K : List V → Hp → Prop} (R1 : Rel Z g s σ H) (h : OutS Z W σ g s H ((evL T es s).bind f) En)
    (k : ∀ x v g2 s1 H1, Rel Z g2 s1 σ H1 → IsL Z g2 x v → g.Le g2 → OutS Z W σ g2 s1 H1 (f x s1) En → K v H1) : rdL Z T W es σ H K :=
  ⟨g, s, R1, h.bindE.mono fun x g1 s1 H1 ex R' F' q v V => k x v g1 s1 H1 R' V F'.le (q.later F'.drop)⟩
theorem ks_raise1 {n : Str} {c f : Nat} {p pos pos2 : Pos} {k : Nat} (hc : X.calm = true) (hcl : XCls X (cls c)) (Tx : PySem.Pmx.X1 X.prog X.K (cls c) (fnm f)) (hf : T.exf c = [f]) (hr : Room k X.A) (tk : Takes X W) (hg : Gl X n) (hm : X.mg n = some (.ref (cls c))) (hd : (n == ("__debug__" : Str)) = false) (hs : starX x = false)
    (ha : KL X cls fnm T W [a] [x]) : KS X cls fnm T W (.raise c [a]) (.Raise (some (.Call (.Name n p) [x] [] pos)) none pos2) := by
  refine PS.weak (ps_raise hc tk (pmk1 hcl Tx hr hg hm hd ha hs)) fun En σ H ⟨g, s, R1, h⟩ => ?_
  unfold Pm.ex at h
  refine seqXL R1 h fun ds vs g2 s2 H2 R2 I2 _ h2 => ?_
  rw [hf] at h2
  by_cases hl : ds.length = ([f] : List Nat).length
  · rw [if_pos hl] at h2
    cases ds with
    | nil => cases hl
    | cons d0 r =>
      cases r with
      | cons _ _ => simp at hl
      | nil =>
        obtain ⟨v, ws, rfl, i1, i2⟩ := I2
        cases i2
        refine ⟨v, rfl, fun dd hd => ?_⟩
        obtain ⟨R3, F3⟩ := R2.allocF (o := .xd [(fnm f, v)]) hd
        have L3 := Gh.add_le (g := g2) (o := .xd [(fnm f, v)]) (R2.free hd).1
        exact h2 _ σ _ (.ref (cls c)) (some dd) R3 F3 ⟨rfl, .inr ⟨dd, [(fnm f, v)], rfl, upd_same, v, [], rfl, Is.mono L3 _ _ i1, rfl⟩⟩
  · rw [if_neg hl] at h2
    exact h2.elim
theorem ks_raise0 {n : Str} {c : Nat} {p pos pos2 : Pos} {k : Nat} (hc : X.calm = true) (hcl : XCls X (cls c)) (Tx : PySem.Pmx.X0 X.prog X.K (cls c)) (hf : T.exf c = []) (hr : Room k X.A) (tk : Takes X W) (hg : Gl X n) (hm : X.mg n = some (.ref (cls c))) (hd : (n == ("__debug__" : Str)) = false) :
    KS X cls fnm T W (.raise c []) (.Raise (some (.Call (.Name n p) [] [] pos)) none pos2) := by
  refine PS.weak (ps_raise hc tk (pmk0 hcl Tx hr hg hm hd)) fun En σ H ⟨g, s, R1, h⟩ => ?_
  unfold Pm.ex at h
  have h : OutS (zx X cls fnm) W σ g s H (if ([] : List D).length = (T.exf c).length then R.exc c ((T.exf c).zip []) s else .bad) En := h
  rw [hf] at h
  exact h g σ H (.ref (cls c)) none R1 .refl ⟨rfl, .inl ⟨rfl, rfl⟩⟩
def offE (En : Ends) (i : Nat) : Ends := { nx := fun σ' H' => En.nx (σ'.set i none) H', rt := En.rt, bk := fun σ' H' => En.bk (σ'.set i none) H', ct := fun σ' H' => En.ct (σ'.set i none) H' }
def wTry (K : Frag) (Wo : WX) (En : Ends) : List (Value × Option Nat × (Addr → Value → Option Addr → TS)) → WX
  | [] => Wo
  | (c, none, ts) :: r => fun cls d σ H => ∃ b, PySem.W.exmOne K cls c = some b ∧ (b = true → ∀ a, H a = none → ts a cls d En σ H) ∧ (b = false → wTry K Wo En r cls d σ H)
  | (c, some i, ts) :: r => fun cls d σ H => ∃ b, PySem.W.exmOne K cls c = some b ∧ (b = true → ∀ a, H a = none → ts a cls d (offE En i) (σ.set i (some (.ref a))) H) ∧ (b = false → wTry K Wo En r cls d σ H)
inductive HOk (X : Cx) : List ExceptHandler → List (Value × Option Nat × (Addr → Value → Option Addr → TS)) → Prop
  | nil : HOk X [] []
  | one {y : Str} {c : Value} {ts : Addr → Value → Option Addr → TS} {b0 : Stmt} {su : List Stmt} {np pos' : Pos} {hds : List ExceptHandler} {l : List (Value × Option Nat × (Addr → Value → Option Addr → TS))} (hc : Names X y c)
      (hsu : ∀ (a : Addr) (oe : Obj) (k : Value) (d : Option Addr) (pn : List (Addr × Obj)), Zc k d oe → (∃ vs, oe.data = .fields vs) → PSs (X.suite a ((a, oe) :: pn)) (b0 :: su) (ts a k d)) (r : HOk X hds l) :
      HOk X (.ExceptHandler (some (.Name y np)) none (b0 :: su) pos' :: hds) ((c, none, ts) :: l)
  | as_ {y n : Str} {i : Nat} {c : Value} {ts : Addr → Value → Option Addr → TS} {b0 : Stmt} {su : List Stmt} {np pos' : Pos} {hds : List ExceptHandler} {l : List (Value × Option Nat × (Addr → Value → Option Addr → TS))} (hc : Names X y c) (hi : X.N[i]? = some n) (hl : X.env.kindOf n = some .local)
      (hsu : ∀ (a : Addr) (oe : Obj) (k : Value) (d : Option Addr) (pn : List (Addr × Obj)), Zc k d oe → (∃ vs, oe.data = .fields vs) → PSs (X.suite a ((a, oe) :: pn)) (b0 :: su) (ts a k d)) (r : HOk X hds l) :
      HOk X (.ExceptHandler (some (.Name y np)) (some n) (b0 :: su) pos' :: hds) ((c, some i, ts) :: l)
theorem ps_try {body : List Stmt} {h0 : ExceptHandler} {hds : List ExceptHandler} {l : List (Value × Option Nat × (Addr → Value → Option Addr → TS))} {pos : Pos} {tb : WX → TS} {Wo : WX} (hN : X.N.Nodup) (hs : X.stack = X.env :: X.outer) (hf : X.env.frame = some X.env.locals) (tk : Takes X Wo)
    (hb : ∀ (W : WX) (pn : List (Addr × Obj)) (xe : Value → Shared → Prop), Takes (X.tr pn xe) W → PassesOwn (model X.prog X.w) X.A X.env xe → PSs (X.tr pn xe) body (tb W))
    (hh : HOk X (h0 :: hds) l) : PS X (.Try body (h0 :: hds) [] [] pos) (fun En σ H => tb (wTry X.K Wo En l) En σ H) := by
  refine ⟨fun pins s σ H En I h => ?_⟩
  have okX := I.ok
  have afr : X.A.frames = some (X.env :: X.outer) := by rw [okX.frames, hs]
  refine wpAny_Try_except (wpAny_mono ((hb (wTry X.K Wo En l) (X.pn ++ pins) (fun e t1 => wpAny (model X.prog X.w) X.A (noteFrame e X.env) (fun _ t2 => wpAny (model X.prog X.w) X.A (setFlight e none) (fun _ t3 =>
    wpAny (model X.prog X.w) X.A (handleBy e X.env (h0 :: hds)) (SP X pins En) X.xe t3) X.xe t2) X.xe t1) (fun u s' xx => ?_) PassesOwn.looking).run [] s σ H En (I.toTry _) h) (fun f t1 hsp => ?_) (fun e t1 he => he))
  · obtain ⟨a, B, sI, pins', σ', H', k, d, rfl, J', nb, up, sky, na, os, ag, w⟩ := xx
    have Ja : Inv X pins σ' H' sI := J'.ofTry okX
    have sk2 : Sky B (X.env :: X.outer) a (Zc k d) X.env.locals s'.heap := by rw [← hs]; exact sky
    show wpAny (model X.prog X.w) X.A (noteFrame (.ref a) X.env) _ _ _
    refine Sky.land Zc.steady afr hf sk2 fun hq flq upq => ?_
    have Jb : Inv X pins σ' H' { s' with heap := hq } := Ja.landed nb flq.1 (up.trans upq) os ag
    obtain ⟨oq, vq, heq, hzq, hdq⟩ := flq.there
    have nfr : a ∉ frs (X.env :: X.outer) := fun hm => by
      obtain ⟨_, o', e', hnf⟩ := flq.2.2.1.mem hm
      rw [heq] at e'
      cases e'
      exact hnf _ hdq
    have nLo : a ≠ X.env.locals := fun z => nfr (List.mem_filterMap.mpr ⟨X.env, List.mem_cons_self, by rw [hf, z]⟩)
    have nFs : a ∉ X.fs := fun hm => by
      obtain ⟨e, he, q⟩ := List.mem_filterMap.mp hm
      exact nfr (List.mem_filterMap.mpr ⟨e, List.mem_cons_of_mem _ he, q⟩)
    have Sb := Jb.suite heq hdq na nLo nFs
    have LT : PySem.W.Looks (model X.prog X.w) hq (typeOf (.ref a)) k := fun A Q E t m q => wpAny_typeOf_ref (m _ _ heq) (by rw [hzq.1]; exact q)
    have clause : ∀ {y : Str} {c : Value} {np : Pos} {Q : Value → Shared → Prop} {E : Value → Shared → Prop}, Names X y c → Q c { s' with heap := hq } → wpAny (model X.prog X.w) (X.A.mark (some (.ref a))) (eval (.Name y np) X.env) Q E { s' with heap := hq } := fun {y c np Q E} nm q => by
      obtain ⟨hg, hdbg, hm | ⟨hm, hv, hnn⟩⟩ := nm
      · exact ld_glob (X := X.suite a ((a, oq) :: (X.pn ++ pins))) Sb hg hm q hdbg
      · exact ld_blt (X := X.suite a ((a, oq) :: (X.pn ++ pins))) Sb hg hm hv q hnn hdbg
    have go : ∀ {hds' : List ExceptHandler} {l' : List (Value × Option Nat × (Addr → Value → Option Addr → TS))}, HOk X hds' l' → wTry X.K Wo En l' k d σ' H' → wpAny (model X.prog X.w) X.A (handleBy (.ref a) X.env hds') (SP X pins En) X.xe { s' with heap := hq } := by
      intro hds' l' hk
      induction hk with
      | nil =>
        intro w
        refine wpAny_handleBy_nil ?_
        obtain ⟨k1, k2, k3, oe, vs, T0, oT, ts', he, hz, hd, h1, hr⟩ := id flq
        unfold PySem.passOn
        refine wpAny_bind (wpAny_field he hd h1 ?_)
        rw [if_neg (show ¬ ((Value.ref T0 == Value.none) = true) from by simp)]
        have fin : wpAny (model X.prog X.w) X.A (setFlight (.ref a) X.env.frame) (fun _ t4 => wpAny (model X.prog X.w) X.A (throw (.ref a) : Sem Flow) (SP X pins En) X.xe t4) X.xe { s' with heap := hq } := by
          rw [hf]
          refine HandSPX.setFlight_upZ flq fun h4 hh4 up4 => wpAny_throw (tk _ _ ?_)
          exact ⟨a, B, sI, pins, σ', H', k, d, rfl, Ja, nb, (up.trans upq).trans up4, .inr (.inr (by rw [hs]; exact hh4)), na, os, ag, w⟩
        first
          | exact wpAny_bind (wpAny_pure (wpAny_bind fin))
          | exact wpAny_bind fin
      | @one y c ts b0 su np pos' hds2 l2 hc hsu r ih =>
        intro w
        obtain ⟨b, hb1, hyes, hno⟩ := w
        have LM := PySem.W.exm_one (M := model X.prog X.w) (Jb.kIn) LT hb1
        refine wpAny_handleBy_cons (codeAny_handlers_test (clause hc (LM.here ?_))) (by intro q; cases q)
        cases b with
        | true =>
          refine codeAny_handlers_suite (HandSPX.lands_againZ flq fun hr flr upr => ?_)
          have Jc : Inv X pins σ' H' { s' with heap := hr } := Ja.landed nb flr.1 ((up.trans upq).trans upr) os ag
          obtain ⟨orr, vr, her, hzr, hdr⟩ := flr.there
          refine wpAny_mono ((hsu a orr k d (X.pn ++ pins) hzr ⟨_, hdr⟩).run [] _ _ H' _ (Jc.suite her hdr na nLo nFs) (hyes rfl a na)) (fun f t6 hsp => ?_) (fun _ _ z => False.elim z)
          cases f with
          | next => obtain ⟨σ6, H6, S6, q6⟩ := hsp; exact ⟨_, _, S6.unsuite okX, q6⟩
          | brk => obtain ⟨σ6, H6, S6, q6⟩ := hsp; exact ⟨_, _, S6.unsuite okX, q6⟩
          | cont => obtain ⟨σ6, H6, S6, q6⟩ := hsp; exact ⟨_, _, S6.unsuite okX, q6⟩
          | ret u => obtain ⟨v6, σ6, H6, S6, r6, q6⟩ := hsp; exact ⟨_, _, _, S6.unsuite okX, r6, q6⟩
        | false =>
          show wpAny _ X.A (handleBy (.ref a) X.env hds2) _ _ _
          exact ih (hno rfl)
      | @as_ y n i c ts b0 su np pos' hds2 l2 hc hi hln hsu r ih =>
        intro w
        obtain ⟨b, hb1, hyes, hno⟩ := w
        have LM := PySem.W.exm_one (M := model X.prog X.w) (Jb.kIn) LT hb1
        refine wpAny_handleBy_cons (codeAny_handlers_test (clause hc (LM.here ?_))) (by intro q; cases q)
        cases b with
        | true =>
          refine codeAny_handlers_suite_as (HandSPX.lands_againZ flq fun hr flr upr => ?_)
          have Jc : Inv X pins σ' H' { s' with heap := hr } := Ja.landed nb flr.1 ((up.trans upq).trans upr) os ag
          obtain ⟨orr, vr, her, hzr, hdr⟩ := flr.there
          refine store_ok (X := X.suite a ((a, orr) :: (X.pn ++ pins))) (v := .ref a) (Jc.suite her hdr na nLo nFs) hN hi (.inl hln) rfl (fun s5 S5 => ?_) (.inr hln)
          refine wpAny_mono ((hsu a orr k d (X.pn ++ pins) hzr ⟨_, hdr⟩).run [] s5 _ H' _ S5 (hyes rfl a na)) (fun f t6 hsp => ?_) (fun _ _ z => False.elim z)
          have leave : ∀ {σ6 : L2.St} {H6 : Hp} {Q : Shared → Prop}, Inv (X.suite a ((a, orr) :: (X.pn ++ pins))) [] σ6 H6 t6 → (∀ t7, Inv X pins (σ6.set i none) H6 t7 → Q t7) → wpAny (model X.prog X.w) X.A (do bindName X.env n .none; unbindBehindTheSuite X.env n pos') (fun _ t7 => Q t7) X.xe t6 := fun {σ6 H6 Q} S6 hq => gone_ok (S6.unsuite okX) hN hi hln hq
          cases f with
          | next => obtain ⟨σ6, H6, S6, q6⟩ := hsp; exact leave S6 fun t7 J7 => ⟨_, _, J7, q6⟩
          | brk => obtain ⟨σ6, H6, S6, q6⟩ := hsp; exact leave S6 fun t7 J7 => ⟨_, _, J7, q6⟩
          | cont => obtain ⟨σ6, H6, S6, q6⟩ := hsp; exact leave S6 fun t7 J7 => ⟨_, _, J7, q6⟩
          | ret u => obtain ⟨v6, σ6, H6, S6, r6, q6⟩ := hsp; exact leave S6 fun t7 J7 => ⟨_, _, _, J7, r6, q6⟩
        | false =>
          show wpAny _ X.A (handleBy (.ref a) X.env hds2) _ _ _
          exact ih (hno rfl)
    exact go hh w
  · cases f with
    | next => obtain ⟨σ', H', J', q⟩ := hsp; exact wpAny_execs_nil ⟨σ', H', J'.ofTry okX, q⟩
    | brk => obtain ⟨σ', H', J', q⟩ := hsp; exact ⟨σ', H', J'.ofTry okX, q⟩
    | cont => obtain ⟨σ', H', J', q⟩ := hsp; exact ⟨σ', H', J'.ofTry okX, q⟩
    | ret u => obtain ⟨v, σ', H', J', r, q⟩ := hsp; exact ⟨v, σ', H', J'.ofTry okX, r, q⟩
def Zx.at (Z : Zx) (h : Option (Addr × Nat × Option Addr)) : Zx := ⟨Z.K, Z.w, Z.cls, ⟨Z.fnm.f, h⟩⟩
variable {hh0 : Option (Addr × Nat × Option Addr)}
theorem KDc.hx {q : Addr} {kvs : List (Key × V)} (h : KDc Z q kvs) : KDc (Z.at hh0) q kvs := ⟨h.ex, h.ne⟩
mutual
theorem Is.hx : ∀ (d : D) (v : V), Is Z g d v → Is (Z.at hh0) g d v
  | .non, _, e => e
  | .bl _, _, e => e
  | .int _, _, e => e
  | .str _, _, e => e
  | .tup l, _, ⟨a, vs, e1, e2, e3⟩ => ⟨a, vs, e1, e2, IsL.hx l vs e3⟩
  | .lst l, _, ⟨a, vs, e1, e2, e4, e3⟩ => ⟨a, vs, e1, e2, e4, IsL.hx l vs e3⟩
  | .dct l, _, ⟨a, vs, e1, e2, e3⟩ => ⟨a, vs, e1, e2, IsD.hx l vs e3⟩
  | .kdc l, _, ⟨a, vs, e1, e2, e3⟩ => ⟨a, vs, e1, e2.hx, IsD.hx l vs e3⟩
  | .obj _ fs, _, ⟨a, dx, ws, e1, e2, e3⟩ => ⟨a, dx, ws, e1, e2, IsF.hx fs ws e3⟩
  | .res j, _, e => e
  | .scr ns, _, e => e
theorem IsL.hx : ∀ (l : List D) (vs : List V), IsL Z g l vs → IsL (Z.at hh0) g l vs
  | [], _, e => e
  | d :: r, _, ⟨v, ws, e1, e2, e3⟩ => ⟨v, ws, e1, Is.hx d v e2, IsL.hx r ws e3⟩
theorem IsD.hx : ∀ (l : List (D × D)) (vs : List (Key × V)), IsD Z g l vs → IsD (Z.at hh0) g l vs
  | [], _, e => e
  | (c, d) :: r, _, ⟨q, v, ws, e1, e0, e2, e3⟩ => ⟨q, v, ws, e1, e0, Is.hx d v e2, IsD.hx r ws e3⟩
theorem IsF.hx : ∀ (l : List (Nat × D)) (vs : List (Str × V)), IsF Z g l vs → IsF (Z.at hh0) g l vs
  | [], _, e => e
  | (f, d) :: r, _, ⟨v, ws, e1, e2, e3⟩ => ⟨v, ws, e1, Is.hx d v e2, IsF.hx r ws e3⟩
end
theorem CellAt.hx {c : Cell} (h : CellAt Z g H p c) : CellAt (Z.at hh0) g H p c := by
  cases c with
  | lst l => obtain ⟨h1, vs, h2, h3, h4⟩ := h; exact ⟨h1, vs, h2, h3, IsL.hx _ _ h4⟩
  | dct l => obtain ⟨h1, vs, h2, h4⟩ := h; exact ⟨h1, vs, h2, IsD.hx _ _ h4⟩
  | ins c fs => obtain ⟨h1, dx, ws, h2, h3, h4, h5⟩ := h; exact ⟨h1, dx, ws, h2, h3, h4, IsF.hx _ _ h5⟩
  | hst st cs ix => exact h
  | scr ns => exact h
  | dead => trivial
theorem Rel.hx (R1 : Rel Z g s σ H) (h : ∀ o ∈ s.loc, Sl.noxc o = true) : Rel (Z.at hh0) g s σ H := by
  refine ⟨R1.sub, fun i x hi => ?_, fun q c hq => ?_, R1.apart, R1.len, R1.rdom⟩
  · obtain ⟨v, e1, e2⟩ := R1.fz i x hi
    refine ⟨v, e1, ?_⟩
    cases x with
    | fz d => exact Is.hx d v e2
    | ow c => trivial
    | xc c fs => exact absurd (h _ (List.mem_of_getElem? hi)) (by simp [Sl.noxc])
  · obtain ⟨p, e1, e2⟩ := R1.cell q c hq
    exact ⟨p, e1, e2.hx⟩
theorem VR.hx {x : Sl} {ex : List Addr} (V1 : VR Z g s σ H x v ex) : VR (Z.at hh0) g s σ H x v ex := by
  cases x with
  | fz d => exact ⟨Is.hx d v V1.1, V1.2⟩
  | ow c => obtain ⟨p, h1, h2, h3, h4, h5⟩ := V1; exact ⟨p, h1, h2.hx, h3, h4, h5⟩
  | xc c fs => exact V1
theorem cell_setN {i : Nat} {o : Option Sl} {q : Pl} {c : Cell} (ho : ∀ c, o ≠ some (.ow c)) (h : S.cell { s with loc := s.loc.set i o } q = some c) : s.cell q = some c ∧ q ≠ .loc i := by
  cases q with
  | res k => exact ⟨h, by simp⟩
  | loc j =>
    have h : (match (s.loc.set i o)[j]? with
      | some (some (.ow c)) => some c
      | _ => none) = some c := h
    by_cases e : i = j
    · subst e
      by_cases hl : i < s.loc.length
      · rw [List.getElem?_set_self hl] at h
        cases o with
        | none => cases h
        | some x => cases x with
          | ow c0 => exact absurd rfl (ho c0)
          | _ => cases h
      · rw [List.getElem?_eq_none (by simpa using hl)] at h
        cases h
    · rw [List.getElem?_set_ne e] at h
      exact ⟨h, fun z => e (by cases z; rfl)⟩
theorem Rel.setN (R1 : Rel Z g s σ H) (i : Nat) {o : Option Sl} {w : Option V} (ho : ∀ c, o ≠ some (.ow c)) (hw : ∀ x, o = some x → ∃ v, w = some v ∧ SlIs Z g x v) :
    Rel Z g { s with loc := s.loc.set i o } (σ.set i w) H ∧ ∀ a, Own g { s with loc := s.loc.set i o } (σ.set i w) H a → Own g s σ H a := by
  refine ⟨⟨R1.sub, fun j e hj => ?_, fun q c hq => ?_, fun q q' c c' p p' ne h1 h2 h3 h4 => ?_, ?_, R1.rdom⟩, fun a ⟨q, c, p, h1, h2, h3⟩ => ?_⟩
  · have hj : (s.loc.set i o)[j]? = some (some e) := hj
    by_cases k : i = j
    · subst k
      have hl : i < s.loc.length := by
        have := (List.getElem?_eq_some_iff.mp hj).1
        simpa using this
      rw [List.getElem?_set_self hl] at hj
      obtain ⟨v, e1, e2⟩ := hw e (Option.some.inj hj)
      exact ⟨v, by rw [List.getElem?_set_self (by rw [← R1.len]; exact hl), e1], e2⟩
    · rw [List.getElem?_set_ne k] at hj
      obtain ⟨w', e1, e2⟩ := R1.fz j e hj
      exact ⟨w', by rw [List.getElem?_set_ne k]; exact e1, e2⟩
  · obtain ⟨h1, h2⟩ := cell_setN ho hq
    obtain ⟨p, e1, e2⟩ := R1.cell q c h1
    exact ⟨p, by rw [padr_set h2]; exact e1, e2⟩
  · obtain ⟨k1, n1⟩ := cell_setN ho h1
    obtain ⟨k2, n2⟩ := cell_setN ho h2
    rw [padr_set n1] at h3
    rw [padr_set n2] at h4
    exact R1.apart q q' c c' p p' ne k1 k2 h3 h4
  · show (s.loc.set i _).length = (σ.set i _).length
    rw [List.length_set, List.length_set]
    exact R1.len
  · obtain ⟨k1, n1⟩ := cell_setN ho h1
    rw [padr_set n1] at h2
    exact ⟨q, c, p, k1, h2, h3⟩
theorem Fr.less {s'' : S} {σ'' : L2.St} {ex : List Addr} (F : Fr σ σ' g s H g' s' H' ex) (h : ∀ a, Own g' s'' σ'' H' a → Own g' s' σ' H' a) (hr : s''.res = s'.res) : Fr σ σ'' g s H g' s'' H' ex :=
  ⟨F.le, F.keep, F.fnew, fun a ha => F.own a (ha.imp (h a) id), F.mono, by rw [hr]; exact F.rl⟩
theorem VR.less {s'' : S} {σ'' : L2.St} {x : Sl} {ex : List Addr} (V1 : VR Z g s σ H x v ex) (h : ∀ a, Own g s'' σ'' H a → Own g s σ H a) : VR Z g s'' σ'' H x v ex := by
  cases x with
  | fz d => exact V1
  | ow c => obtain ⟨p, h1, h2, h3, h4, h5⟩ := V1; exact ⟨p, h1, h2, h3, fun a ha z => h4 a ha (h a z), h5⟩
  | xc c fs => exact V1
def Fnm.at (fnm : Fnm) (h : Option (Addr × Nat × Option Addr)) : Fnm := ⟨fnm.f, h⟩
def tsOf (X : Cx) (cls : Nat → Addr) (fnm : Fnm) (T : Tab) (b : List St) : Addr → Value → Option Addr → TS := fun a k d En σ H => ∃ c, k = .ref (cls c) ∧ rdSs (zx X cls (fnm.at (some (a, c, d)))) T W0 b En σ H
def hsOf (X : Cx) (cls : Nat → Addr) (fnm : Fnm) (T : Tab) (hs : List (Nat × Option Nat × List St)) : List (Value × Option Nat × (Addr → Value → Option Addr → TS)) := hs.map fun h => (.ref (cls h.1), h.2.1, tsOf X cls fnm T h.2.2)
theorem noxc_of (h0 : Z.fnm.hx = none) (R1 : Rel Z g s σ H) : ∀ o ∈ s.loc, Sl.noxc o = true := fun o ho => by
  obtain ⟨i, hi⟩ := List.mem_iff_getElem?.mp ho
  cases o with
  | none => rfl
  | some x => cases x with
    | fz d => rfl
    | ow c => rfl
    | xc c fs =>
      obtain ⟨v, _, a, d, _, h2, _⟩ := R1.fz i _ hi
      rw [h0] at h2
      cases h2
theorem Rel.unhx (h0 : Z.fnm.hx = none) (R1 : Rel (Z.at hh0) g s σ H) (h : s.loc.all Sl.noxc = true) : Rel Z g s σ H := by
  have := R1.hx (hh0 := none) (fun o ho => List.all_eq_true.mp h o ho)
  obtain ⟨K, w, cls, f, hx⟩ := Z
  cases h0
  exact this
theorem VR.unhx (h0 : Z.fnm.hx = none) {x : Sl} {ex : List Addr} (V1 : VR (Z.at hh0) g s σ H x v ex) : VR Z g s σ H x v ex := by
  have := V1.hx (hh0 := none)
  obtain ⟨K, w, cls, f, hx⟩ := Z
  cases h0
  exact this
theorem out_suite (h0 : Z.fnm.hx = none) {r : R Fl} (h : OutS Z W σ g s H (r.calm.bind fun f s => if s.loc.all Sl.noxc then .ok f s else .bad) En) : OutS (Z.at hh0) W0 σ g s H r En := by
  cases r with
  | bad => exact h
  | exc c fs s' => exact h.elim
  | ok x s' =>
    have h : OutS Z W σ g s H (if s'.loc.all Sl.noxc then .ok x s' else .bad) En := h
    by_cases hn : s'.loc.all Sl.noxc = true
    · rw [if_pos hn] at h
      cases x with
      | nx => exact fun g2 σ2 H2 R2 F2 => h g2 σ2 H2 (R2.unhx h0 hn) F2
      | ret x => exact fun g2 σ2 H2 ex v R2 F2 V2 => h g2 σ2 H2 ex v (R2.unhx h0 hn) F2 (V2.unhx h0)
    · rw [if_neg hn] at h
      exact h.elim
theorem out_suite_as (h0 : Z.fnm.hx = none) {r : R Fl} {i : Nat} (h : OutS Z W σ g s H (r.calm.bind fun f s => if (s.loc.set i none).all Sl.noxc then .ok f { s with loc := s.loc.set i none } else .bad) En) : OutS (Z.at hh0) W0 σ g s H r (offE En i) := by
  cases r with
  | bad => exact h
  | exc c fs s' => exact h.elim
  | ok x s' =>
    have h : OutS Z W σ g s H (if (s'.loc.set i none).all Sl.noxc then .ok x { s' with loc := s'.loc.set i none } else .bad) En := h
    by_cases hn : (s'.loc.set i none).all Sl.noxc = true
    · rw [if_pos hn] at h
      cases x with
      | nx =>
        intro g2 σ2 H2 R2 F2
        obtain ⟨R3, o3⟩ := R2.setN i (o := none) (w := none) (fun c => by simp) (fun x z => by cases z)
        exact h g2 _ H2 (R3.unhx h0 hn) (F2.less o3 rfl)
      | ret x =>
        intro g2 σ2 H2 ex v R2 F2 V2
        obtain ⟨R3, o3⟩ := R2.setN i (o := none) (w := none) (fun c => by simp) (fun x z => by cases z)
        exact h g2 _ H2 ex v (R3.unhx h0 hn) (F2.less o3 rfl) ((V2.less o3).unhx h0)
    · rw [if_neg hn] at h
      exact h.elim
theorem exH_ok (h0 : fnm.hx = none) {c : Nat} {fs : List (Nat × D)} {d : Option Addr} : ∀ {hs : List (Nat × Option Nat × List St)}, (∀ h ∈ hs, PySem.W.exmOne X.K (.ref (cls c)) (.ref (cls h.1)) = some (T.sub c h.1)) → Rel (zx X cls fnm) g s σ H → ExAt (zx X cls fnm) g H c fs (.ref (cls c)) d →
      OutS (zx X cls fnm) W σ g s H (exH T hs c fs s) En → wTry X.K W En (hsOf X cls fnm T hs) (.ref (cls c)) d σ H
  | [], _, R1, x1, h => h g σ H _ d R1 .refl x1
  | (y, n, b) :: r, hm, R1, x1, h => by
    have hy := hm _ List.mem_cons_self
    have Rx : ∀ hh, Rel ((zx X cls fnm).at hh) g s σ H := fun hh => R1.hx (noxc_of h0 R1)
    unfold exH at h
    cases n with
    | none =>
      refine ⟨T.sub c y, hy, fun e a ha => ?_, fun e => ?_⟩
      · rw [if_pos e] at h
        exact ⟨c, rfl, g, s, Rx _, out_suite h0 h⟩
      · rw [e, if_neg (by simp)] at h
        exact exH_ok h0 (fun h hh => hm h (List.mem_cons_of_mem _ hh)) R1 x1 h
    | some i =>
      refine ⟨T.sub c y, hy, fun e a ha => ?_, fun e => ?_⟩
      · rw [if_pos e] at h
        obtain ⟨R3, o3⟩ := (Rx (some (a, c, d))).setN i (o := some (.xc c fs)) (w := some (.ref a)) (fun c => by simp) (fun x z => by
          cases z
          refine ⟨_, rfl, a, d, rfl, rfl, ?_⟩
          obtain ⟨_, x2⟩ := x1
          refine x2.imp id fun ⟨dd, ws, e1, e2, e3⟩ => ⟨dd, ws, e1, e2, IsF.hx _ _ e3⟩)
        refine ⟨c, rfl, g, _, R3, ?_⟩
        exact (out_suite_as h0 h).later (Fr.refl.less o3 rfl)
      · rw [e, if_neg (by simp)] at h
        exact exH_ok h0 (fun h hh => hm h (List.mem_cons_of_mem _ hh)) R1 x1 h
theorem ks_try {body : List Stmt} {h1 : ExceptHandler} {hds : List ExceptHandler} {pos : Pos} {b : List St} {hs : List (Nat × Option Nat × List St)} (h0 : fnm.hx = none) (hN : X.N.Nodup) (hs1 : X.stack = X.env :: X.outer) (hf : X.env.frame = some X.env.locals) (tk : Takes X W)
    (hm : ∀ c, ∀ h ∈ hs, PySem.W.exmOne X.K (.ref (cls c)) (.ref (cls h.1)) = some (T.sub c h.1))
    (hb : ∀ (W : WX) (pn : List (Addr × Obj)) (xe : Value → Shared → Prop), Takes (X.tr pn xe) W → PassesOwn (model X.prog X.w) X.A X.env xe → KSs (X.tr pn xe) cls fnm T W b body)
    (hh : HOk X (h1 :: hds) (hsOf X cls fnm T hs)) : KS X cls fnm T W (.tryX b hs) (.Try body (h1 :: hds) [] [] pos) := by
  refine PS.weak (ps_try (tb := fun W => rdSs (zx X cls fnm) T W b) hN hs1 hf tk hb hh) fun En σ H ⟨g, s, R1, h⟩ => ?_
  unfold Pm.ex at h
  refine ⟨g, s, R1, ?_⟩
  revert h
  cases exL T b s with
  | bad => exact fun h => h
  | ok f s2 => exact fun h => by cases f <;> exact h
  | exc c fs s2 =>
    intro h g2 σ2 H2 v d R2 F2 x2
    obtain ⟨rfl, x3⟩ := x2
    exact exH_ok h0 (hm c) R2 ⟨rfl, x3⟩ (h.later F2)
end
end Pm
namespace PySem.Pmx
open PySem PySem.Spec PySem.Calls PyProof.Rows PySem.W
structure XIc (K : Frag) (D : Addr) : Prop where
  ga : findIn K (.ref D) "__getattribute__" = some (some (.builtin "BaseException.__getattribute__"))
  gt : findIn K (.ref D) "__getattr__" = some none
  ex : subIn K (.ref D) (.type "BaseException") = some true
  di : hasDictIn K D = true
  cl : findIn K (.ref D) "__class__" = some (some (.builtin "object.__class__"))
  gs : specialIn K (.builtin "object.__class__") "__get__" = some (some (.builtin "getset_descriptor.__get__"))
  tk : takesIn K (.builtin "object.__class__") = some true
  ob : mroIn K D (.type "object") = some true
section
variable {prog : Program} {w : World} {A : Around} {E : Value → Shared → Prop} {s : Shared} {K : Frag} {x D : Addr} {ox : Obj} {od : Option Obj}
theorem XIc.found (C : XIc K D) : findObj K D od "__class__" = some (.bind (.builtin "getset_descriptor.__get__") (.builtin "object.__class__")) := by
  obtain ⟨c, e, _⟩ := any_some C.di
  unfold findObj
  rw [e, Option.bind_some, C.cl, Option.bind_some]
  simp [C.gs, C.tk]
theorem XIc.cls {Q : Option Value → Shared → Prop} (C : XIc K D) (X : K.In s.heap) (I : InstAt s.heap x ox D od) (h : Q (some (.ref D)) { s with toks := s.toks + 1 }) : wpAny (model prog w) A (getAttr? (.ref x) "__class__") Q E s := by
  obtain ⟨hp, g, d, t, os⟩ := s
  have ty := I.type (M := model prog w)
  have l1 := looks_findIn (M := model prog w) X C.ga
  have l2 := looks_findIn (M := model prog w) X C.gt
  have l3 := looks_find (M := model prog w) X I C.found
  have sb : Looks (model prog w) hp (isInstance (.ref x) (.type "BaseException")) true := ty.andThen (looks_subIn X C.ex)
  have n1 : (Value.builtin "BaseException.__getattribute__" == Value.builtin "object.__getattribute__") = false := by decide +kernel
  have n2 : (onTheHeap (Value.ref D) && Value.builtin "BaseException.__getattribute__" == Value.builtin "object.__getattribute__") = false := by rw [n1]; rfl
  have n3 : (false && onTheHeap (Value.builtin "BaseException.__getattribute__")) = false := rfl
  unfold getAttr? getAttrBy? getAttrBy
  refine wpAny_bind (wpAny_mkText (wpAny_bind (wpAny_attempt (wpAny_holding (wpAny_bind (ty.at (wpAny_bind (l1.at ?_))))))))
  show wpAny _ _ (if (onTheHeap (Value.ref D) && Value.builtin "BaseException.__getattribute__" == Value.builtin "object.__getattribute__") = true then _ else _) _ _ _
  rw [n2, if_neg Bool.false_ne_true]; unfold getAttrByItsOwn hookBefore; refine wpAny_bind ?_
  rw [if_pos (show onTheHeap (Value.ref D) = true from rfl)]; refine l2.at ?_; refine wpAny_bind (wpAny_attempt (wpAny_holding ?_))
  unfold callGetattribute; rw [n3, if_neg Bool.false_ne_true]; unfold boundAndCalled
  rw [PySem.F.excAttr_ValueError.ga.bind (.ref x)]; refine wpAny_bind (wpAny_pure ?_)
  show wpAny _ _ (call (.builtin "BaseException.__getattribute__") [.ref x, .str "__class__" t]) _ _ _
  refine wpAny_call (codeAny_call_builtin PySem.F.excAttr_ValueError.ga.plain PySem.F.entry_bexc_ga ?_)
  refine @check_slot (model prog w) _ _ ⟨hp, g, d, t + 1, os⟩ "BaseException.__getattribute__" "BaseException" "__getattribute__" (.ref x) [.str "__class__" t] [] _ (by decide +kernel) (by decide +kernel) sb (PySem.F.args_bexc_ga (.ref x) (.str "__class__" t)) ?_
  unfold Builtin.«object.__getattribute__»; refine wpAny_bind (wpAny_of_eq (a := ((Value.ref x : Value), [Value.str "__class__" t])) (by first | rfl | (simp only [slotArgs]; rfl)) ?_)
  refine wpAny_bind (wpAny_pure (wpAny_bind (ty.at (wpAny_bind (l3.at ?_)))))
  show wpAny _ _ (holding [Value.builtin "object.__class__"] (call (.builtin "getset_descriptor.__get__") [.builtin "object.__class__", .ref x, .ref D]) >>= ret) _ _ _
  refine wpAny_bind (wpAny_holding (wpAny_call (class_get (s := ⟨hp, g, d, t + 1, os⟩) (ox := ox) (od := od) X I C.ob ?_)))
  refine wpAny_pure ?_
  show wpAny _ _ (handedOut (.ref D)) _ _ _
  rw [handedOut_of (v := .ref D) rfl]
  first
    | exact wpAny_pure (wpAny_pure h)
    | exact wpAny_pure h
    | exact wpAny_pure (wpAny_bind (wpAny_pure (wpAny_pure h)))
theorem XIc.kit (C : XIc K D) : KitX K (.ref x) (.ref D) (fun h => InstAt h x ox D od) := by
  obtain ⟨c0, hc0, _⟩ := any_some C.di
  unfold clsIn at hc0
  split at hc0
  case h_2 => cases hc0
  case h_1 _ _ _ _ ho =>
  refine { ty := fun _ _ _ I => I.type, it := fun _ _ X _ => ?_, ne := fun h tp dd its n sl X htp => ?_, ca := fun X I k => C.cls X I k }
  · intro A' Q' E' s' k q
    unfold isType loadHead
    exact wpAny_bind (wpAny_loadPart (k _ _ (X _ _ ho)) (wpAny_pure q))
  · refine Bool.eq_false_iff.mpr fun q => ?_
    obtain rfl : D = tp := Value.ref.inj (beq_iff_eq.mp q)
    have z := (X _ _ ho).symm.trans htp
    cases z
end
end PySem.Pmx
namespace Pm
open PySem PySem.Spec PyProof.Rows L2 RZ
open PySem.W (Frag)
section
variable {X : Cx} {cls : Nat → Addr} {fnm : Fnm} {T : Tab} {W : WX} {C : Addr} {a : E} {x : Expr} {es : List E} {xs : List Expr}
variable {Z : Zx} {g g' g1 g2 : Gh} {s s' s1 s2 : S} {σ σ' σ1 σ2 : L2.St} {H H' H1 H2 : Hp} {d e : D} {v u : V} {Q : VK} {p : Addr}
def rXis (K : Frag) (D a : Addr) : List V → Hp → VK → Prop := fun xs H Q => ∃ (c : V) (cv : Value) (b : Bool), xs = [.ref a, c] ∧ (∀ u, RelV c u → u = cv) ∧ PySem.W.kitOne K (.ref D) cv = some b ∧ Q (.bl b) H
theorem call_xis {a D : Addr} {oe : Obj} {d : Option Addr} {pn : List (Addr × Obj)} (C : PySem.Pmx.XIc X.K D) (hz : Zc (.ref D) d oe) (hf : ∃ vs, oe.data = .fields vs) :
    CallR (X.suite a ((a, oe) :: pn)) (.builtin "isinstance") (fun xs H Q => (d = none ∨ ∃ dd ws, d = some dd ∧ H dd = some (.xd ws)) ∧ rXis X.K D a xs H Q) := by
  intro pins s σ H xs us Q I r ⟨hd, c, cv, b, ex, hcv, e, q⟩
  subst ex
  cases r with
  | cons rx rr =>
    cases rr with
    | cons rt rr =>
      cases rr; cases rx
      cases hcv _ rt
      obtain ⟨at_, _⟩ := I.pin (a, oe) (List.mem_append.mpr (.inl List.mem_cons_self))
      obtain ⟨vs, hv⟩ := hf
      obtain ⟨od, J⟩ : ∃ od, PySem.W.InstAt s.heap a oe D od := by
        obtain ⟨oc, odd, oda, osl⟩ := oe
        obtain ⟨h1, h2⟩ := hz
        dsimp only at h1 h2 hv
        subst h1 h2 hv
        rcases hd with rfl | ⟨dd, ws, rfl, e2⟩
        · exact ⟨none, at_, rfl, rfl, trivial⟩
        · have hx : ObjOk X.prog X.w H s.heap dd (.xd ws) := I.hok dd _ e2
          obtain ⟨mA, hns, hr⟩ := hx
          obtain ⟨od, ho, hl⟩ := lookIn_ns hns
          exact ⟨some od, at_, rfl, rfl, ho⟩
      exact PySem.W.kia_one C.kit I.kIn J e (fun z => nomatch z) fun tk => ⟨.bl b, H, I.kept (t' := tk) fun _ _ z => z, rfl, q⟩
theorem ke_xfld {a : Addr} {oe : Obj} {c : Nat} {d : Option Addr} {pn : List (Addr × Obj)} {i f : Nat} {n : Str} {q pos : Pos} (hh : fnm.hx = some (a, c, d)) (inj : ∀ k, fnm k = fnm f → k = f) (TC : ∀ c, (T.exf c).contains f = true → XfC X.K (cls c) ∧ PySem.W.findIn X.K (.ref (cls c)) (fnm f) = some none)
    (hz : Zc (.ref (cls c)) d oe) (hf : ∃ vs, oe.data = .fields vs) (hN : X.N[i]? = some n) (hv : Vis X.env.scope n) (hd : (n == ("__debug__" : Str)) = false) (hc : (n == ("__classdict__" : Str)) = false) :
    KE (X.suite a ((a, oe) :: pn)) cls fnm T W (.xfld i f) (.Attribute (.Name n q) (fnm f) pos) := by
  refine ⟨fun pins sh σ H Q I hq => ?_⟩
  obtain ⟨g, s, R1, h⟩ := hq
  unfold ev at h
  cases e : s.loc[i]? with
  | none =>
    rw [e] at h
    exact h.elim
  | some o => cases o with
    | none =>
      rw [e] at h
      exact h.elim
    | some sl => cases sl with
      | fz d =>
        rw [e] at h
        exact h.elim
      | ow c =>
        rw [e] at h
        exact h.elim
      | xc c1 fs =>
        rw [e] at h
        obtain ⟨v, h1, a1, d1, rfl, h2, h3⟩ := R1.fz i _ e
        have h2 : fnm.hx = some (a1, c1, d1) := h2
        rw [hh] at h2
        cases h2
        have h : Out (zx X cls fnm) W σ g s H (if (T.exf c).contains f = true then ofO ((fs.lookup f).map .fz) s else .bad) (PV (zx X cls fnm) σ Q) := h
        by_cases hk : (T.exf c).contains f = true
        · rw [if_pos hk] at h
          obtain ⟨k1, k2⟩ := TC c hk
          cases hl : fs.lookup f with
          | none =>
            rw [hl] at h
            exact h.elim
          | some r =>
            rw [hl] at h
            rcases h3 with ⟨rfl, _⟩ | ⟨dd, ws, ed, e2, e3⟩
            · cases hl
            · obtain ⟨w', e4, e5⟩ := isF_get (Z := zx X cls fnm) inj e3 hl
              exact (pe_xf (a := a) (oe := oe) (pn := pn) k1 k2 hz hf (pe_var hN hv hd hc)).run pins sh σ H Q I ⟨_, h1, rfl, rfl, dd, ws, w', ed, R1.sub _ _ e2, e4, Out.fz R1 h e5⟩
        · rw [if_neg hk] at h
          exact h.elim
theorem ke_xis {a : Addr} {oe : Obj} {c y : Nat} {d : Option Addr} {pn : List (Addr × Obj)} {i : Nat} {n m : Str} {p q q2 pos : Pos} (hh : fnm.hx = some (a, c, d)) (hg : Gl X "isinstance") (hm : X.mg "isinstance" = none) (hT : Gl X m) (mT : X.mg m = some (.ref (cls y))) (dT : (m == ("__debug__" : Str)) = false)
    (TC : ∀ c, T.sub c c = true → PySem.Pmx.XIc X.K (cls c) ∧ PySem.W.kitOne X.K (.ref (cls c)) (.ref (cls y)) = some (T.sub c y))
    (hz : Zc (.ref (cls c)) d oe) (hf : ∃ vs, oe.data = .fields vs) (hN : X.N[i]? = some n) (hv : Vis X.env.scope n) (hd : (n == ("__debug__" : Str)) = false) (hc : (n == ("__classdict__" : Str)) = false) :
    KE (X.suite a ((a, oe) :: pn)) cls fnm T W (.xis i y) (.Call (.Name "isinstance" p) [.Name n q, .Name m q2] [] pos) := by
  have hty : PE (X.suite a ((a, oe) :: pn)) (.Name m q2) (tC (.ref (cls y))) := pe_glob (v := .ref (cls y)) hT mT rfl dT
  refine ⟨fun pins sh σ H Q I ⟨g, s, R1, h⟩ => ?_⟩
  unfold ev at h
  cases e : s.loc[i]? with
  | none =>
    rw [e] at h
    exact h.elim
  | some o => cases o with
    | none =>
      rw [e] at h
      exact h.elim
    | some sl => cases sl with
      | fz d =>
        rw [e] at h
        exact h.elim
      | ow c =>
        rw [e] at h
        exact h.elim
      | xc c1 fs =>
        rw [e] at h
        obtain ⟨v, h1, a1, d1, rfl, h2, h3⟩ := R1.fz i _ e
        have h2 : fnm.hx = some (a1, c1, d1) := h2
        rw [hh] at h2
        cases h2
        have h : Out (zx X cls fnm) W σ g s H (if T.sub c c = true then R.ok (Sl.fz (.bl (T.sub c y))) s else .bad) (PV (zx X cls fnm) σ Q) := h
        by_cases hk : T.sub c c = true
        · rw [if_pos hk] at h
          have hv' := Out.fz R1 h (v := .bl (T.sub c y)) rfl
          refine (pe_callB (call_xis (TC c hk).1 hz hf) hg hm (by decide +kernel) (pa_cons (pe_var hN hv hd hc) (pa_cons hty pa_nil (starEach_plain (by rfl))) (starEach_plain (by rfl))) (by decide) (by decide) (starEach_plain (by rfl))).run pins sh σ H Q I ⟨_, h1, ?_⟩
          exact ⟨h3.imp And.right fun ⟨dd, ws, ed, e2, _⟩ => ⟨dd, ws, ed, R1.sub _ _ e2⟩, .ref (cls y), .ref (cls y), _, rfl, fun u r => r, (TC c hk).2, hv'⟩
        · rw [if_neg hk] at h
          exact h.elim
end
end Pm
namespace PySem.Pmx
open PySem PySem.Spec PyProof.Rows L2
section
variable {prog : Program} {w : World} {A : Around} {E : Value → Shared → Prop} {s : Shared}
theorem put_mix {d : Addr} {kvs : List (Key × Value)} {k : Key} {key v : Value} {Q : Unit → Shared → Prop} (hkey : keyIs k key = true) (hm : s.heap.DictOf (mixKind prog w) d kvs)
    (hQ : ∀ h', h'.DictOf (mixKind prog w) d (stored kvs k v) → Heap.SameBut d s.heap h' → Q () { s with heap := h' }) (hsz : kvs.length ≤ sizeLine) :
    wpAny (model prog w) A (dictPut d (keyH w k) key v) Q E s := by
  obtain ⟨o, es, ep, ho, hc, hd, hk, hp, hn⟩ := hm
  have z : es.size ≤ sizeLine := by
    have e1 := hp.length
    rw [Array.length_toList] at e1
    omega
  have fi : (es.findIdx? fun e => (mixKind prog w).is k e.key) = kvs.findIdx? fun kv => decide (kv.1 = k) := by
    rw [← hp.findIdx k]; obtain ⟨l⟩ := es; simp
  unfold dictPut
  refine wpAny_bind (wpAny_dictFind_of (knd := mixKind prog w) (k := k) hkey ho hd hk ?_)
  cases hi : es.findIdx? fun e => (mixKind prog w).is k e.key with
  | some i =>
    refine wpAny_updateDict ho hd (hQ _ ⟨_, _, ep, Heap.get?_update_self _ ho (Obj.isFreed_of_dict (Obj.data_mapDict hd _)), hc.mapDict _, Obj.data_mapDict hd _, hk.modify _ _, ?_, ?_⟩ (Heap.SameBut.update ..))
    · rw [stored, if_pos (any_of_findIdx_some (fi ▸ hi))]
      have hl : (es.toList.findIdx? fun e => (mixKind prog w).is k e.key) = some i := by rw [← hi]; obtain ⟨l⟩ := es; simp
      have q := hp.modify hn hl v
      obtain ⟨l⟩ := es
      simpa using q
    · rw [stored, if_pos (any_of_findIdx_some (fi ▸ hi)), keys_map_store]
      exact hn
  | none =>
    have no : k ∉ kvs.map (·.1) := not_mem_of_findIdx_none (fi ▸ hi)
    have na : ¬ (kvs.any fun kv => decide (kv.1 = k)) = true := fun q => by
      obtain ⟨kv, h1, h2⟩ := List.any_eq_true.mp q
      exact no (List.mem_map.mpr ⟨kv, h1, of_decide_eq_true h2⟩)
    refine wpAny_updateDictKeys (hz := z) ho hd (hQ _ ⟨_, _, ep + 1, Heap.get?_update_self _ ho (Obj.isFreed_of_dict (Obj.data_mapDictKeys hd _)), hc.mapDictKeys _, Obj.data_mapDictKeys hd _, hk.push hkey _, ?_, ?_⟩ (Heap.SameBut.update ..))
    · rw [stored, if_neg na]
      have q := hp.append hkey (keyH w k) v
      obtain ⟨l⟩ := es
      simpa using q
    · rw [stored, if_neg na, List.map_append, List.nodup_append]
      refine ⟨hn, by simp, fun a ha b hb => ?_⟩
      rw [List.map_cons, List.map_nil, List.mem_singleton] at hb
      have hb : b = k := hb
      exact fun e => no (by rw [← hb, ← e]; exact ha)
theorem mm_mix {d o : Addr} {kvs more : List (Key × Value)} {Q : Unit → Shared → Prop} (hdo : d ≠ o) (hoS : (o == sysModules) = false) (hd : s.heap.DictOf (mixKind prog w) d kvs) (ho : s.heap.DictOf (mixKind prog w) o more)
    (hQ : ∀ h', h'.DictOf (mixKind prog w) d (merged kvs more) → Heap.SameBut d s.heap h' → Q () { s with heap := h' }) (hsz : kvs.length + more.length ≤ sizeLine) :
    wpAny (model prog w) A (mergeMapping d (.ref o) false) Q E s := by
  obtain ⟨od, esd, epd, hod, hcd, hdd, hkd, hpd, hnd⟩ := id hd
  obtain ⟨oo, eso, epo, hoo, hco, hdo', hko, hpo, hno⟩ := id ho
  have hlen : more.length = eso.size := by rw [← hpo.length, Array.length_toList]
  unfold mergeMapping
  refine wpAny_bind (wpAny_isInstance ho.typeIs isSubtype_dict_dict ?_)
  rw [if_pos rfl]
  refine wpAny_bind (wpAny_specialOf ho.typeIs PySem.F.slot_dict_iter.lookup (wpAny_bind (wpAny_pure ?_)))
  rw [show (some (Value.builtin "dict.__iter__") == some (Value.builtin "dict.__iter__")) = true from beq_self_eq_true _]
  dsimp only
  rw [if_neg (by rw [hoS]; exact Bool.false_ne_true)]
  have loop : wpAny (model prog w) A (do
      let l ← dictEntries o
      let epoch ← dictEpoch o
      forIn (List.range l.size) PUnit.unit fun i (_ : PUnit) => (do
          let l' ← dictEntries o
          match l'[i]? with
            | some e => do
              holding [e.key, e.val] (dictPut d e.hash e.key e.val)
              let ep' ← dictEpoch o
              if (ep' != epoch) = true then do
                  (unsupported "dict.changed-during-merge" : Sem PUnit)
                  pure (ForInStep.yield PUnit.unit)
                else pure (ForInStep.yield PUnit.unit)
            | _ => do
              (unsupported "dict.changed-during-merge" : Sem PUnit)
              pure (ForInStep.yield PUnit.unit) : Sem (ForInStep PUnit))
      pure ()) Q E s := by
    refine wpAny_bind (wpAny_dictEntries hoo hdo' (wpAny_bind (wpAny_dictEpoch hoo hdo' (wpAny_bind ?_))))
    rw [List.range_eq_range']
    refine wpAny_forIn_list _ (fun rest _ s' => ∃ h' i, s' = { s with heap := h' } ∧ rest = List.range' i (eso.size - i) ∧ i ≤ eso.size ∧ h'.DictOf (mixKind prog w) d (merged kvs (more.take i)) ∧ h'.get? o = some oo ∧ Heap.SameBut d s.heap h')
      _ ?_ ?_ _ _ ⟨s.heap, 0, rfl, by simp, Nat.zero_le _, by simpa [merged] using hd, hoo, Heap.SameBut.refl _ _⟩
    · intro x rest b s' ⟨h', i, es, hr, hi, hd', hoo', hs'⟩
      subst es
      have hlt : i < eso.size := Nat.lt_of_not_le fun h => by rw [Nat.sub_eq_zero_of_le h] at hr; cases hr
      have e0 : eso.size - i = (eso.size - (i + 1)) + 1 := by omega
      rw [e0, List.range'_succ] at hr
      injection hr with h1 hrest
      subst h1
      refine wpAny_bind (wpAny_dictEntries hoo' hdo' ?_)
      rw [Array.getElem?_eq_getElem hlt]
      obtain ⟨⟨k, v⟩, hkv⟩ : ∃ kv, more[x]? = some kv := ⟨more[x]'(by rw [hlen]; exact hlt), List.getElem?_eq_getElem _⟩
      obtain ⟨hkey, hval⟩ := hpo.get? (e := eso[x]) (by simp [hlt]) hkv
      obtain ⟨k', hkey', hhash⟩ := hko eso[x] (Array.getElem_mem hlt)
      obtain rfl : k' = k := (mixKind prog w).inj _ _ _ hkey' hkey
      show wpAny _ _ (holding [eso[x].key, eso[x].val] (dictPut d eso[x].hash eso[x].key eso[x].val) >>= _) _ _ _
      rw [hhash, hval]
      have hmx : (merged kvs (more.take x)).length ≤ sizeLine := by
        have e1 := merged_length_le kvs (more.take x)
        have e2 : (more.take x).length ≤ more.length := by rw [List.length_take]; omega
        omega
      refine wpAny_bind (wpAny_holding (put_mix hkey hd' (fun h2 hd2 hs2 => ?_) hmx))
      have hoo2 : h2.get? o = some oo := (hs2.2 o (Ne.symm hdo)).trans hoo'
      refine wpAny_bind (wpAny_dictEpoch hoo2 hdo' ?_)
      rw [if_neg (by simp)]
      exact wpAny_pure ⟨h2, x + 1, rfl, hrest, hlt, by rw [merged_take_succ kvs more x (k', v) hkv]; exact hd2, hoo2, hs'.trans hs2⟩
    · intro b s' ⟨h', i, es, hr, hi, hd', hoo', hs'⟩
      subst es
      have hin : i = eso.size := Nat.le_antisymm hi (Nat.le_of_not_lt fun h => by
        have e0 : eso.size - i = (eso.size - (i + 1)) + 1 := by omega
        rw [e0, List.range'_succ] at hr
        cases hr)
      refine wpAny_pure (hQ h' ?_ hs')
      rw [hin, ← hlen, List.take_length] at hd'
      exact hd'
  refine wpAny_bind (wpAny_dictEntries hod hdd ?_)
  split
  · refine wpAny_bind (wpAny_dictEntries hoo hdo' (wpAny_bind ?_))
    rw [← Array.forIn_toList]
    refine wpAny_forIn_list _ (fun rest _ s' => s' = s ∧ ∀ e ∈ rest, e ∈ eso) _ ?_ ?_ _ _ ⟨rfl, fun e h => by simpa using h⟩
    · intro x rest b s' ⟨es, hx⟩
      subst es
      obtain ⟨k', hkey', _⟩ := hko x (hx x List.mem_cons_self)
      rcases keyIs_shape hkey' with ⟨i, t, _, e⟩ | ⟨y, t, _, e⟩
      · rw [e]
        exact wpAny_pure ⟨rfl, fun e h => hx e (List.mem_cons_of_mem _ h)⟩
      · rw [e]
        exact wpAny_pure ⟨rfl, fun e h => hx e (List.mem_cons_of_mem _ h)⟩
    · intro b s' ⟨es, _⟩
      subst es
      exact loop
  · exact loop
theorem over_disp {ta : Sem Value} {pr : Sem Value × Sem Value} {Q : Value → Shared → Prop}
    (h : wpAny (model prog w) A ta (fun m s1 => ∃ o more, m = .ref o ∧ o ≠ s.heap.objs.size ∧ (o == sysModules) = false ∧ s1.heap.DictOf (mixKind prog w) s.heap.objs.size [] ∧ s1.heap.DictOf (mixKind prog w) o more ∧ more.length ≤ sizeLine ∧
      ∀ h', h'.DictOf (mixKind prog w) s.heap.objs.size (merged [] more) → Heap.SameBut s.heap.objs.size s1.heap h' →
        wpAny (model prog w) A (evalPairs [pr]) (fun vs s2 => ∃ kvs, Carries (mixKind prog w) vs kvs ∧ s2.heap.DictOf (mixKind prog w) h'.objs.size [] ∧ ∀ h2, h2.DictOf (mixKind prog w) h'.objs.size (merged [] kvs) → Heap.SameBut h'.objs.size s2.heap h2 →
          ∃ kv1, h2.DictOf (mixKind prog w) s.heap.objs.size kv1 ∧ s.heap.objs.size ≠ h'.objs.size ∧ (h'.objs.size == sysModules) = false ∧ kv1.length + (merged [] kvs).length ≤ sizeLine ∧ ∀ h3, h3.DictOf (mixKind prog w) s.heap.objs.size (merged kv1 (merged [] kvs)) → Heap.SameBut s.heap.objs.size h2 h3 → Q (.ref s.heap.objs.size) { s2 with heap := h3, toks := s2.toks + vs.length }) E
          { s1 with heap := h'.push { cls := .type "dict", data := .dict #[] } }) E { s with heap := s.heap.push { cls := .type "dict", data := .dict #[] } }) :
    wpAny (model prog w) A (dictDisplay [(none, ta), (some pr.1, pr.2)]) Q E s := by
  unfold dictDisplay
  dsimp only
  rw [List.forIn_cons]
  refine wpAny_bind (wpAny_bind (wpAny_bind ?_))
  rw [if_pos (show ([] : List (Sem Value × Sem Value)).isEmpty = true from rfl)]
  refine wpAny_pure (wpAny_bind (wpAny_alloc (wpAny_bind (wpAny_holding (wpAny_mono h (fun m s1 q => ?_) fun _ _ e => e)))))
  obtain ⟨o, more, em, no, hoS, hd0, ho, hz, k⟩ := q
  subst em
  have hz0 : ([] : List (Key × Value)).length + more.length ≤ sizeLine := by simpa using hz
  refine wpAny_bind (wpAny_onRaise (wpAny_tryCatch (wpAny_onRaise (wpAny_holding (mm_mix (Ne.symm no) hoS hd0 ho (fun h' hd' hs' => wpAny_pure ?_) hz0)))))
  have k := k h' hd' hs'
  show wpAny _ _ (forIn [(some pr.1, pr.2)] (some s.heap.objs.size, []) _) _ _ _
  rw [List.forIn_cons]
  refine wpAny_bind ?_
  dsimp only
  rw [if_neg (by simp)]
  refine wpAny_pure ?_
  dsimp only
  rw [List.forIn_nil]
  refine wpAny_pure (wpAny_bind ?_)
  dsimp only
  rw [if_neg (by simp), List.nil_append]
  refine wpAny_bind (wpAny_holding (wpAny_subDict (knd := mixKind prog w) (by simp) (wpAny_mono k (fun vs s2 q => ?_) fun _ _ e => e)))
  obtain ⟨kvs, c, hd2, q⟩ := q
  refine ⟨kvs, c, hd2, fun h2 hk2 hs2 => ?_⟩
  obtain ⟨kv1, e1, e2, e3, e4, q⟩ := q h2 hk2 hs2
  exact wpAny_bind (wpAny_onRaise (wpAny_holding (mm_mix e2 e3 e1 hk2 (fun h3 hd3 hs3 => wpAny_pure (wpAny_pure (q h3 hd3 hs3))) e4)))
end
end PySem.Pmx
namespace Pm
open PySem PySem.Spec PyProof.Rows L2 RZ
open PySem.W (Frag)
section
variable {X : Cx} {cls : Nat → Addr} {fnm : Fnm} {T : Tab} {W : WX} {C : Addr} {a b c : E} {x y z : Expr} {pos : Pos}
variable {Z : Zx} {g g' g1 g2 : Gh} {s s' s1 s2 : S} {σ σ' σ1 σ2 : L2.St} {H H' H1 H2 : Hp} {d e : D} {v u : V} {Q : VK} {p : Addr}
def tOver (ta tk tv : TE) : TE := fun σ H Q => ∀ d, H d = none → ta σ (upd H d (.dK [])) fun m H1 => ∃ (o : Addr) (kvs : List (Key × V)), m = .ref o ∧ o ≠ d ∧ Rd H1 o (.dK kvs) ∧ H1 d = some (.dK []) ∧ kvs.length < sizeLine ∧ ∀ d2, upd H1 d (.dK kvs) d2 = none →
  tk σ (upd (upd H1 d (.dK kvs)) d2 (.dK [])) fun q H2 => tv σ H2 fun r H3 => ∃ k r', [(q, r)] = [(kV k, r')] ∧ H3 d = some (.dK kvs) ∧ H3 d2 = some (.dK []) ∧ Q (.ref d) (upd (upd H3 d2 (.dK [(k, r')])) d (.dK (putK kvs k r')))
theorem pe_over {ta tk tv : TE} (ha : PE X x ta) (hk : PE X y tk) (hv : PE X z tv) : PE X (.Dict [none, some y] [x, z] pos) (tOver ta tk tv) := by
  refine ⟨fun pins sh σ H Q I q => ?_⟩
  have hn := I.hok.fresh (Nat.le_refl sh.heap.objs.size)
  have I1 := I.laid (a := sh.heap.objs.size) (o := .dK []) (h' := sh.heap.push { cls := .type "dict", data := .dict #[] }) (t' := sh.toks) (fun _ _ q => Heap.get?_push_of_some _ q) (Nat.le_refl _) (dk_empty sh.heap I.big)
  rw [arm_eval_Dict]
  refine wpAny_bind (wpAny_standAt ?_)
  show wpAny _ _ (dictDisplay [(none, do let m ← eval x X.env; standAt pos; pure m), (some (eval y X.env, do let r ← eval z X.env; standAt pos; pure r).1, (eval y X.env, do let r ← eval z X.env; standAt pos; pure r).2)]) _ _ _
  refine PySem.Pmx.over_disp (wpAny_bind (thn (ha.run pins _ σ _ _ I1 (q _ hn)) fun m s1 hh => wpAny_bind (wpAny_standAt (wpAny_pure ?_))))
  obtain ⟨m0, H1, I2, rm, o, kvs, em, no, ro, rd, hz, q2⟩ := hh
  subst em
  cases rm
  obtain ⟨_, hoS, vs, rel, dd⟩ := dk_rd I2.hok ro
  obtain ⟨z1, hd1, vs0, r0, dd0⟩ := dk_of I2.hok rd
  cases r0
  refine ⟨o, vs, rfl, no, hoS, dd0, dd, by rw [← rel.length]; exact Nat.le_of_lt hz, fun h' dd' hs => ?_⟩
  have nd : (vs.map (·.1)).Nodup := let ⟨_, _, _, _, _, _, _, _, hn⟩ := dd; hn
  rw [merged_nil_of_nodup vs nd] at dd'
  have he : ∃ q, h'.get? sh.heap.objs.size = some q := let ⟨q, _, _, hq, _⟩ := dd'; ⟨q, hq⟩
  have I3 := d_write (t' := s1.toks) I2 (by rw [rd]; exact True.intro) hs he (dk_new (H' := upd H1 sh.heap.objs.size (.dK kvs)) (Nat.le_of_lt hz) hd1 rel dd')
  have hn2 := I3.hok.fresh (Nat.le_refl h'.objs.size)
  have I4 := I3.laid (a := h'.objs.size) (o := .dK []) (h' := h'.push { cls := .type "dict", data := .dict #[] }) (t' := s1.toks) (fun _ _ q => Heap.get?_push_of_some _ q) (Nat.le_refl _) (dk_empty h' I3.big)
  have PP := pps_cons (pos := pos) hk hv pps_nil
  refine thn (PP.run pins _ σ _ (fun ps H3 => ∃ k r, ps = [(kV k, r)] ∧ H3 sh.heap.objs.size = some (.dK kvs) ∧ H3 h'.objs.size = some (.dK []) ∧ Q (.ref sh.heap.objs.size) (upd (upd H3 h'.objs.size (.dK [(k, r)])) sh.heap.objs.size (.dK (putK kvs k r)))) I4 ?_) fun ws s2 hh => ?_
  · exact q2 _ hn2
  · obtain ⟨ps, H3, I5, rv, k, r, ep, e1, e2, q3⟩ := hh
    subst ep
    obtain ⟨rs, ca, rk⟩ := carries_of (P := X.prog) (w := X.w) (kvs := [(k, r)]) rv
    obtain ⟨z2, hd2, vs2, r2, dd2⟩ := dk_of I5.hok e2
    cases r2
    refine ⟨rs, ca, dd2, fun h2 dh2 hs2 => ?_⟩
    have ne2 : sh.heap.objs.size ≠ h'.objs.size := Nat.ne_of_lt (by obtain ⟨q, hq⟩ := he; exact Heap.lt_size hq)
    have he2 : ∃ q, h2.get? h'.objs.size = some q := let ⟨q, _, _, hq, _⟩ := dh2; ⟨q, hq⟩
    have I6 := d_write (t' := s2.toks) I5 (by rw [e2]; exact True.intro) hs2 he2 (dk_new (H' := upd H3 h'.objs.size (.dK [(k, r)])) (show ([(k, r)] : List (Key × V)).length ≤ sizeLine by rw [sizeLine_eq, List.length_singleton]; omega) hd2 (rk.merge .nil) dh2)
    have e3 : upd H3 h'.objs.size (.dK [(k, r)]) sh.heap.objs.size = some (.dK kvs) := by rw [upd_ne ne2]; exact e1
    obtain ⟨z3, hd3, vs3, r3, dd3⟩ := dk_of I6.hok e3
    have hl : (putK kvs k r).length ≤ sizeLine := by have := length_putK kvs k r; omega
    refine ⟨vs3, dd3, ne2, hd2, ?_, fun h3 dh3 hs3 => ?_⟩
    · have l1 := (rk.merge (kvs := []) (vs := []) .nil).length
      have l2 := r3.length
      rw [← l1, ← l2]
      exact hz
    · have he3 : ∃ q, h3.get? sh.heap.objs.size = some q := let ⟨q, _, _, hq, _⟩ := dh3; ⟨q, hq⟩
      exact ⟨.ref sh.heap.objs.size, _, d_write (s := ⟨h2, s2.gens, s2.drawn, s2.toks, s2.os⟩) I6 (by rw [e3]; exact True.intro) hs3 he3 (dk_new (H' := upd (upd H3 h'.objs.size (.dK [(k, r)])) sh.heap.objs.size (.dK (putK kvs k r))) hl hd3 (KV.merge (rk.merge .nil) r3) dh3), rfl, q3⟩
theorem Rel.lone (R1 : Rel Z g s σ H) (hp : H p = none) (o : HO) : Rel Z g s σ (upd H p o) ∧ Lone g s σ (upd H p o) p o ∧ Fr σ σ g s H g s (upd H p o) [] := by
  obtain ⟨r1, ow⟩ := R1.alloc (o := o) hp
  obtain ⟨f1, f2⟩ := R1.free hp
  refine ⟨r1, ⟨upd_same, f1, fun q => f2 ((ow p).mp q)⟩, .refl g, fun a u e _ => .inl ?_, fun _ _ _ f => f, fun a h => .inr (h.elim (ow a).mp fun z => nomatch z), mono_upd, Nat.le_refl _⟩
  rw [upd_ne (ne_of_none e hp)]
  exact e
theorem ke_over (ha : KR X cls fnm T W a x) (hk : KE X cls fnm T W b y) (hv : KE X cls fnm T W c z) : KE X cls fnm T W (.dctOver a b c) (.Dict [none, some y] [x, z] pos) := by
  refine PE.weak (pe_over ha hk hv) fun σ H Q ⟨g, s, R1, h⟩ p hp => ?_
  obtain ⟨Ra, La, Fa⟩ := R1.lone hp (.dK [])
  unfold ev at h
  have h : Out (zx X cls fnm) W σ g s H ((rfR (slotOf a s) s (ev T a s)).bind fun r s => match lookR r s with
    | some (.dct kvs) => if kvs.length < lim then (ev T b s).bind fun y s => (ev T c s).bind fun z s => if y.d.isKey = true then .ok (.ow (.dct (dput kvs y.d z.d))) s else .bad else .bad
    | _ => .bad) (PV (zx X cls fnm) σ Q) := h
  refine ⟨g, s, Ra, ?_⟩
  show Out (zx X cls fnm) W σ g s (upd H p (.dK [])) (rfR (slotOf a s) s (ev T a s)) _
  cases e0 : rfR (slotOf a s) s (ev T a s) with
  | bad => rw [e0] at h; exact h.elim
  | exc k fs s1 =>
    rw [e0] at h
    exact fun g' H' cls d R' F' x' => h g' H' cls d R' (Fa.trans F') x'
  | ok r s1 =>
    rw [e0] at h
    intro g1 H1 ex R2 F2 m A
    have F2 := F2.drop
    have L2 := La.fr F2
    have F02 := Fa.trans F2
    cases e : lookR r s1 with
    | none =>
      have h : Out (zx X cls fnm) W σ g s H (match lookR r s1 with
        | some (.dct kvs) => if kvs.length < lim then (ev T b s1).bind fun y s => (ev T c s).bind fun z s => if y.d.isKey = true then .ok (.ow (.dct (dput kvs y.d z.d))) s else .bad else .bad
        | _ => .bad) (PV (zx X cls fnm) σ Q) := h
      rw [e] at h
      exact h.elim
    | some dd =>
      have h : Out (zx X cls fnm) W σ g s H (match lookR r s1 with
        | some (.dct kvs) => if kvs.length < lim then (ev T b s1).bind fun y s => (ev T c s).bind fun z s => if y.d.isKey = true then .ok (.ow (.dct (dput kvs y.d z.d))) s else .bad else .bad
        | _ => .bad) (PV (zx X cls fnm) σ Q) := h
      rw [e] at h
      have i1 := look_at R2 A e
      have i2 := look_at (R2.poke L2 (.lst [])).1 A e
      cases dd <;> first | exact h.elim | skip
      rename_i l
      have h : Out (zx X cls fnm) W σ g s H (if l.length < lim then (ev T b s1).bind fun y s => (ev T c s).bind fun z s => if y.d.isKey = true then .ok (.ow (.dct (dput l y.d z.d))) s else .bad else .bad) (PV (zx X cls fnm) σ Q) := h
      by_cases hl : l.length < lim
      · rw [if_pos hl] at h
        obtain ⟨o, kvs, rfl, f1, f2⟩ := i1
        obtain ⟨o', kvs', e', f1', _⟩ := i2
        cases e'
        have hne : o ≠ p := fun z => by
          subst z
          rcases f1' with f | ⟨_, f⟩ <;> (rw [upd_same] at f; cases f)
        have hz : kvs.length < sizeLine := by rw [isD_len f2]; exact Nat.lt_of_lt_of_le hl lim_le
        obtain ⟨R3, L3, _⟩ := R2.poke L2 (.dK kvs)
        have F03 := (F02.poke hp L2 R2 (.dK kvs)).drop
        refine ⟨o, kvs, rfl, hne, f1, L2.at_, hz, fun p2 hp2 => ?_⟩
        have hp2' : H p2 = none := F03.mono p2 hp2
        have ne2 : p2 ≠ p := fun z => by rw [z, upd_same] at hp2; cases hp2
        obtain ⟨R4, M4, F4⟩ := R3.lone hp2 (.dK [])
        have L4 := L3.fr F4
        have F04 := F03.trans F4
        refine ⟨g1, s1, R4, ?_⟩
        cases e1 : ev T b s1 with
        | bad => rw [e1] at h; exact h.elim
        | exc k fs s2 =>
          rw [e1] at h
          exact fun g' H' cls d R' F' x' => h g' H' cls d R' (F04.trans F') x'
        | ok yv s2 =>
          rw [e1] at h
          intro g2 H2 ex2 R5 F5 v V
          obtain ⟨g3, R6, F6, I6⟩ := V.freeze R5 F5
          have L6 := L4.fr F6
          have M6 := M4.fr F6
          have F06 := F04.trans F6
          refine ⟨g3, s2, R6, ?_⟩
          have h : Out (zx X cls fnm) W σ g s H ((ev T c s2).bind fun z s => if yv.d.isKey = true then .ok (.ow (.dct (dput l yv.d z.d))) s else .bad) (PV (zx X cls fnm) σ Q) := h
          cases e2 : ev T c s2 with
          | bad => rw [e2] at h; exact h.elim
          | exc k fs s3 =>
            rw [e2] at h
            exact fun g' H' cls d R' F' x' => h g' H' cls d R' (F06.trans F') x'
          | ok zv s3 =>
            rw [e2] at h
            intro g4 H3 ex3 R7 F7 w V2
            obtain ⟨g5, R8, F8, I8⟩ := V2.freeze R7 F7
            have L8 := L6.fr F8
            have M8 := M6.fr F8
            have F08 := F06.trans F8
            have h : Out (zx X cls fnm) W σ g s H (if yv.d.isKey = true then .ok (.ow (.dct (dput l yv.d zv.d))) s3 else .bad) (PV (zx X cls fnm) σ Q) := h
            by_cases hk : yv.d.isKey = true
            · rw [if_pos hk] at h
              obtain ⟨kq, hq⟩ := key_of_isKey hk
              refine ⟨kq, w, by rw [keyD_V hq I6], L8.at_, M8.at_, ?_⟩
              obtain ⟨R9, _, ow9⟩ := R8.poke M8 (.dK [(kq, w)])
              have F09 := (F08.poke hp2' M8 R8 (.dK [(kq, w)])).drop
              have L9 : Lone g5 s3 σ (upd H3 p2 (.dK [(kq, w)])) p (.dK kvs) := ⟨by rw [upd_ne (Ne.symm ne2)]; exact L8.at_, L8.nf, fun q => L8.no ((ow9 p).mp q)⟩
              obtain ⟨R10, L10, _⟩ := R9.poke L9 (.dK (putK kvs kq w))
              have F10 := F09.poke hp L9 R9 (.dK (putK kvs kq w))
              have le : g1.Le g5 := F6.le.trans F8.le
              refine h g5 _ [p] R10 F10 (.ref p) ⟨p, rfl, ⟨L10.nf, putK kvs kq w, upd_same, isD_put hq (IsD.mono le _ _ f2) I8⟩, rfl, fun a ha => ?_, rfl⟩
              have ea : a = p := by simpa using ha
              rw [ea]
              exact L10.no
            · rw [if_neg hk] at h
              exact h.elim
      · rw [if_neg hl] at h
        exact h.elim
end
end Pm
namespace Pm
open PySem PySem.Spec PyProof.Rows L2 RZ
open PySem.W (Frag)
section
variable {X : Cx} {cls : Nat → Addr} {fnm : Fnm} {T : Tab} {W : WX} {C : Addr} {a b c : E} {x y z : Expr} {pos : Pos}
variable {Z : Zx} {g g' g1 g2 : Gh} {s s' s1 s2 : S} {σ σ' σ1 σ2 : L2.St} {H H' H1 H2 : Hp} {d e : D} {v u : V} {Q : VK} {p : Addr}
theorem ke_max2 {q : Pos} (hc : X.calm = true) (hg : Gl X "max") (hm : X.mg "max" = none) (hx : starX x = false) (hy : starX y = false) (ha : KE X cls fnm T W a x) (hb : KE X cls fnm T W b y) : KE X cls fnm T W (.p2 .max a b) (.Call (.Name "max" q) [x, y] [] pos) := by
  refine PE.weak (pe_callB (call_max2 hc) hg hm (by decide +kernel) (pa_cons ha (pa_cons hb pa_nil (starEach_plain hy)) (starEach_plain hx)) (by decide) (by decide) (starEach_plain hx) (by rw [starEach_plain hy]; rfl)) fun σ H Q ⟨g, s, R1, h⟩ => ?_
  unfold ev at h
  refine seqE R1 h fun dv v g2 s2 H2 R2 I2 _ _ h2 => seqE R2 h2 fun ev u g3 s3 H3 R3 I3 le _ h3 => ?_
  have I2 := Is.mono le _ _ I2
  generalize dv.d = d at I2 h3
  generalize ev.d = e at I3 h3
  cases d <;> first | exact h3.elim | skip
  cases e <;> first | exact h3.elim | skip
  cases I2
  cases I3
  exact ⟨_, _, rfl, Out.fz R3 h3 rfl⟩
def eqK (ks ls : List (Key × V)) (k : Key) : Bool := match valV ks k, valV ls k with
  | some x, some y => eqV x y
  | _, _ => false
def rEqF : R2 := fun x y H Q => ∃ (a b : Addr) (ks ls : List (Key × V)), x = .ref a ∧ y = .ref b ∧ Rd H a (.dK ks) ∧ Rd H b (.dK ls) ∧ (∀ k v, valV ks k = some v → flatV v = true) ∧ (∀ k v, valV ls k = some v → flatV v = true) ∧ Q (.bl (ks.length == ls.length && ks.all fun q => eqK ks ls q.1)) H
theorem op_eqF (hu : X.A.units + 64 < cLine) : OpR X (compareOp .Eq) rEqF := by
  intro pins s σ H x y v u Q I rx ry ⟨a, b, ks, ls, ex, ey, ra, rb, fa, fb, q⟩
  subst ex ey
  cases rx
  cases ry
  obtain ⟨_, ma, vs, r1, d1⟩ := dk_rd I.hok ra
  obtain ⟨_, mb, ws, r2, d2⟩ := dk_rd I.hok rb
  have nd : (vs.map (·.1)).Nodup := let ⟨_, _, _, _, _, _, _, _, hn⟩ := d1; hn
  refine PySem.W.eq_dictsT (n := 0) (e := eqK ks ls) ma mb d1 d2 (fun k v y hm hv => .leaf fun A _ => ?_) (by omega) ?_
  · have hv1 := PySem.valueAt_of_mem nd hm
    have q1 := r1.val k
    have q2 := r2.val k
    rw [hv1] at q1
    rw [hv] at q2
    cases e1 : valV ks k with
    | none => rw [e1] at q1; exact q1.elim
    | some x =>
      cases e2 : valV ls k with
      | none => rw [e2] at q2; exact q2.elim
      | some y' =>
        rw [e1] at q1
        rw [e2] at q2
        have z : eqK ks ls k = eqV x y' := by unfold eqK; rw [e1, e2]
        rw [z]
        exact eqAt_V q1 q2 (fa k x e1) (fb k y' e2)
  · have e1 : vs.length = ks.length := r1.length.symm
    have e2 : ws.length = ls.length := r2.length.symm
    have e3 : (vs.all fun p => (valueAt ws p.1).isSome && eqK ks ls p.1) = ks.all fun q => eqK ks ls q.1 := by
      have hk := r1.keys
      have g1 : (vs.all fun p => (valueAt ws p.1).isSome && eqK ks ls p.1) = (vs.map (·.1)).all fun k => (valueAt ws k).isSome && eqK ks ls k := by rw [List.all_map]; rfl
      have g2 : (ks.all fun q => eqK ks ls q.1) = (ks.map (·.1)).all fun k => eqK ks ls k := by rw [List.all_map]; rfl
      rw [g1, g2, hk]
      refine congrArg (fun f => List.all (vs.map (·.1)) f) (funext fun k => ?_)
      have q2 := r2.val k
      cases e2 : valV ls k with
      | none =>
        have z : eqK ks ls k = false := by unfold eqK; rw [e2]; cases valV ks k <;> rfl
        rw [z, Bool.and_false]
      | some y' =>
        rw [e2] at q2
        cases e4 : valueAt ws k with
        | none => rw [e4] at q2; exact q2.elim
        | some _ => rfl
    rw [e1, e2, e3]
    exact ⟨.bl _, H, I, rfl, q⟩
theorem op_or {f : Value → Value → Sem Value} {r1 r2 : R2} (h1 : OpR X f r1) (h2 : OpR X f r2) : OpR X f (fun x y H Q => r1 x y H Q ∨ r2 x y H Q) := fun pins s σ H x y v u Q I rx ry q => q.elim (h1 pins s σ H x y v u Q I rx ry) (h2 pins s σ H x y v u Q I rx ry)
theorem is_flat {d : D} {v : V} (h : d.flat = true) (i : Is Z g d v) : flatV v = true := by
  cases d <;> first | cases h | skip
  all_goals cases i; rfl
theorem is_flatEq {d e : D} {v u : V} (h1 : d.flat = true) (h2 : e.flat = true) (i1 : Is Z g d v) (i2 : Is Z g e u) : eqV v u = flatEq d e := by
  cases d <;> first | cases h1 | skip
  all_goals cases e <;> first | cases h2 | skip
  all_goals cases i1; cases i2; rfl
theorem isD_flat {l : List (D × D)} {ks : List (Key × V)} (h : (l.all fun p => p.1.isKey && p.2.flat) = true) (i : IsD Z g l ks) (q : Key) (v : V) (e : valV ks q = some v) : flatV v = true := by
  induction l generalizing ks with
  | nil => cases i; cases e
  | cons p r ih =>
    obtain ⟨k, d⟩ := p
    obtain ⟨q', w, ws, e1, e2, e3, e4⟩ := i
    subst e1
    rw [List.all_cons] at h
    obtain ⟨h1, h2⟩ := Bool.and_eq_true_iff.mp h
    by_cases hq : q' = q
    · rw [valV_pos (p := (q', w)) hq] at e
      cases e
      exact is_flat (Bool.and_eq_true_iff.mp h1).2 e3
    · rw [valV_neg (p := (q', w)) hq] at e
      exact ih h2 e4 e
theorem dget_flat {l : List (D × D)} {k d : D} (h : (l.all fun p => p.1.isKey && p.2.flat) = true) (e : dget l k = some d) : d.flat = true := by
  unfold dget at e
  obtain ⟨p, e1, rfl⟩ := Option.map_eq_some_iff.mp e
  exact (Bool.and_eq_true_iff.mp (List.all_eq_true.mp h p (List.mem_of_find?_eq_some e1))).2
theorem eqF_ok {l m : List (D × D)} {ks ls : List (Key × V)} {k : Bool} (h : eqF l m = some k) (i1 : IsD Z g l ks) (i2 : IsD Z g m ls) :
    (∀ q v, valV ks q = some v → flatV v = true) ∧ (∀ q v, valV ls q = some v → flatV v = true) ∧ (ks.length == ls.length && ks.all fun q => eqK ks ls q.1) = k := by
  unfold eqF at h
  split at h
  · rename_i hf
    obtain ⟨f1, f2⟩ := Bool.and_eq_true_iff.mp hf
    refine ⟨isD_flat f1 i1, isD_flat f2 i2, ?_⟩
    have h := Option.some.inj h
    rw [← h, isD_len i1, isD_len i2]
    refine congrArg (fun b => (l.length == m.length) && b) ?_
    have go : ∀ (l' : List (D × D)) (ks' : List (Key × V)), (l'.all fun p => p.1.isKey && p.2.flat) = true → IsD Z g l' ks' → (ks'.all fun q => eqK ks ls q.1) = l'.all fun p => match dget l p.1, dget m p.1 with
        | some x, some y => flatEq x y
        | _, _ => false := fun l' => by
      induction l' with
      | nil => intro ks' _ i; cases i; rfl
      | cons p r ih =>
        intro ks' hf i
        obtain ⟨kd, d⟩ := p
        obtain ⟨q, w, ws, e1, e2, e3, e4⟩ := i
        subst e1
        rw [List.all_cons] at hf
        rw [List.all_cons, List.all_cons, ih ws (Bool.and_eq_true_iff.mp hf).2 e4]
        refine congrArg (fun b => b && _) ?_
        show eqK ks ls q = _
        unfold eqK
        rcases dget_val e2 i1 with ⟨a1, a2⟩ | ⟨x, v, a1, a2, a3⟩
        · rw [a1, a2]
        · rcases dget_val e2 i2 with ⟨b1, b2⟩ | ⟨y, u, b1, b2, b3⟩
          · rw [a1, a2, b1, b2]
          · rw [a1, a2, b1, b2]
            exact is_flatEq (dget_flat f1 a1) (dget_flat f2 b1) a3 b3
    exact go l ks f1 i1
  · cases h
theorem kc_eq (hu : X.A.units + 64 < cLine) (ha : KE X cls fnm T W a x) (hb : KE X cls fnm T W b y) : KE X cls fnm T W (.cmp .eq a b) (.Compare x [.Eq] [y] pos) ∧ KT X cls fnm T W (.cmp .eq a b) (.Compare x [.Eq] [y] pos) := by
  refine kc_both (op_or (op_eqD hu) (op_eqF hu)) (nomark _) ha hb (fun s => rfl) fun g s σ H d e v u Q R1 i1 i2 h => ?_
  obtain ⟨k, hk, h⟩ := out_some h
  have deep : eqD d.d e.d = some k → (rEqD X.K v u H Q ∨ rEqF v u H Q) := fun hk => by
    obtain ⟨p, q, h1, h2, h3, h4, h5⟩ := eqD_ok R1.sub hk i1 i2
    exact .inl ⟨p, q, h1, h2, h3, h4, by rw [h5]; exact Out.fz R1 h rfl⟩
  generalize d.d = dd at hk i1 deep
  generalize e.d = ee at hk i2 deep
  cases dd with
  | dct l =>
    cases ee with
    | dct m =>
      obtain ⟨p, ks, rfl, f1, j1⟩ := i1
      obtain ⟨q, ls, rfl, f2, j2⟩ := i2
      obtain ⟨h1, h2, h3⟩ := eqF_ok hk j1 j2
      exact .inr ⟨p, q, ks, ls, rfl, rfl, rd_mono R1.sub f1, rd_mono R1.sub f2, h1, h2, by rw [h3]; exact Out.fz R1 h rfl⟩
    | _ => exact deep hk
  | _ => exact deep hk
end
end Pm
namespace Pm
open PySem PySem.Spec PyProof.Rows L2 RZ
open PySem.W (Frag)
section
variable {X : Cx} {cls : Nat → Addr} {fnm : Fnm} {T : Tab} {W : WX} {C : Addr} {a b c : E} {x y z : Expr} {pos : Pos}
variable {Z : Zx} {g g' g1 g2 : Gh} {s s' s1 s2 : S} {σ σ' σ1 σ2 : L2.St} {H H' H1 H2 : Hp} {d e : D} {v u : V} {Q : VK} {p : Addr}
structure OEq (X : Cx) (Z : Zx) (f : FS) (c : Nat) (a : Addr) : Prop where
  cl : Cls X.K (Z.cls c)
  at_ : PySem.W.findIn X.K (.ref (Z.cls c)) "__eq__" = some (some (.ref a))
  fn : PySem.W.isFn X.K (.ref a) = true
  ok : FnAt X Z f a
  lo : ∀ d n, D.tn d = some n → PySem.W.notFirst X.K (Z.cls c) (.type n) = true
  ins : ∀ k, IsiC X.K (Z.cls k) → PySem.W.notFirst X.K (Z.cls c) (.ref (Z.cls k)) = true
def rOE (X : Cx) (Z : Zx) : R2 := fun x y H Q => ∃ (c : Nat) (f : FS) (a p dx : Addr) (ws : List (Str × V)) (tb : Value) (n : Nat), OEq X Z f c a ∧ x = .ref p ∧ H p = some (.ins (Z.cls c) dx ws) ∧ TyX X.K H y tb ∧ PySem.W.notFirst X.K (Z.cls c) tb = true ∧
  (∀ ds res, ds.length ≠ n → f ds res = .bad) ∧ spF Z f n [x, y] H Q (fun _ _ _ => False)
theorem spF_n {f : FS} {n m : Nat} {vs : List V} {E : XK} (hn : ∀ ds res, ds.length ≠ m → f ds res = .bad) (h : spF Z f n vs H Q E) : spF Z f m vs H Q E := by
  obtain ⟨hl, g, res, ds, R1, i, h⟩ := h
  have e : ds.length = m := by
    by_cases k : ds.length = m
    · exact k
    · rw [hn ds res k] at h
      exact h.elim
  exact ⟨by rw [← e]; exact isL_len i, g, res, ds, R1, i, h⟩
theorem op_oe (hu : X.A.units + 64 < cLine) : OpR X (compareOp .Eq) (rOE X (zx X cls fnm)) := by
  intro pins s σ H x y v u Q I rx ry ⟨c, f, a, p, dx, ws, tb, n, O, ex, hp, ty, nf, har, q⟩
  subst ex
  cases rx
  obtain ⟨mA, J, _⟩ := ins_get I.hok hp
  obtain ⟨od, J, _⟩ := J.look
  obtain ⟨m, hF⟩ := I.fr
  obtain ⟨P, KX, hP, _⟩ := kit_of I ry ty
  obtain ⟨n', fd, ps, k, F1, hr, hb, har'⟩ := O.ok.fn
  show wpAny (model X.prog X.w) X.A (richCompare .Eq (.ref p) u) _ _ _
  refine PySem.W.cmp_K (op := .Eq) (tb := tb) (by omega) hF I.ok.mod.kin J (KX.ty _ _ I.kIn hP) nf O.at_ O.fn ?_
  refine wpAny_mono (run_fnS (E := fun _ => fun _ _ _ => False) F1 (hr.mono (Nat.le_succ _)) hb (fun pins H s e s' _ z => by obtain ⟨_, _, _, _, _, _, _, _, _, _, _, _, z⟩ := z; exact z.elim) I (us := [.ref p, u]) (vs := [.ref p, y]) (.cons rfl (.cons ry .nil)) (spF_n har' q)) (fun r s' h => ?_) fun _ _ e => e
  obtain ⟨w, H', I', rw', q'⟩ := h
  have hne : r ≠ .notImplemented := fun e => by
    subst e
    cases w <;> first | (obtain ⟨_, z⟩ := rw'; cases z; done) | (cases rw'; done)
  cases r <;> first | exact (hne rfl).elim | exact ⟨w, H', I', rw', q'⟩
theorem get_sp {f : FS} {n : Nat} {ds : List D} {vs : List V} (har : ∀ ds res, ds.length ≠ n → f ds res = .bad) (R1 : Rel Z g s σ H) (i : IsL Z g ds vs) (h : Out Z W σ g s H (getEnd s (f ds s.res)) (PV Z σ Q)) : spF Z f n vs H Q (fun _ _ _ => False) := by
  have hl : ds.length = n := by
    by_cases k' : ds.length = n
    · exact k'
    · rw [har ds _ k'] at h
      exact h.elim
  refine ⟨by rw [isL_len i]; exact hl, g, s.res, ds, R1.rs, i, ?_⟩
  cases e : f ds s.res with
  | ok x res' =>
    rw [e] at h
    intro v g' H' ex R' F' V'
    obtain ⟨R2, F2, far⟩ := R1.back R' F'
    exact h g' H' ex R2 F2 v (V'.lift far)
  | exc c fs res' =>
    rw [e] at h
    exact h.elim
  | bad =>
    rw [e] at h
    exact h.elim
theorem kc_oe (hu : X.A.units + 64 < cLine) (hO : ∀ c k, T.oeq c = some k → ∃ a, OEq X (zx X cls fnm) (T.fn k) c a) (hI : ∀ c, (T.init c).isSome = true → IsiC X.K (cls c))
    (ha : KE X cls fnm T W a x) (hb : KE X cls fnm T W b y) : KE X cls fnm T W (.oeq a b) (.Compare x [.Eq] [y] pos) ∧ KT X cls fnm T W (.oeq a b) (.Compare x [.Eq] [y] pos) := by
  refine kc_both (op_oe (cls := cls) (fnm := fnm) hu) (nomark _) ha hb (fun s => rfl) fun g s σ H d e v u Q R1 i1 i2 h => ?_
  cases hc : clsD d.d s.res with
  | none =>
    rw [hc] at h
    exact h.elim
  | some c =>
    rw [hc] at h
    have h : Out (zx X cls fnm) W σ g s H (match T.oeq c with
      | some g => if e.d.badSide T.init then .bad else getEnd s (T.fn g [d.d, e.d] s.res)
      | none => .bad) (PV (zx X cls fnm) σ Q) := h
    cases hm2 : T.oeq c with
    | none =>
      rw [hm2] at h
      exact h.elim
    | some k =>
      rw [hm2] at h
      have h : Out (zx X cls fnm) W σ g s H (if e.d.badSide T.init then .bad else getEnd s (T.fn k [d.d, e.d] s.res)) (PV (zx X cls fnm) σ Q) := h
      by_cases hres : e.d.badSide T.init = true
      · rw [if_pos hres] at h
        exact h.elim
      rw [if_neg hres] at h
      obtain ⟨a', O⟩ := hO c k hm2
      obtain ⟨p, dx, ws, fs, rfl, e1, e2⟩ := cls_at R1 hc i1
      obtain ⟨n, fd, ps, kk, F1', hr, hb', har⟩ := id O.ok.fn
      have il : IsL (zx X cls fnm) g [d.d, e.d] [.ref p, u] := ⟨_, _, rfl, i1, _, _, rfl, i2, rfl⟩
      have q := get_sp har R1 il h
      cases hn : e.d.tn with
      | some ty => exact ⟨c, _, a', p, dx, _, _, n, O, rfl, e1, is_ty R1.sub hn i2, O.lo _ _ hn, har, q⟩
      | none =>
        generalize e.d = dd at i2 hn q h hres
        cases dd <;> first | cases hn | skip
        · rename_i c2 fs2
          have k2 : (T.init c2).isSome = true := by
            have hres : ¬ (T.init c2).isNone = true := hres
            cases e2 : T.init c2 with
            | none => rw [e2] at hres; exact absurd rfl hres
            | some _ => rfl
          exact ⟨c, _, a', p, dx, _, _, n, O, rfl, e1, is_cls R1.sub (hI c2 k2) i2, O.ins c2 (hI c2 k2), har, q⟩
        · exact absurd rfl hres
        · exact absurd rfl hres
end
end Pm
namespace Pm
open PySem PySem.Spec PyProof.Rows L2 RZ
open PySem.W (Frag)
section
variable {X : Cx} {cls : Nat → Addr} {fnm : Fnm} {T : Tab} {W : WX} {a : E} {x : Expr} {pos p : Pos}
variable {Z : Zx} {g : Gh} {s : S} {σ : L2.St} {H : Hp}
theorem sumL_ok : ∀ {l : List D} {vs : List V} {i : Int}, sumL l = some i → IsL Z g l vs → ∃ ns : List Int, vs = ns.map V.int ∧ ns.sum = i
  | [], _, i, h, e => by cases e; cases h; exact ⟨[], rfl, rfl⟩
  | d :: r, _, i, h, ⟨v, ws, e1, e2, e3⟩ => by
    subst e1
    unfold sumL at h
    cases d <;> first | cases h | skip
    cases e2
    obtain ⟨j, hj, rfl⟩ := Option.map_eq_some_iff.mp h
    obtain ⟨ns, rfl, rfl⟩ := sumL_ok hj e3
    exact ⟨_ :: ns, rfl, by rw [List.sum_cons]⟩
theorem boolsL_ok : ∀ {l : List D} {vs : List V} {bs : List Bool}, boolsL l = some bs → IsL Z g l vs → vs = bs.map V.bl
  | [], _, bs, h, e => by cases e; cases h; rfl
  | d :: r, _, bs, h, ⟨v, ws, e1, e2, e3⟩ => by
    subst e1
    unfold boolsL at h
    cases d <;> first | cases h | skip
    cases e2
    obtain ⟨j, hj, rfl⟩ := Option.map_eq_some_iff.mp h
    rw [boolsL_ok hj e3]
    rfl
theorem maxL_ok : ∀ {l : List D} {vs : List V} {m i : Int}, maxL m l = some i → IsL Z g l vs → ∃ ns : List Int, vs = ns.map V.int ∧ i ∈ m :: ns ∧ ∀ y ∈ m :: ns, y ≤ i
  | [], _, m, i, h, e => by cases e; cases h; exact ⟨[], rfl, by simp, by simp⟩
  | d :: r, _, m, i, h, ⟨v, ws, e1, e2, e3⟩ => by
    subst e1
    unfold maxL at h
    cases d <;> first | cases h | skip
    cases e2
    rename_i j
    obtain ⟨ns, rfl, h1, h2⟩ := maxL_ok h e3
    refine ⟨j :: ns, rfl, ?_, fun y hy => ?_⟩
    · rcases List.mem_cons.mp h1 with z | z
      · rw [z]; split <;> simp
      · simp [z]
    · have hm := h2 _ List.mem_cons_self
      rcases List.mem_cons.mp hy with z | z
      · rw [z]; split at hm <;> omega
      · rcases List.mem_cons.mp z with z | z
        · rw [z]; split at hm <;> omega
        · exact h2 y (List.mem_cons_of_mem _ z)
theorem ke_sum (hc : X.calm = true) (hg : Gl X "sum") (hm : X.mg "sum" = none) (hs : starX x = false) (ha : KR X cls fnm T W a x) : KE X cls fnm T W (.p1 .sum a) (.Call (.Name "sum" p) [x] [] pos) := by
  refine kb_seq (cr_sum hc) hg hm (by decide +kernel) (by decide) (by decide) hs ha (fun s => rfl) fun g s σ H d v Q R1 A1 h => ?_
  obtain ⟨dd, i1, h⟩ := look_out R1 A1 h
  cases dd <;> first | exact h.elim | skip
  obtain ⟨q, vs, rfl, f1, _, f2⟩ := i1
  obtain ⟨k, hk, h⟩ := out_some (f := fun i => Sl.fz (.int i)) h
  obtain ⟨ns, rfl, rfl⟩ := sumL_ok hk f2
  exact ⟨q, ns, rfl, f1, Out.fz R1 h rfl⟩
theorem ke_any (hc : X.calm = true) (hg : Gl X "any") (hm : X.mg "any" = none) (hs : starX x = false) (ha : KR X cls fnm T W a x) : KE X cls fnm T W (.p1 .any a) (.Call (.Name "any" p) [x] [] pos) := by
  refine kb_seq (cr_any hc) hg hm (by decide +kernel) (by decide) (by decide) hs ha (fun s => rfl) fun g s σ H d v Q R1 A1 h => ?_
  obtain ⟨dd, i1, h⟩ := look_out R1 A1 h
  cases dd <;> first | exact h.elim | skip
  obtain ⟨q, vs, rfl, f1, _, f2⟩ := i1
  obtain ⟨bs, hk, h⟩ := out_some (f := fun l : List Bool => Sl.fz (.bl (l.any id))) h
  have e := boolsL_ok hk f2
  subst e
  exact ⟨q, bs, rfl, f1, Out.fz R1 h rfl⟩
theorem ke_all (hc : X.calm = true) (hg : Gl X "all") (hm : X.mg "all" = none) (hs : starX x = false) (ha : KR X cls fnm T W a x) : KE X cls fnm T W (.p1 .all a) (.Call (.Name "all" p) [x] [] pos) := by
  refine kb_seq (cr_all hc) hg hm (by decide +kernel) (by decide) (by decide) hs ha (fun s => rfl) fun g s σ H d v Q R1 A1 h => ?_
  obtain ⟨dd, i1, h⟩ := look_out R1 A1 h
  cases dd <;> first | exact h.elim | skip
  obtain ⟨q, vs, rfl, f1, _, f2⟩ := i1
  obtain ⟨bs, hk, h⟩ := out_some (f := fun l : List Bool => Sl.fz (.bl (l.all id))) h
  have e := boolsL_ok hk f2
  subst e
  exact ⟨q, bs, rfl, f1, Out.fz R1 h rfl⟩
theorem ke_max1 (hc : X.calm = true) (hg : Gl X "max") (hm : X.mg "max" = none) (hs : starX x = false) (ha : KR X cls fnm T W a x) : KE X cls fnm T W (.p1 .max a) (.Call (.Name "max" p) [x] [] pos) := by
  refine kb_seq (cr_max hc) hg hm (by decide +kernel) (by decide) (by decide) hs ha (fun s => rfl) fun g s σ H d v Q R1 A1 h => ?_
  obtain ⟨dd, i1, h⟩ := look_out R1 A1 h
  cases dd <;> first | exact h.elim | skip
  rename_i l
  cases l with
  | nil => exact h.elim
  | cons d0 r =>
    cases d0 <;> first | exact h.elim | skip
    rename_i j
    obtain ⟨q, vs, rfl, f1, _, v0, ws, e1, e2, e3⟩ := i1
    cases e2
    subst e1
    obtain ⟨k, hk, h⟩ := out_some (f := fun i => Sl.fz (.int i)) h
    obtain ⟨ns, rfl, h1, h2⟩ := maxL_ok hk e3
    refine ⟨q, j :: ns, rfl, f1, by simp, fun m hm1 hm2 => ?_⟩
    have e : m = k := Int.le_antisymm (h2 m hm1) (hm2 k h1)
    subst e
    exact Out.fz R1 h rfl
end
end Pm
namespace PySem.Pmx
open PySem PySem.W
section
variable {prog : Program} {w : World} {A : Around} {E : Value → Shared → Prop} {s : Shared}
theorem nextOf_keys {it d : Addr} {i ep : Nat} {es : Array DictEntry} {Q : Value → Shared → Prop} (hit : s.heap.IsKeyIter it d i es.size ep) (hm : s.heap.DictRaw d es ep) (lt : i < es.size)
    (hQ : ∀ h', h'.IsKeyIter it d (i + 1) es.size ep → Heap.SameBut it s.heap h' → Q es[i].key { s with heap := h' }) : wpAny (model prog w) A (Builtin.SmallTypes.nextOf (.ref it)) Q E s := by
  obtain ⟨o, ho, hc, hd⟩ := id hit
  obtain ⟨od, hod, hcd, hdd⟩ := id hm
  have own : Builtin.Dict_items.ownsTuple "dict_keyiterator" = false := by decide
  have nn : ¬ ((Value.ref d == Value.none) = true) := Bool.false_ne_true
  unfold Builtin.SmallTypes.nextOf
  refine wpAny_bind (wpAny_callSpecial?_slot (name := Str.ofString "__next__") hit.typeIs F.slot_dict_keyiterator_next (wpAny_call_entry F.slot_dict_keyiterator_next hit.typeIs F.entry_dict_keyiterator_next ?_ (F.args_dict_keyiterator_next_1 _)))
  refine wpAny_bind (wpAny_pure (wpAny_bind (wpAny_bind ?_)))
  first | refine wpAny_bind (wpAny_typeNameOfWhole_keyiter hit.typeIs (wpAny_pure ?_)) | refine wpAny_bind (wpAny_typeNameOf_keyiter hit.typeIs (wpAny_pure ?_))
  refine wpAny_bind (wpAny_fieldsOf ho hd ?_); simp only [own, Bool.false_eq_true, if_false]
  show wpAny _ _ (if (Value.ref d == Value.none) = true then _ else _) _ _ s
  rw [if_neg nn]; refine wpAny_bind (wpAny_pure (wpAny_bind (wpAny_dictEntries hod hdd ?_)))
  rw [if_neg (by simp)]; refine wpAny_bind (wpAny_pure (wpAny_bind (wpAny_dictEpoch hod hdd ?_)))
  rw [if_neg (by simp)]; refine wpAny_pure ?_
  simp only [show ¬ ((i : Int) < 0) from by omega, if_false, Int.toNat_natCast, Array.getElem?_eq_getElem lt]
  refine wpAny_bind ?_
  first | refine wpAny_bind (wpAny_typeNameOfWhole_keyiter hit.typeIs (wpAny_pure ?_)) | refine wpAny_bind (wpAny_typeNameOf_keyiter hit.typeIs (wpAny_pure ?_))
  refine wpAny_bind (wpAny_isOneOf_keyiter hit.typeIs ?_)
  show wpAny _ _ (setField (.ref it) 1 (rawInt ((i : Int) + 1)) >>= _) _ _ s
  refine wpAny_bind (wpAny_setField ho hd (by simp) ?_)
  have hit2 : (s.heap.update it (Obj.mapFields (·.setIfInBounds 1 (rawInt ((i : Int) + 1))))).IsKeyIter it d (i + 1) es.size ep := ⟨_, Heap.get?_update_self _ ho (Obj.isFreed_of_fields (Obj.data_mapFields hd _)), (Obj.cls_mapFields ..).trans hc, by rw [Obj.data_mapFields hd]; simp [rawInt]⟩
  refine wpAny_bind (wpAny_holding (wpAny_bind (wpAny_isOneOf_keyiter (s := { s with heap := s.heap.update it (Obj.mapFields (·.setIfInBounds 1 (rawInt ((i : Int) + 1)))) }) hit2.typeIs ?_)))
  show wpAny _ _ (pure es[i].key) _ _ _
  exact wpAny_pure (wpAny_pure ⟨_, rfl, wpAny_pure (hQ _ hit2 (Heap.SameBut.update ..))⟩)
theorem nextOf_keys_end {it d : Addr} {i ep : Nat} {es : Array DictEntry} {Q : Value → Shared → Prop} (hh : A.handled = none) (hit : s.heap.IsKeyIter it d i es.size ep) (hm : s.heap.DictRaw d es ep) (ge : es.size ≤ i)
    (hE : ∀ h' e, Heap.ExtBut it s.heap h' → (∃ o, h'.get? e = some o ∧ o.cls = .type "StopIteration") → E (.ref e) { s with heap := h' }) : wpAny (model prog w) A (Builtin.SmallTypes.nextOf (.ref it)) Q E s := by
  obtain ⟨o, ho, hc, hd⟩ := id hit
  obtain ⟨od, hod, hcd, hdd⟩ := id hm
  have own : Builtin.Dict_items.ownsTuple "dict_keyiterator" = false := by decide
  have nn : ¬ ((Value.ref d == Value.none) = true) := Bool.false_ne_true
  unfold Builtin.SmallTypes.nextOf
  refine wpAny_bind (wpAny_callSpecial?_slot (name := Str.ofString "__next__") hit.typeIs F.slot_dict_keyiterator_next (wpAny_call_entry F.slot_dict_keyiterator_next hit.typeIs F.entry_dict_keyiterator_next ?_ (F.args_dict_keyiterator_next_1 _)))
  refine wpAny_bind (wpAny_pure (wpAny_bind (wpAny_bind ?_)))
  first | refine wpAny_bind (wpAny_typeNameOfWhole_keyiter hit.typeIs (wpAny_pure ?_)) | refine wpAny_bind (wpAny_typeNameOf_keyiter hit.typeIs (wpAny_pure ?_))
  refine wpAny_bind (wpAny_fieldsOf ho hd ?_); simp only [own, Bool.false_eq_true, if_false]
  show wpAny _ _ (if (Value.ref d == Value.none) = true then _ else _) _ _ s
  rw [if_neg nn]; refine wpAny_bind (wpAny_pure (wpAny_bind (wpAny_dictEntries hod hdd ?_)))
  rw [if_neg (by simp)]; refine wpAny_bind (wpAny_pure (wpAny_bind (wpAny_dictEpoch hod hdd ?_)))
  rw [if_neg (by simp)]; refine wpAny_pure ?_
  simp only [show ¬ ((i : Int) < 0) from by omega, if_false, Int.toNat_natCast, Array.getElem?_eq_none ge]
  refine wpAny_bind ?_
  first | refine wpAny_bind (wpAny_typeNameOfWhole_keyiter hit.typeIs (wpAny_pure ?_)) | refine wpAny_bind (wpAny_typeNameOf_keyiter hit.typeIs (wpAny_pure ?_))
  show wpAny _ _ (setField (.ref it) 0 .none >>= _) _ _ s
  refine wpAny_bind (wpAny_setField ho hd (by simp) ?_)
  show wpAny _ _ (newExc (.type "StopIteration") [] >>= _) _ _ _
  refine wpAny_bind ?_; simp only [newExc, newTuple]
  refine wpAny_bind (wpAny_newObj_type ?_ (by size_fits))
  refine wpAny_bind (m := firstArgMember _ _) (wpAny_of_eq (a := Value.none) (by first | rfl | (simp only [firstArgMember]; rfl)) ?_)
  refine wpAny_newObj_type ?_ (by size_fits); simp only [raiseNew]
  refine wpAny_bind (wpAny_handled ?_)
  first | rw [show A.in1.handled = none from hh] | rw [hh]
  refine wpAny_bind (wpAny_pure (wpAny_throw ?_))
  exact hE _ _ (((Heap.SameBut.update ..).extBut.push _).push _) ⟨_, Heap.get?_push_size _ rfl, rfl⟩
theorem drawsKeys (hh : A.handled = none) (it d : Addr) (ne : d ≠ it) (es : Array DictEntry) (ep : Nat) :
    Draws prog w A it [it, d] es.size (fun i v => ∃ e, es[i]? = some e ∧ v = e.key) (fun i h => h.IsKeyIter it d i es.size ep ∧ h.DictRaw d es ep) where
  live := fun _ _ st => let ⟨o, ho, _⟩ := st.1; ⟨o, ho⟩
  frame := fun _ _ _ st hk => ⟨by obtain ⟨o, e, r⟩ := st.1; exact ⟨o, hk it (by simp) o e, r⟩, st.2.at fun o e => hk d (by simp) o e⟩
  item := fun i s Q E hi st hQ => nextOf_keys st.1 st.2 hi fun h' hit hs => hQ _ h' s.toks ⟨es[i], by simp [hi], rfl⟩ ⟨hit, st.2.at fun o e => (hs.2 d ne).trans e⟩ hs
  done := fun s Q E st hE => nextOf_keys_end hh st.1 st.2 (Nat.le_refl _) hE
end
end PySem.Pmx
namespace PySem.Pmx
open PySem PySem.W
abbrev kz1 (h : Heap) (d : Addr) (n ep : Nat) : Heap := h.push { cls := .type "dict_keyiterator", data := .fields #[.ref d, .int 0 0, .int n 0, .int ep 0] }
abbrev kz2 (h : Heap) (d t : Addr) (n ep : Nat) : Heap := (kz1 h d n ep).push { cls := .type "tuple_iterator", data := .fields #[.ref t, .int 0 0] }
abbrev kz3 (h : Heap) (d t : Addr) (n ep : Nat) : Heap := (kz2 h d t n ep).push { cls := .type "tuple", data := .seq #[.ref h.objs.size, .ref (kz1 h d n ep).objs.size] }
abbrev kz4 (h : Heap) (d t : Addr) (n ep : Nat) : Heap := (kz3 h d t n ep).push { cls := .type "tuple", data := .seq #[.none, .none] }
abbrev kz5 (h : Heap) (d t : Addr) (n ep : Nat) : Heap := (kz4 h d t n ep).push { cls := .type "zip", data := .fields #[.none, .bool false, .bool false, .ref (kz2 h d t n ep).objs.size, .ref (kz3 h d t n ep).objs.size] }
theorem DictRaw.keepPush {h : Heap} {d : Addr} {es : Array DictEntry} {ep : Nat} (x : h.DictRaw d es ep) (o : Obj) : (h.push o).DictRaw d es ep := x.at fun _ e => Heap.get?_push_of_some _ e
theorem meets_zipK (d t : Addr) (es : Array DictEntry) (ep : Nat) (ys : Array Value) (hd : (d == sysModules) = false) :
    Meets (Builtin.«zip.__new__» ⟨[.type "zip", .ref d, .ref t], []⟩) (fun _ R s => s.heap.DictRaw d es ep ∧ s.heap.IsTuple t ys ∧ R (.ok (.ret (.ref (kz4 s.heap d t es.size ep).objs.size))) { s with heap := kz5 s.heap d t es.size ep }) :=
  .of_wp fun prog w A R s h => by
    obtain ⟨hp, g, dr, tk, os⟩ := s
    obtain ⟨h1, h2, h⟩ := h
    have hsub := sub_zip
    have l1 : Heap.DictRaw (Shared.heap ⟨hp, g, dr, tk, os⟩) d es ep := h1
    have l2 : Heap.IsTuple (Shared.heap ⟨kz1 hp d es.size ep, g, dr, tk, os⟩) t ys := Heap.IsTuple.push h2 _
    wp_walk using wpAny_pyIter_dict_raw hd l1, wpAny_pyIter_tuple l2
    exact ⟨_, rfl, h⟩
section
variable {prog : Program} {w : World} {A : Around} {E : Value → Shared → Prop} {s : Shared}
theorem call_zipK {d t : Addr} {es : Array DictEntry} {ep : Nat} {ys : Array Value} {Q : Value → Shared → Prop} (hd : (d == sysModules) = false) (h1 : s.heap.DictRaw d es ep) (h2 : s.heap.IsTuple t ys)
    (h : ∀ h', IsZip h' (s.heap.objs.size + 4) (s.heap.objs.size + 2) (s.heap.objs.size + 3) .none → IsPair h' (s.heap.objs.size + 2) (.ref s.heap.objs.size) (.ref (s.heap.objs.size + 1)) → IsPair h' (s.heap.objs.size + 3) .none .none →
      h'.IsKeyIter s.heap.objs.size d 0 es.size ep → h'.IsTupleIter (s.heap.objs.size + 1) t 0 → h'.objs.size = s.heap.objs.size + 5 → (∀ c o, s.heap.get? c = some o → h'.get? c = some o) → Q (.ref (s.heap.objs.size + 4)) { s with heap := h' }) :
    wpAny (model prog w) A (call (.type "zip") [.ref d, .ref t]) Q E s := by
  refine callType_new F.called_zip (by decide) (F.typeCall_zip_2 _ _) (F.newCall_zip_2 _ _) (fun obj => F.args_object_init_3 obj _ _) F.entry_zip_new (meets_zipK d t es ep ys hd) ⟨h1, h2, ?_⟩
  have up : ∀ {h : Heap} {c : Addr} {u o : Obj}, h.get? c = some u → (h.push o).get? c = some u := fun e => Heap.get?_push_of_some _ e
  have z1 : (kz1 s.heap d es.size ep).objs.size = s.heap.objs.size + 1 := Heap.size_push ..
  have z2 : (kz2 s.heap d t es.size ep).objs.size = s.heap.objs.size + 2 := by rw [Heap.size_push, z1]
  have z3 : (kz3 s.heap d t es.size ep).objs.size = s.heap.objs.size + 3 := by rw [Heap.size_push, z2]
  have z4 : (kz4 s.heap d t es.size ep).objs.size = s.heap.objs.size + 4 := by rw [Heap.size_push, z3]
  have z5 : (kz5 s.heap d t es.size ep).objs.size = s.heap.objs.size + 5 := by rw [Heap.size_push, z4]
  have g5 : (kz5 s.heap d t es.size ep).get? (kz4 s.heap d t es.size ep).objs.size = some _ := Heap.get?_push_size _ rfl
  have g4 : (kz5 s.heap d t es.size ep).get? (kz3 s.heap d t es.size ep).objs.size = some _ := up (Heap.get?_push_size _ rfl)
  have g3 : (kz5 s.heap d t es.size ep).get? (kz2 s.heap d t es.size ep).objs.size = some _ := up (up (Heap.get?_push_size _ rfl))
  have g2 : (kz5 s.heap d t es.size ep).get? (kz1 s.heap d es.size ep).objs.size = some _ := up (up (up (Heap.get?_push_size _ rfl)))
  have g1 : (kz5 s.heap d t es.size ep).get? s.heap.objs.size = some _ := up (up (up (up (Heap.get?_push_size _ rfl))))
  show _ ∧ _
  rw [z2, z3, z4] at g5
  rw [z1, z2] at g3
  rw [z3] at g4
  rw [z1] at g2
  rw [z4]
  exact ⟨⟨_, g5, rfl⟩, h _ g5 g3 g4 ⟨_, g1, rfl, rfl⟩ ⟨_, g2, rfl, rfl⟩ z5 fun c o x => up (up (up (up (up x))))⟩
end
end PySem.Pmx
namespace PySem.Pmx
open PySem PySem.Spec PySem.W PyProof.Rows L2 RZ
theorem pairedGet {α β : Type} {R : α → β → Prop} {l : List α} {m : List β} (h : Paired R l m) : ∀ {i : Nat} {a : α}, l[i]? = some a → ∃ b, m[i]? = some b ∧ R a b := by
  induction h with
  | nil => intro i a e; simp at e
  | @cons a b as bs r _ ih =>
    intro i c e
    cases i with
    | zero =>
      have e : a = c := by simpa using e
      exact ⟨b, by simp, e ▸ r⟩
    | succ i => exact ih (by simpa using e)
def itzK (K : Frag) (xs : List Str) (t : Addr) : It :=
  ⟨fun i H => ∃ (ys : List V) (x : Str) (y : V), SqT K H t ys ∧ xs[i]? = some x ∧ ys[i]? = some y,
    fun i H v H' => ∃ T x y, v = .ref T ∧ H T = none ∧ H' = upd H T (.tup [.str x, y]) ∧ xs[i]? = some x ∧ ∀ ys, SqT K H t ys → ys[i]? = some y,
    fun i H => ∃ ys : List V, SqT K H t ys ∧ i ≤ xs.length ∧ i ≤ ys.length ∧ (i = xs.length ∨ i = ys.length)⟩
theorem turn_zipK {P : Program} {w : World} {K : Frag} {elts : List Expr} {kk : Nat} {tpos : Pos} {d t z TI TO i1 i2 : Addr} {es : Array DictEntry} {ep : Nat} {xs : List Str} (S : ZipSep2 z TI TO i1 i2 [i1, d] [i2, t]) (nd : d ≠ i1) (nt : t ≠ i2) (at_ : K.lookup d = some ⟨.type "dict", none, .dict es ep, #[]⟩)
    (hx : Paired (fun (e : DictEntry) x => ∃ u, e.key = .str x u) es.toList xs) :
    Turn P w K (.Tuple elts kk tpos) (itzK K xs t) [z, TI, TO, i1, i2] z (fun i h => IsZip h z TI TO .none ∧ IsTupOf2 h TI (.ref i1) (.ref i2) ∧ (∃ x y, IsTupOf2 h TO x y) ∧ h.IsKeyIter i1 d i es.size ep ∧ h.IsTupleIter i2 t i) where
  mem := by simp
  obj := fun i h st c hc => by
    obtain ⟨hz, hTI, ⟨x, y, hTO⟩, ⟨o1, e1, _, d1⟩, ⟨o2, e2, _, d2⟩⟩ := st
    have e' : c = z ∨ c = TI ∨ c = TO ∨ c = i1 ∨ c = i2 := by simpa using hc
    rcases e' with q | q | q | q | q
    · rw [q]; exact ⟨_, hz, fun v q => nomatch q⟩
    · rw [q]; exact ⟨_, hTI, fun v q => nomatch q⟩
    · rw [q]; exact ⟨_, hTO, fun v q => nomatch q⟩
    · rw [q]; exact ⟨o1, e1, fun v q => by rw [d1] at q; cases q⟩
    · rw [q]; exact ⟨o2, e2, fun v q => by rw [d2] at q; cases q⟩
  keep := fun i h h' st k => by
    obtain ⟨hz, hTI, ⟨x, y, hTO⟩, ⟨o1, e1, r1⟩, h2⟩ := st
    exact ⟨k z (by simp) _ hz, k TI (by simp) _ hTI, ⟨x, y, k TO (by simp) _ hTO⟩, ⟨o1, k i1 (by simp) _ e1, r1⟩, h2.at fun o q => k i2 (by simp) o q⟩
  item := by
    intro X hP hw hK hc i pins s σ H E I hf st hg
    subst hP hw hK
    obtain ⟨hz, hTI, ⟨x0, y0, hTO⟩, h1, h2⟩ := st
    obtain ⟨ys, x, y, hqy, hx', hy⟩ := hg
    obtain ⟨its2, rv2, p2, _⟩ := I.tuple hqy
    have hraw : s.heap.DictRaw d es ep := ⟨_, I.kIn d _ at_, ⟨rfl, rfl, rfl⟩, rfl⟩
    have l1 : es.size = xs.length := by rw [← hx.length, Array.length_toList]
    have hi1 : i < es.size := by rw [l1]; exact (List.getElem?_eq_some_iff.mp hx').1
    have hi2 : i < its2.toArray.size := by
      have := (List.getElem?_eq_some_iff.mp hy).1
      have e := rv2.length
      simp; omega
    have hh : X.A.in1.handled = none := I.ok.hd hc
    obtain ⟨u2, hu2, ru2⟩ := rv2.get hy
    have hzl : z < s.heap.objs.size := Heap.lt_size hz
    refine wpAny_pyNext_zipD2_item S (drawsKeys hh i1 d nd es ep) (Draws.tuple hh i2 t nt its2.toArray) hz hTI hTO ⟨h1, hraw⟩ ⟨h2, p2⟩ hi1 hi2 fun v1 v2 h' tk ⟨e0, he0, ev1⟩ hv2 z' TO' s1' s2' hT hsz hk => ?_
    have ev2 : v2 = u2 := by
      have hv2 : its2.toArray[i]? = some v2 := hv2
      rw [show its2.toArray[i]? = some u2 by simpa using hu2] at hv2
      exact (Option.some.inj hv2).symm
    obtain ⟨x', e1, u1, ek⟩ := pairedGet hx (show es.toList[i]? = some e0 by simpa using he0)
    rw [hx'] at e1
    cases e1
    have r1 : RelV (V.str x) v1 := ⟨u1, ev1.trans ek⟩
    subst ev2
    refine ⟨_, rfl, wpAny_letOwnedTupleGo_zip (s := { s with heap := h', toks := tk }) z' fun h2' z2' sb => ?_⟩
    have hT2 : h2'.get? s.heap.objs.size = some { cls := .type "tuple", data := .seq #[v1, v2] } := (sb.2 _ (Nat.ne_of_gt hzl)).trans hT
    have new : ObjOk X.prog X.w (upd H s.heap.objs.size (.tup [.str x, y])) h2' s.heap.objs.size (.tup [.str x, y]) := ⟨by show 2 ≤ sizeLine; decide, [v1, v2], .cons r1 (.cons ru2 .nil), ⟨_, hT2, rfl, _, rfl⟩⟩
    have I1 : Inv X pins σ (upd H s.heap.objs.size (.tup [.str x, y])) { s with heap := h2', toks := tk } :=
      I.turnedNew (t' := tk) (ch := [z, TI, TO, i1, i2]) (fun c o hb q => (sb.2 c (fun q' => hb (by simp [q']))).trans (hk c o (fun q' => hb (by simp [q'])) (fun q' => hb (by simp [q'])) (fun q' => hb (by simp [q'])) (fun q' => hb (by simp [q'])) q)) hf (Nat.le_refl _) new
    have i1z : i1 ≠ z := fun q => S.zf1 (by rw [← q]; simp)
    have i2z : i2 ≠ z := fun q => S.zf2 (by rw [← q]; simp)
    refine ⟨.ref s.heap.objs.size, _, I1, rfl, ⟨_, x, y, rfl, I.hok.fresh (Nat.le_refl _), rfl, hx', fun l hl => by rw [I.tuple_inj hl hqy]; exact hy⟩, ⟨z2', ?_, ⟨v1, v2, ?_⟩, ?_, ?_⟩, fun c hcm => ?_⟩
    · exact (sb.2 _ S.TIz).trans (hk _ _ S.TIz S.TITO S.TIi1 S.TIi2 hTI)
    · exact (sb.2 _ S.TOz).trans TO'
    · obtain ⟨o, q, r⟩ := s1'.1
      exact ⟨o, (sb.2 _ i1z).trans q, r⟩
    · exact s2'.1.at fun o q => (sb.2 _ i2z).trans q
    · have hlt : c < s.heap.objs.size := by
        have e' : c = z ∨ c = TI ∨ c = TO ∨ c = i1 ∨ c = i2 := by simpa using hcm
        rcases e' with q | q | q | q | q
        · rw [q]; exact hzl
        · rw [q]; exact Heap.lt_size hTI
        · rw [q]; exact Heap.lt_size hTO
        · rw [q]; obtain ⟨_, e1, _⟩ := h1; exact Heap.lt_size e1
        · rw [q]; obtain ⟨_, e2, _⟩ := h2; exact Heap.lt_size e2
      rw [upd_ne (Nat.ne_of_lt hlt)]
      exact (hf c hcm).1
  done := by
    intro X hP hw hK hc i pins s σ H E I hf st hg
    subst hP hw hK
    obtain ⟨hz, hTI, ⟨x0, y0, hTO⟩, h1, h2⟩ := st
    obtain ⟨ys, hqy, hl1, hl2, hend⟩ := hg
    obtain ⟨its2, rv2, p2, _⟩ := I.tuple hqy
    have hraw : s.heap.DictRaw d es ep := ⟨_, I.kIn d _ at_, ⟨rfl, rfl, rfl⟩, rfl⟩
    have l2 := rv2.length
    have l1 : es.size = xs.length := by rw [← hx.length, Array.length_toList]
    have hh : X.A.in1.handled = none := I.ok.hd hc
    exact wpAny_pyNext_zipD2_end S (drawsKeys hh i1 d nd es ep) (Draws.tuple hh i2 t nt its2.toArray) hz hTI hTO ⟨h1, hraw⟩ ⟨h2, p2⟩ (by omega) (by simp; omega) (by simp; omega) fun h' tk hk => ⟨rfl, I.turnedL (t' := tk) (ch := [z, TI, TO, i1, i2]) (fun c o hb q =>
      hk c o (fun q' => hb (by simp [q'])) (fun q' => hb (by simp [q'])) (fun q' => hb (by simp [q'])) (fun q' => hb (by simp [q'])) q) hf⟩
  self := fun A i s Q E st h => wpAny_pyIter_zip st.1 h
end PySem.Pmx
namespace PySem.Pmx
open PySem PySem.Spec PySem.W PyProof.Rows L2 RZ
def iZipK (X : Cx) (ta : TA) : TI := fun σ H R => ta σ H fun vs H1 => ∃ (d t : Addr) (es : Array DictEntry) (ep : Nat) (xs : List Str) (ys : List V), vs = [.ref d, .ref t] ∧ KDict X.K X.w d es ep ∧ Paired (fun (e : DictEntry) x => ∃ u, e.key = .str x u) es.toList xs ∧ SqT X.K H1 t ys ∧ R (itzK X.K xs t) H1
theorem sep_new {n d t : Nat} (hd : d < n) (ht : t < n) : ZipSep2 (n + 4) (n + 2) (n + 3) n (n + 1) [n, d] [n + 1, t] := by
  have one : ∀ {a b : Nat}, a ≠ b → (a : Addr) ≠ b := fun h => h
  have two : ∀ {a b c : Nat}, a ≠ b → a ≠ c → (a : Addr) ∉ ([b, c] : List Addr) := fun {a b c} h1 h2 h => by
    rcases List.mem_cons.mp h with z | z
    · exact h1 z
    · exact h2 (List.mem_singleton.mp z)
  exact ⟨one (by omega), one (by omega), one (by omega), one (by omega), List.mem_cons_self, two (by omega) (by omega), two (by omega) (by omega), one (by omega), List.mem_cons_self, two (by omega) (by omega), two (by omega) (by omega), two (by omega) (by omega), two (by omega) (by omega)⟩
theorem pi_zipK {X : Cx} {e e2 : Expr} {ta : TA} {p pos tpos : Pos} {elts : List Expr} {kk : Nat} (hg : Gl X "zip") (hm : X.mg "zip" = none) (ha : PA X [e, e2] ta)
    (hs : starEach [e, e2] X.env = (false, eval e X.env) :: starEach [e2] X.env) (hpl : (backTo pos (starEach [e2] X.env)).any (·.1) = false) :
    PI X (.Tuple elts kk tpos) (.Call (.Name "zip" p) [e, e2] [] pos) (iZipK X ta) := by
  refine ⟨fun pins s σ H R I h => ?_⟩
  refine Call_ (ld_blt I hg hm PyProof.Rows.boot_zip (PyProof.Rows.callWith_type1 (thn (ha.run pos pins s σ H _ I h) fun us s1 ⟨vs, H1, I1, r1, q1⟩ => ?_) hs hpl))
  obtain ⟨d, t, es, ep, xs, ys, ex, D, hx, hq, q⟩ := q1
  subst ex
  cases r1 with
  | cons r rr =>
    cases rr with
    | cons r' rr =>
      cases rr; cases r; cases r'
      have fresh : ∀ c, c ∈ [s1.heap.objs.size + 4, s1.heap.objs.size + 2, s1.heap.objs.size + 3, s1.heap.objs.size, s1.heap.objs.size + 1] → FpOk X pins H1 c := fun c hc => by
        have e' : c = s1.heap.objs.size + 4 ∨ c = s1.heap.objs.size + 2 ∨ c = s1.heap.objs.size + 3 ∨ c = s1.heap.objs.size ∨ c = s1.heap.objs.size + 1 := by simpa using hc
        have hle : s1.heap.objs.size ≤ c := by
          rcases e' with z | z | z | z | z <;> rw [z] <;> first | exact Nat.le_add_right _ _ | exact Nat.le_refl _
        exact I1.fpOk hle (I1.hok.fresh hle)
      obtain ⟨its, rv, pt, _⟩ := I1.tuple hq
      have gd := I1.kIn d _ D.at_
      have ld := Heap.lt_size gd
      obtain ⟨o2, ho2, _⟩ := id pt
      have lt := Heap.lt_size ho2
      refine call_zipK D.low (es := es) (ep := ep) ⟨_, gd, ⟨rfl, rfl, rfl⟩, rfl⟩ pt fun h' hz hTI hTO h1 h2 hsz hk => wpAny_pyIter_zip hz ?_
      have I2 : L2.Inv X pins σ H1 { s1 with heap := h' } := I1.kept (t' := s1.toks) hk
      exact ⟨s1.heap.objs.size + 4, [s1.heap.objs.size + 4, s1.heap.objs.size + 2, s1.heap.objs.size + 3, s1.heap.objs.size, s1.heap.objs.size + 1], _, _, H1, rfl, I2, turn_zipK (sep_new ld lt) (Nat.ne_of_lt ld) (Nat.ne_of_lt (Nat.lt_succ_of_lt lt)) D.at_ hx, ⟨hz, hTI, ⟨_, _, hTO⟩, h1, h2⟩, fresh, q⟩
end PySem.Pmx
namespace PySem.Pmx
open PySem PySem.W
section
variable {prog : Program} {w : World} {A : Around} {E : Value → Shared → Prop} {s : Shared} {z TI TO i1 i2 : Addr} {fp1 fp2 : List Addr} {n1 n2 i : Nat} {P1 P2 : Nat → Value → Prop} {St1 St2 : Nat → Heap → Prop}
theorem held_item {T : Addr} {f : Bool} {oT : Obj} {Q : Value → Shared → Prop} (S : ZipSep2 z TI TO i1 i2 fp1 fp2) (D1 : Draws prog w A i1 fp1 n1 P1 St1) (D2 : Draws prog w A i2 fp2 n2 P2 St2)
    (hz : IsZipHeld s.heap z TI TO T f) (hT : s.heap.get? T = some oT) (hTI : IsPair s.heap TI (.ref i1) (.ref i2)) (st1 : St1 i s.heap) (st2 : St2 i s.heap) (hlt1 : i < n1) (hlt2 : i < n2)
    (hQ : ∀ x1 x2 h' tk, P1 i x1 → P2 i x2 → IsZipHeld h' z TI TO T true → St1 (i + 1) h' → St2 (i + 1) h' → IsPair h' s.heap.objs.size x1 x2 → h'.objs.size = s.heap.objs.size + 1 →
      (∀ c o, c ≠ z → c ≠ i1 → c ≠ i2 → s.heap.get? c = some o → h'.get? c = some o) → Q (.ref s.heap.objs.size) { s with heap := h', toks := tk }) :
    wpAny (model prog w) A (Builtin.«zip.__next__» ⟨[.ref z], []⟩) (fun fin s' => ∃ v, fin = .done (.ret v) ∧ Q v s') E s := by
  have sym : ∀ {a b : Addr}, a ≠ b → b ≠ a := fun h => h.symm
  show wpAny _ _ (field (.ref z) 2 >>= _) _ _ _
  refine wpAny_bind (wpAny_field hz rfl (x := .bool false) rfl ?_)
  show wpAny _ _ (field (.ref z) 3 >>= _) _ _ _
  refine wpAny_bind (wpAny_field hz rfl (x := .ref TI) rfl ?_)
  refine wpAny_bind (wpAny_seqItems hTI rfl (wpAny_bind (wpAny_tupleHeld_zip hz hT fun h₁ hz₁ hs₁ => ?_)))
  simp only [Bool.false_eq_true, if_false]
  refine wpAny_bind ?_
  rw [← Array.forIn_toList]
  simp only [List.forIn_cons, List.forIn_nil]
  refine wpAny_bind (wpAny_bind (wpAny_holding ?_))
  show wpAny _ _ (Builtin.SmallTypes.nextOf (.ref i1) >>= _) _ _ _
  refine wpAny_bind (D1.item i { s with heap := h₁ } _ _ hlt1 (D1.over st1 hs₁ S.zf1) fun x1 p1 tk1 hx1 sn1 hp1 => wpAny_pure (wpAny_pure (wpAny_bind (wpAny_bind (wpAny_holding ?_)))))
  show wpAny _ _ (Builtin.SmallTypes.nextOf (.ref i2) >>= _) _ _ _
  refine wpAny_bind (D2.item i { s with heap := p1, toks := tk1 } _ _ hlt2 (D2.over (D2.over st2 hs₁ S.zf2) hp1 S.sep1_2) fun x2 p2 tk2 hx2 sn2 hp2 => wpAny_pure (wpAny_pure (wpAny_pure ?_)))
  show wpAny _ _ (newTuple [x1, x2] >>= _) _ _ _
  have zz : p2.objs.size = s.heap.objs.size := hp2.1.trans (hp1.1.trans hs₁.1)
  have kk : ∀ c o, c ≠ z → c ≠ i1 → c ≠ i2 → s.heap.get? c = some o → p2.get? c = some o := fun c o c1 c2 c3 e => hp2.extBut _ _ c3 (hp1.extBut _ _ c2 (hs₁.extBut _ _ c1 e))
  have z₃ : IsZipHeld p2 z TI TO T true := hp2.extBut _ _ S.zi2 (hp1.extBut _ _ S.zi1 hz₁)
  refine wpAny_bind (wpAny_newTuple (wpAny_pure ⟨_, rfl, ?_⟩))
  show Q (.ref p2.objs.size) _
  have hp : IsPair (p2.push { cls := .type "tuple", data := .seq #[x1, x2] }) p2.objs.size x1 x2 := Heap.get?_push_size _ rfl
  have hz4 : (p2.push { cls := .type "tuple", data := .seq #[x1, x2] }).objs.size = p2.objs.size + 1 := Heap.size_push ..
  rw [zz] at hp hz4 ⊢
  exact hQ x1 x2 _ tk2 hx1 hx2 (Heap.get?_push_of_some _ z₃) (D1.frame _ _ _ (D1.over sn1 hp2 S.sep2_1) fun b _ o e => Heap.get?_push_of_some _ e) (D2.frame _ _ _ sn2 fun b _ o e => Heap.get?_push_of_some _ e) hp hz4 fun c o c1 c2 c3 e => Heap.get?_push_of_some _ (kk c o c1 c2 c3 e)
theorem held_end {T : Addr} {f : Bool} {oT : Obj} {Q : Fin → Shared → Prop} (S : ZipSep2 z TI TO i1 i2 fp1 fp2) (D1 : Draws prog w A i1 fp1 n1 P1 St1) (D2 : Draws prog w A i2 fp2 n2 P2 St2)
    (hz : IsZipHeld s.heap z TI TO T f) (hT : s.heap.get? T = some oT) (hTI : IsPair s.heap TI (.ref i1) (.ref i2)) (st1 : St1 i s.heap) (st2 : St2 i s.heap) (hle1 : i ≤ n1) (hle2 : i ≤ n2) (hend : i = n1 ∨ i = n2)
    (hE : ∀ h' tk e, (∀ c o, c ≠ z → c ≠ i1 → c ≠ i2 → s.heap.get? c = some o → h'.get? c = some o) → (∃ o, h'.get? e = some o ∧ o.cls = .type "StopIteration") → E (.ref e) { s with heap := h', toks := tk }) :
    wpAny (model prog w) A (Builtin.«zip.__next__» ⟨[.ref z], []⟩) Q E s := by
  show wpAny _ _ (field (.ref z) 2 >>= _) _ _ _
  refine wpAny_bind (wpAny_field hz rfl (x := .bool false) rfl ?_)
  show wpAny _ _ (field (.ref z) 3 >>= _) _ _ _
  refine wpAny_bind (wpAny_field hz rfl (x := .ref TI) rfl ?_)
  refine wpAny_bind (wpAny_seqItems hTI rfl (wpAny_bind (wpAny_tupleHeld_zip hz hT fun h₁ hz₁ hs₁ => ?_)))
  simp only [Bool.false_eq_true, if_false]
  refine wpAny_bind ?_
  rw [← Array.forIn_toList]
  simp only [List.forIn_cons, List.forIn_nil]
  refine wpAny_bind (wpAny_bind (wpAny_holding ?_))
  show wpAny _ _ (Builtin.SmallTypes.nextOf (.ref i1) >>= _) _ _ _
  by_cases hlt1 : i < n1
  · refine wpAny_bind (D1.item i { s with heap := h₁ } _ _ hlt1 (D1.over st1 hs₁ S.zf1) fun x1 p1 tk1 hx1 sn1 hp1 => wpAny_pure (wpAny_pure (wpAny_bind (wpAny_bind (wpAny_holding ?_)))))
    show wpAny _ _ (Builtin.SmallTypes.nextOf (.ref i2) >>= _) _ _ _
    have h2 : i = n2 := by omega
    refine wpAny_bind (D2.done { s with heap := p1, toks := tk1 } _ _ (by rw [← h2]; exact D2.over (D2.over st2 hs₁ S.zf2) hp1 S.sep1_2) fun h₃ e hs₃ he => ?_)
    exact hE h₃ tk1 e (fun c o c1 c2 c3 x => hs₃ _ _ c3 (hp1.extBut _ _ c2 (hs₁.extBut _ _ c1 x))) he
  · have h1 : i = n1 := by omega
    refine wpAny_bind (D1.done { s with heap := h₁ } _ _ (by rw [← h1]; exact D1.over st1 hs₁ S.zf1) fun h₂ e hs₂ he => ?_)
    exact hE h₂ s.toks e (fun c o c1 c2 _ x => hs₂ _ _ c2 (hs₁.extBut _ _ c1 x)) he
theorem next_held {T : Addr} {f : Bool} {oT : Obj} {Q : Option Value → Shared → Prop} (S : ZipSep2 z TI TO i1 i2 fp1 fp2) (D1 : Draws prog w A.in1 i1 fp1 n1 P1 St1) (D2 : Draws prog w A.in1 i2 fp2 n2 P2 St2)
    (hz : IsZipHeld s.heap z TI TO T f) (hT : s.heap.get? T = some oT) (hTI : IsPair s.heap TI (.ref i1) (.ref i2)) (st1 : St1 i s.heap) (st2 : St2 i s.heap) (hlt1 : i < n1) (hlt2 : i < n2)
    (hQ : ∀ x1 x2 h' tk, P1 i x1 → P2 i x2 → IsZipHeld h' z TI TO T true → St1 (i + 1) h' → St2 (i + 1) h' → IsPair h' s.heap.objs.size x1 x2 → h'.objs.size = s.heap.objs.size + 1 →
      (∀ c o, c ≠ z → c ≠ i1 → c ≠ i2 → s.heap.get? c = some o → h'.get? c = some o) → Q (some (.ref s.heap.objs.size)) { s with heap := h', toks := tk }) :
    wpAny (model prog w) A (pyNext (.ref z)) Q E s := by
  have ty : s.TypeIs (.ref z) "zip" := ⟨_, hz, rfl⟩
  unfold pyNext
  refine wpAny_bind (wpAny_attempt (wpAny_callSpecial?_slot (name := Str.ofString "__next__") ty F.slot_zip_next (wpAny_call_entry F.slot_zip_next ty F.entry_zip_next ?_ (F.args_zip_next_1 _))))
  exact held_item S D1 D2 hz hT hTI st1 st2 hlt1 hlt2 fun x1 x2 h' tk a b c d e g h k => wpAny_pure (hQ x1 x2 h' tk a b c d e g h k)
theorem next_held_end {T : Addr} {f : Bool} {oT : Obj} {Q : Option Value → Shared → Prop} (S : ZipSep2 z TI TO i1 i2 fp1 fp2) (D1 : Draws prog w A.in1 i1 fp1 n1 P1 St1) (D2 : Draws prog w A.in1 i2 fp2 n2 P2 St2)
    (hz : IsZipHeld s.heap z TI TO T f) (hT : s.heap.get? T = some oT) (hTI : IsPair s.heap TI (.ref i1) (.ref i2)) (st1 : St1 i s.heap) (st2 : St2 i s.heap) (hle1 : i ≤ n1) (hle2 : i ≤ n2) (hend : i = n1 ∨ i = n2)
    (hQ : ∀ h' tk, (∀ c o, c ≠ z → c ≠ i1 → c ≠ i2 → s.heap.get? c = some o → h'.get? c = some o) → Q none { s with heap := h', toks := tk }) :
    wpAny (model prog w) A (pyNext (.ref z)) Q E s := by
  have ty : s.TypeIs (.ref z) "zip" := ⟨_, hz, rfl⟩
  unfold pyNext
  refine wpAny_bind (wpAny_attempt (wpAny_callSpecial?_slot (name := Str.ofString "__next__") ty F.slot_zip_next (wpAny_call_entry F.slot_zip_next ty F.entry_zip_next ?_ (F.args_zip_next_1 _))))
  refine held_end S D1 D2 hz hT hTI st1 st2 hle1 hle2 hend fun h' tk e hk he => ?_
  obtain ⟨o, ho, hc⟩ := he
  exact wpAny_bind (wpAny_isInstance (T := "StopIteration") (b := true) ⟨o, ho, hc⟩ isSubtype_stop (wpAny_pure (hQ _ _ hk)))
end
section
variable {prog : Program} {w : World}
theorem pairsK {z TI TO i1 i2 m t : Addr} (S : ZipSep2 z TI TO i1 i2 [i1, m] [i2, t]) (nm : m ≠ i1) (nt : t ≠ i2) (es : Array DictEntry) (ep : Nat) (ys : Array Value) :
    PairArg prog w "zip" z [z, TI, TO, i1, i2, m, t] [z, TO, i1, i2] (min es.size ys.size) (fun i k v => (∃ e, es[i]? = some e ∧ k = e.key) ∧ ys[i]? = some v)
      (fun h => IsZip h z TI TO .none ∧ IsPair h TI (.ref i1) (.ref i2) ∧ (∃ a b, IsPair h TO a b) ∧ (h.IsKeyIter i1 m 0 es.size ep ∧ h.DictRaw m es ep) ∧ (h.IsTupleIter i2 t 0 ∧ h.IsTuple t ys)) where
  type := fun s ok => ⟨_, ok.1, rfl⟩
  notDict := by decide
  keep := fun h h' ok hk => by
    obtain ⟨hz, hTI, ⟨a, b, hTO⟩, ⟨⟨o1, h1, r1⟩, h3⟩, h2, h4⟩ := ok
    exact ⟨hk _ _ hz, hk _ _ hTI, ⟨a, b, hk _ _ hTO⟩, ⟨⟨o1, hk _ _ h1, r1⟩, h3.at fun o e => hk _ o e⟩, h2.at fun o e => hk _ o e, h4.at fun o e => hk _ o e⟩
  there := fun h ok b hb => by
    obtain ⟨hz, hTI, ⟨a, c, hTO⟩, ⟨⟨o1, h1, _⟩, o3, h3, _⟩, ⟨o2, h2, _⟩, o4, h4, _⟩ := ok
    have hb : b = z ∨ b = TI ∨ b = TO ∨ b = i1 ∨ b = i2 ∨ b = m ∨ b = t := by simpa using hb
    rcases hb with e | e | e | e | e | e | e <;> rw [e]
    · exact ⟨_, hz⟩
    · exact ⟨_, hTI⟩
    · exact ⟨_, hTO⟩
    · exact ⟨_, h1⟩
    · exact ⟨_, h2⟩
    · exact ⟨_, h3⟩
    · exact ⟨_, h4⟩
  sub := fun b hb => by
    have hb : b = z ∨ b = TO ∨ b = i1 ∨ b = i2 := by simpa using hb
    rcases hb with e | e | e | e <;> rw [e] <;> simp
  noKeys := fun A s Q E hA ok h => getAttrOr_miss_zip ok.1 rfl rfl rfl zip_no_keys (by decide +kernel) hA h
  iter := fun A s d Q E hA ok hd hdf h => by
    obtain ⟨hz, hTI, ⟨a, b, hTO⟩, h1, h2⟩ := ok
    have hdf : ¬ (d = z ∨ d = TI ∨ d = TO ∨ d = i1 ∨ d = i2 ∨ d = m ∨ d = t) := fun q => hdf (by simpa using q)
    have dz : d ≠ z := fun q => hdf (by simp [q])
    have dTI : d ≠ TI := fun q => hdf (by simp [q])
    have dTO : d ≠ TO := fun q => hdf (by simp [q])
    have d1 : d ≠ i1 := fun q => hdf (by simp [q])
    have d2 : d ≠ i2 := fun q => hdf (by simp [q])
    have dm : d ≠ m := fun q => hdf (by simp [q])
    have dt : d ≠ t := fun q => hdf (by simp [q])
    have hA1 : A.in1.handled = none := hA
    have D1 : Draws prog w A.in1 i1 [i1, m] es.size (fun i v => ∃ e, es[i]? = some e ∧ v = e.key) (fun i h => h.IsKeyIter i1 m i es.size ep ∧ h.DictRaw m es ep) := drawsKeys hA1 i1 m nm es ep
    have D2 : Draws prog w A.in1 i2 [i2, t] ys.size (fun i v => ys[i]? = some v) (fun i h => h.IsTupleIter i2 t i ∧ h.IsTuple t ys) := Draws.tuple hA1 i2 t nt ys
    refine wpAny_pyIter_zip hz (h z [z, TO, i1, i2] (fun i h => IsPair h TI (.ref i1) (.ref i2) ∧ (h.IsKeyIter i1 m i es.size ep ∧ h.DictRaw m es ep) ∧ (h.IsTupleIter i2 t i ∧ h.IsTuple t ys) ∧
      ((IsZip h z TI TO .none ∧ ∃ a b, IsPair h TO a b) ∨ ∃ T f oT, IsZipHeld h z TI TO T f ∧ h.get? T = some oT ∧ T ≠ z ∧ T ≠ i1 ∧ T ≠ i2 ∧ T ≠ d)) s.heap s.toks ?_
      ⟨hTI, h1, h2, .inl ⟨hz, a, b, hTO⟩⟩ (fun _ _ e => e) fun b hb => .inl hb)
    have i1z : i1 ≠ z := fun q => S.zf1 (by rw [← q]; simp)
    have i2z : i2 ≠ z := fun q => S.zf2 (by rw [← q]; simp)
    exact {
      off := fun hm => by
        have hm : d = z ∨ d = TO ∨ d = i1 ∨ d = i2 := by simpa using hm
        rcases hm with e | e | e | e
        · exact dz e
        · exact dTO e
        · exact d1 e
        · exact d2 e
      frame := fun i h₁ h₂ st hk => by
        obtain ⟨hTI, ⟨⟨o1, g1, r1⟩, g3⟩, ⟨g2, g4⟩, hz⟩ := st
        refine ⟨hk _ _ (Ne.symm dTI) hTI, ⟨⟨o1, hk _ _ (Ne.symm d1) g1, r1⟩, g3.at fun o e => hk _ o (Ne.symm dm) e⟩, ⟨g2.at fun o e => hk _ o (Ne.symm d2) e, g4.at fun o e => hk _ o (Ne.symm dt) e⟩, ?_⟩
        rcases hz with ⟨hz, a, b, hTO⟩ | ⟨T, f, oT, hz, hT, r1, r2, r3, r4⟩
        · exact .inl ⟨hk _ _ (Ne.symm dz) hz, a, b, hk _ _ (Ne.symm dTO) hTO⟩
        · exact .inr ⟨T, f, oT, hk _ _ (Ne.symm dz) hz, hk _ _ r4 hT, r1, r2, r3, r4⟩
      item := fun i s₁ Q₁ E₁ hi st hds hQ => by
        obtain ⟨hTI, h1, h2, hz⟩ := st
        have hx : i < es.size := Nat.lt_of_lt_of_le hi (Nat.min_le_left ..)
        have hy : i < ys.size := Nat.lt_of_lt_of_le hi (Nat.min_le_right ..)
        have lt : ∀ {c o}, s₁.heap.get? c = some o → s₁.heap.objs.size ≠ c := fun e => Nat.ne_of_gt (Heap.lt_size e)
        have n1 : s₁.heap.objs.size ≠ i1 := let ⟨⟨_, e, _⟩, _⟩ := h1; lt e
        have n2 : s₁.heap.objs.size ≠ i2 := let ⟨⟨_, e, _⟩, _⟩ := h2; lt e
        rcases hz with ⟨hz, a, b, hTO⟩ | ⟨T, f, oT, hz, hT, r1, r2, r3, r4⟩
        · refine wpAny_pyNext_zipD2_item S D1 D2 hz hTI hTO h1 h2 hx hy fun x1 x2 h' tk p1 p2 a1 a2 a3 a4 a5 a6 hk => ?_
          exact hQ s₁.heap.objs.size _ _ h' tk ⟨p1, p2⟩ (.inl ⟨_, a5, rfl, _, rfl⟩)
            ⟨hk _ _ S.TIz S.TITO S.TIi1 S.TIi2 hTI, a3, a4, .inr ⟨s₁.heap.objs.size, false, _, a1, a5, lt hz, n1, n2, Nat.ne_of_gt hds⟩⟩
            fun c o hc e => hk c o (fun x => hc (by simp [x])) (fun x => hc (by simp [x])) (fun x => hc (by simp [x])) (fun x => hc (by simp [x])) e
        · refine next_held S D1 D2 hz hT hTI h1 h2 hx hy fun x1 x2 h' tk p1 p2 a1 a3 a4 a5 a6 hk => ?_
          exact hQ s₁.heap.objs.size _ _ h' tk ⟨p1, p2⟩ (.inl ⟨_, a5, rfl, _, rfl⟩)
            ⟨hk _ _ S.TIz S.TIi1 S.TIi2 hTI, a3, a4, .inr ⟨T, true, oT, a1, hk _ _ r1 r2 r3 hT, r1, r2, r3, r4⟩⟩
            fun c o hc e => hk c o (fun x => hc (by simp [x])) (fun x => hc (by simp [x])) (fun x => hc (by simp [x])) e
      done := fun s₁ Q₁ E₁ st hQ => by
        obtain ⟨hTI, h1, h2, hz⟩ := st
        have l1 : min es.size ys.size ≤ es.size := Nat.min_le_left ..
        have l2 : min es.size ys.size ≤ ys.size := Nat.min_le_right ..
        have hend : min es.size ys.size = es.size ∨ min es.size ys.size = ys.size := by omega
        rcases hz with ⟨hz, a, b, hTO⟩ | ⟨T, f, oT, hz, hT, r1, r2, r3, r4⟩
        · exact wpAny_pyNext_zipD2_end S D1 D2 hz hTI hTO h1 h2 l1 l2 hend fun h' tk hk => hQ h' tk fun c o hc e => hk c o (fun x => hc (by simp [x])) (fun x => hc (by simp [x])) (fun x => hc (by simp [x])) (fun x => hc (by simp [x])) e
        · exact next_held_end S D1 D2 hz hT hTI h1 h2 l1 l2 hend fun h' tk hk => hQ h' tk fun c o hc e => hk c o (fun x => hc (by simp [x])) (fun x => hc (by simp [x])) (fun x => hc (by simp [x])) e }
end
end PySem.Pmx
namespace Pm
open PySem PySem.Spec PyProof.Rows L2 RZ
open PySem.W (Frag)
section
variable {X : Cx} {cls : Nat → Addr} {fnm : Fnm} {T : Tab} {W : WX} {a b c : E} {x y z tg : Expr} {pos : Pos} {es : List E} {xs : List Expr}
variable {Z : Zx} {g g' g1 g2 : Gh} {s s' s1 s2 : S} {σ σ' σ1 σ2 : L2.St} {H H' H1 H2 : Hp} {d e : D} {v u : V} {Q : VK}
abbrev KeyTx (e : DictEntry) (x : Str) : Prop := ∃ u, e.key = .str x u
theorem kdc_keys : ∀ {kvs : List (Key × V)} {ens : List DictEntry} {l : List (D × D)}, Paired EntKV kvs ens → IsD Z g l kvs → ∃ xs : List Str, Paired KeyTx ens xs ∧ l.map (·.1) = xs.map D.str := by
  intro kvs ens l pr
  induction pr generalizing l with
  | nil =>
    intro i
    cases l with
    | nil => exact ⟨[], .nil, rfl⟩
    | cons p r =>
      obtain ⟨k, dd⟩ := p
      obtain ⟨_, _, _, e, _⟩ := i
      cases e
  | @cons kv e ks ens r _ ih =>
    intro i
    cases l with
    | nil => cases i
    | cons p l =>
      obtain ⟨k, dd⟩ := p
      obtain ⟨q, v, ws, e1, e2, _, e3⟩ := i
      cases e1
      obtain ⟨xs, h1, h2⟩ := ih e3
      obtain ⟨x, t, ex, et, _⟩ := r
      have ex : q = .inr x := ex
      subst ex
      have ek : k = .str x := by
        cases k <;> first | cases e2 | skip
        rfl
      subst ek
      exact ⟨x :: xs, .cons ⟨t, et⟩ h1, by rw [List.map_cons, h2, List.map_cons]⟩
theorem Wk.zipK {q : Addr} {xs : List Str} {us : List V} {es : List D} (h2 : SqT Z.K g.F q us) (i2 : IsL Z g es us) : Wk Z (PySem.Pmx.itzK Z.K xs q) (zipL (xs.map D.str) es) g := by
  have q2 : ∀ g' s' σ' H', g.Le g' → Rel Z g' s' σ' H' → SqT Z.K H' q us := fun g' s' σ' H' L R => sqT_mono R.sub (L.sqT h2)
  have l2 := isL_len i2
  refine ⟨fun g' s' σ' H' j L R hj => ?_, fun g' s' σ' H' L R => ⟨us, q2 _ _ _ _ L R, by rw [zipL_len, List.length_map]; omega⟩, fun g' s' σ' H' j x H'' L R ⟨T0, v, w', e1, e2, e3, y1, y2⟩ d hd => ?_⟩
  · rw [zipL_len, List.length_map] at hj
    have j1 : j < xs.length := by omega
    have j2 : j < us.length := by omega
    exact ⟨us, xs[j], us[j], q2 _ _ _ _ L R, by simp [j1], by simp [j2]⟩
  · subst e1 e3
    obtain ⟨dx, dy, k1, k2, rfl⟩ := zipL_get hd
    obtain ⟨v2, m2, n2⟩ := isL_get i2 k2
    have y2 := y2 us (q2 _ _ _ _ L R)
    rw [m2] at y2
    cases y2
    have ed : dx = .str v := by
      rw [List.getElem?_map, y1] at k1
      cases k1
      rfl
    subst ed
    exact pair_new R e2 (show Is Z g' (.str v) (.str v) from rfl) (Is.mono L _ _ n2)
theorem ki_zipK {elts : List Expr} {kk : Nat} {tpos p : Pos} (hg : Gl X "zip") (hm : X.mg "zip" = none) (hs : starX x = false) (hs2 : starX y = false) (ha : KE X cls fnm T W a x) (hb : KE X cls fnm T W b y) : KI X cls fnm T W .zipK a b (.Tuple elts kk tpos) (.Call (.Name "zip" p) [x, y] [] pos) := by
  refine PI.at fun σ H R ⟨g, s, R1, h⟩ => ⟨_, PySem.Pmx.pi_zipK hg hm (pa_cons ha (pa_cons hb pa_nil (starEach_plain hs2)) (starEach_plain hs)) (starEach_plain hs) (backTo_none (xs := [y]) (by simp [hs2])), ?_⟩
  have h : Out (zx X cls fnm) W σ g s H ((ev T a s).bind fun x s => (ev T b s).bind fun y s => ofO (itemsI .zipK x.d y.d) s) _ := h
  refine seqE R1 h fun d v g2 s2 H2 R2 I2 _ _ h2 => seqE R2 h2 fun e u g3 s3 H3 R3 I3 le3 _ h3 => ?_
  have I2 := Is.mono le3 _ _ I2
  generalize d.d = dd at h3 I2
  generalize e.d = ee at h3 I3
  cases dd <;> first | (cases ee <;> exact h3.elim; done) | skip
  cases ee <;> first | exact h3.elim | skip
  rename_i l m
  obtain ⟨q, kvs, rfl, KD, f2⟩ := I2
  obtain ⟨q', us, rfl, f1', f2'⟩ := I3
  obtain ⟨ens, n, D1, pr⟩ := KD.ex
  obtain ⟨xs, hx, ek⟩ := kdc_keys pr f2
  have h3 : Out (zx X cls fnm) W σ g3 s3 H3 (ofO (some (zipL (l.map (·.1)) m)) s3) _ := h3
  rw [ek] at h3
  exact ⟨q, q', ens, n, xs, us, rfl, D1, hx, sqT_mono R3.sub f1', wk_out R3 h3 rfl (Wk.zipK f1' f2')⟩
def kvz (xs : List Str) (ys : List V) : List (Key × V) := (xs.zip ys).map fun p => (.inr p.1, p.2)
def tZD (X : Cx) (ta : TA) : TE := fun σ H Q => ta σ H fun vs H1 => ∃ (d t : Addr) (ens : Array DictEntry) (ep : Nat) (xs : List Str) (ys : List V), vs = [.ref d, .ref t] ∧ KDict X.K X.w d ens ep ∧ Paired KeyTx ens.toList xs ∧ SqT X.K H1 t ys ∧
  ∀ p, H1 p = none → Q (.ref p) (upd H1 p (.dK (mergeK [] (kvz xs ys))))
theorem kvz_kv : ∀ {xs : List Str} {ys : List V} {its : List Value}, Vals ys its → KV (kvz xs ys) ((xs.zip its).map fun p => ((.inr p.1 : Key), p.2))
  | [], _, _, _ => .nil
  | x :: xs, _, _, .nil => .nil
  | x :: xs, _, _, .cons r rr => .cons ⟨rfl, r⟩ (kvz_kv rr)
theorem zipgo {x y : Expr} {pos : Pos} {env : Env} (h1 : starX x = false) (h2 : starX y = false) : starEach [x, y] env = (false, eval x env) :: starEach [y] env ∧ (backTo pos (starEach [y] env)).any (·.1) = false := ⟨starEach_plain h1, backTo_none (xs := [y]) (by simp [h2])⟩
theorem pe_zipDict {ta : TA} {p q pos2 : Pos} (hgd : Gl X "dict") (hmd : X.mg "dict" = none) (hg : Gl X "zip") (hm : X.mg "zip" = none) (hs : starX x = false) (hs2 : starX y = false) (hc : X.calm = true) (ha : PA X [x, y] ta) :
    PE X (.Call (.Name "dict" p) [.Call (.Name "zip" q) [x, y] [] pos2] [] pos) (tZD X ta) := by
  refine ⟨fun pins s σ H Q I h => ?_⟩
  refine Call_ (ld_blt I hgd hmd PyProof.Rows.boot_dict (PyProof.Rows.callWith_type1 (Calls.spliced_cons ?_) rfl rfl))
  refine Call_ (ld_blt I hg hm PyProof.Rows.boot_zip (PyProof.Rows.callWith_type1 (thn (ha.run pos2 pins s σ H _ I h) fun us s1 ⟨vs, H1, I1, r1, q1⟩ => ?_) (zipgo (pos := pos2) hs hs2).1 (zipgo (pos := pos2) hs hs2).2))
  obtain ⟨d, t, ens, ep, xs, ys, ex, D1, hx, hq, q⟩ := q1
  subst ex
  cases r1 with
  | cons r rr =>
    cases rr with
    | cons r' rr =>
      cases rr; cases r; cases r'
      obtain ⟨its, rv, pt, hzy⟩ := I1.tuple hq
      have gd := I1.kIn d _ D1.at_
      have ld := Heap.lt_size gd
      obtain ⟨o2, ho2, _⟩ := id pt
      have lt := Heap.lt_size ho2
      refine PySem.Pmx.call_zipK D1.low (es := ens) (ep := ep) ⟨_, gd, ⟨rfl, rfl, rfl⟩, rfl⟩ pt fun h' hz hTI hTO h1 h2 hsz hk => Calls.spliced_nil ?_
      have SZ := PySem.Pmx.sep_new ld lt
      have gd' : h'.DictRaw d ens ep := ⟨_, hk _ _ gd, ⟨rfl, rfl, rfl⟩, rfl⟩
      have pt' : h'.IsTuple t its.toArray := by
        obtain ⟨o3, e3, r3⟩ := id pt
        exact ⟨o3, hk _ _ e3, r3⟩
      have l1 : ens.size = xs.length := by rw [← hx.length, Array.length_toList]
      have lk : ((xs.zip its).map fun p => ((.inr p.1 : Key), p.2)).length = min ens.size its.toArray.size := by
        rw [List.length_map, List.length_zip, l1, List.size_toArray]
      have ly := rv.length
      have hz2 : its.toArray.size ≤ sizeLine := by rw [List.size_toArray, ← ly]; exact hzy
      refine PySem.call_dict_pairs (knd := mixKind X.prog X.w) (kvs := (xs.zip its).map fun p => ((.inr p.1 : Key), p.2)) (PySem.Pmx.pairsK SZ (Nat.ne_of_lt ld) (Nat.ne_of_lt (Nat.lt_succ_of_lt lt)) ens ep its.toArray) (I1.ok.hd hc) ⟨hz, hTI, ⟨_, _, hTO⟩, ⟨h1, gd'⟩, ⟨h2, pt'⟩⟩ ⟨lk, fun i k v hr => ?_⟩ (Nat.le_trans (Nat.min_le_right _ _) hz2) fun h2' tk' dd old => ?_
      · obtain ⟨⟨en, he, ek⟩, hv⟩ := hr
        obtain ⟨x', e1, u1, e2⟩ := PySem.Pmx.pairedGet hx (show ens.toList[i]? = some en by simpa using he)
        have hv : its[i]? = some v := by simpa using hv
        refine ⟨.inr x', ?_, ?_⟩
        · rw [List.getElem?_map, (List.getElem?_zip_eq_some (z := (x', v))).mpr ⟨e1, hv⟩]
          rfl
        · exact kV_is (k := .inr x') ⟨u1, ek.trans e2⟩
      · have kv := kvz_kv (xs := xs) rv
        have hl : (mergeK [] (kvz xs ys)).length ≤ sizeLine := by
          have := length_mergeK (kvz xs ys) []
          have l3 : (kvz xs ys).length ≤ ys.length := by
            unfold kvz
            rw [List.length_map, List.length_zip]
            exact Nat.min_le_right _ _
          simp only [List.length_nil, Nat.zero_add] at this
          omega
        have new : ObjOk X.prog X.w (upd H1 h'.objs.size (.dK (mergeK [] (kvz xs ys)))) h2' h'.objs.size (.dK (mergeK [] (kvz xs ys))) :=
          dk_new hl (beq_eq_false_iff_ne.mpr (Ne.symm (Nat.ne_of_lt (Nat.lt_of_lt_of_le I1.big (by rw [hsz]; exact Nat.le_add_right _ _))))) (KV.merge kv .nil) dd
        have hle : s1.heap.objs.size ≤ h'.objs.size := by rw [hsz]; exact Nat.le_add_right _ _
        have I2 := I1.laid (t' := tk') (fun b o e => old b o (fun hm => ?_) (hk b o e)) hle new
        · exact ⟨.ref h'.objs.size, _, I2, rfl, q _ (I1.hok.fresh hle)⟩
        · have lb := Heap.lt_size e
          have hm : b = s1.heap.objs.size + 4 ∨ b = s1.heap.objs.size + 3 ∨ b = s1.heap.objs.size ∨ b = s1.heap.objs.size + 1 := by simpa using hm
          have lb : (b : Nat) < s1.heap.objs.size := lb
          rcases hm with z | z | z | z <;> (rw [z] at lb; first | exact absurd lb (Nat.not_lt.mpr (Nat.le_add_right _ _)) | exact absurd lb (Nat.lt_irrefl _))
theorem isD_kvz : ∀ {xs : List Str} {m : List D} {ys : List V} {l : List (D × D)} {kvs : List (Key × V)}, IsL Z g m ys → IsD Z g l kvs → IsD Z g ((xs.map D.str).zip m |>.foldl (fun acc p => dput acc p.1 p.2) l) (mergeK kvs (kvz xs ys))
  | [], _, _, _, _, _, h => h
  | x :: xs, [], _, _, _, e, h => by
    cases e
    exact h
  | x :: xs, d :: m, _, _, _, ⟨v, ws, e1, e2, e3⟩, h => by
    subst e1
    exact isD_kvz (xs := xs) e3 (isD_put (k := .str x) (q := .inr x) rfl h e2)
theorem ke_zipDict {p q pos2 : Pos} (hgd : Gl X "dict") (hmd : X.mg "dict" = none) (hg : Gl X "zip") (hm : X.mg "zip" = none) (hs : starX x = false) (hs2 : starX y = false) (hc : X.calm = true) (ha : KE X cls fnm T W a x) (hb : KE X cls fnm T W b y) :
    KE X cls fnm T W (.p2 .zipDict a b) (.Call (.Name "dict" p) [.Call (.Name "zip" q) [x, y] [] pos2] [] pos) := by
  refine PE.weak (pe_zipDict hgd hmd hg hm hs hs2 hc (pa_cons ha (pa_cons hb pa_nil (starEach_plain hs2)) (starEach_plain hs))) fun σ H Q ⟨g, s, R1, h⟩ => ?_
  have h : Out (zx X cls fnm) W σ g s H ((ev T a s).bind fun x s => (ev T b s).bind fun y s => ofO (prim2 .zipDict x.d y.d) s) _ := h
  refine seqE R1 h fun d v g2 s2 H2 R2 I2 _ _ h2 => seqE R2 h2 fun e u g3 s3 H3 R3 I3 le3 _ h3 => ?_
  have I2 := Is.mono le3 _ _ I2
  generalize d.d = dd at h3 I2
  generalize e.d = ee at h3 I3
  cases dd <;> first | (cases ee <;> exact h3.elim; done) | skip
  cases ee <;> first | exact h3.elim | skip
  rename_i l m
  obtain ⟨_, h3⟩ := ofO_if h3
  obtain ⟨q, kvs, rfl, KD, f2⟩ := I2
  obtain ⟨q', us, rfl, f1', f2'⟩ := I3
  obtain ⟨ens, n, D1, pr⟩ := KD.ex
  obtain ⟨xs, hx, ek⟩ := kdc_keys pr f2
  rw [ek] at h3
  exact ⟨q, q', ens, n, xs, us, rfl, D1, hx, sqT_mono R3.sub f1', fun o ho => Out.newD R3 h3 ho (isD_kvz f2' (show IsD _ g3 [] [] from rfl))⟩
theorem ke_pow {i k : Int} {j1 j2 : Nat} {p1 p2 : Pos} (h : 0 ≤ i ∧ i < 1000 ∧ 0 ≤ k ∧ k < 60) : KE X cls fnm T W (.cst (.int (i ^ k.toNat))) (.BinOp (.Constant (.int i) j1 p1) .Pow (.Constant (.int k) j2 p2) pos) := by
  refine PE.weak (pe_op op_pow pe_int pe_int) fun σ H Q ⟨g, s, R1, h1⟩ => ?_
  exact ⟨i, k, rfl, rfl, ⟨h.2.2.1, by omega, by omega⟩, Out.fz R1 h1 rfl⟩
end
end Pm
namespace Pm
open PySem PySem.Spec PyProof.Rows L2 RZ
open PySem.W (Frag)
section
variable {X : Cx} {cls : Nat → Addr} {fnm : Fnm} {T : Tab} {W : WX} {a b c : E} {x y z tg : Expr} {pos : Pos} {es : List E} {xs : List Expr}
variable {Z : Zx} {g g' g1 g2 : Gh} {s s' s1 s2 : S} {σ σ' σ1 σ2 : L2.St} {H H' H1 H2 : Hp} {d e : D} {v u : V} {Q : VK} {own : List Nat} {ex : List Addr} {p : Addr} {o : HO}
abbrev feD (T : Tab) (ke ve : E) : S → R (D × D) := fun s => (ev T ke s).bind fun q s => (ev T ve s).bind fun w s => .ok (q.d, w.d) s
theorem ev_dc {ke ve : E} {tgt : Tg} {k : Ik} {ifs : Option E} (s : S) : ev T (.dc own ke ve tgt k a b ifs) s = (evI T k a b s).bind fun items s => (dcGo own tgt (fun s => evT T ifs s) (feD T ke ve) items (s.wipe own) []).calm.bind fun acc s2 => R.ok (Sl.ow (.dct acc)) (s.over s2 own) := by
  unfold evI
  rw [ev]
  cases ev T a s with
  | bad => rfl
  | exc _ _ _ => rfl
  | ok x s1 =>
    show R.bind (if k.two then ev T b s1 else .ok (.fz .non) s1) _ = R.bind (R.bind (if k.two then ev T b s1 else .ok (.fz .non) s1) _) _
    cases (if k.two then ev T b s1 else .ok (.fz .non) s1) with
    | bad => rfl
    | exc _ _ _ => rfl
    | ok y s2 =>
      show (match itemsI k x.d y.d with | some items => _ | none => R.bad) = R.bind (ofO (itemsI k x.d y.d) s2) _
      cases itemsI k x.d y.d <;> rfl
theorem dc_run {ke ve : E} {tgt : Tg} {ifs : Option E} {items : List D} {J : It} (hv : ∀ i ∈ tgt.slots, i ∈ own) (R1 : Rel Z g s σ H) (w : Wk Z J items g)
    (h : Out Z W σ g s H ((dcGo own tgt (fun s => evT T ifs s) (feD T ke ve) items (s.wipe own) []).calm.bind fun acc s2 => R.ok (Sl.ow (.dct acc)) (s.over s2 own)) (PV Z σ Q)) :
    ∀ D, H D = none → ∃ Wm : Nat → Nat → Hp → Prop, (∃ m, Wm 0 m (upd H D (.dK []))) ∧ ∀ i m H, Wm i m H →
      (J.stop i H ∧ Q (.ref D) H) ∨ (J.go i H ∧ ∃ Nx : Hp → Prop, (∀ H', Nx H' → ∃ m', m' < m ∧ Wm (i + 1) m' H') ∧ ∀ x H', J.yld i H x H' → rdG Z tgt x (L2.wipe σ own) H' fun σ2 H2 => L2.wipe σ2 own = L2.wipe σ own ∧ rdTs Z T ifs σ2 H2 fun b H3 =>
        if b = true then rdE Z T W0 ke σ2 H3 fun y H4 => rdE Z T W0 ve σ2 H4 fun z H5 => ∃ kvs k, y = kV k ∧ H5 D = some (.dK kvs) ∧ kvs.length < sizeLine ∧ Nx (upd H5 D (.dK (putK kvs k z))) else Nx H3) := by
  intro p hp
  obtain ⟨accF, sF, eF, h⟩ := calm_ok h
  let Pv : Nat → Hp → Prop := fun i H' => ∃ gi si acc vs, Rel Z gi si (L2.wipe σ own) H' ∧ Fr (L2.wipe σ own) (L2.wipe σ own) g (s.wipe own) H gi si H' [p] ∧ Clean own si ∧ Lone gi si (L2.wipe σ own) H' p (.dK vs) ∧ IsD Z gi acc vs ∧ dcGo own tgt (fun s => evT T ifs s) (feD T ke ve) (items.drop i) si acc = .ok accF sF
  have h0 : Pv 0 (upd H p (.dK [])) := by
    have Rw := (R1.wipe (own := own)).1
    obtain ⟨r1, ow⟩ := Rw.alloc (o := .dK []) hp
    obtain ⟨f1, f2⟩ := Rw.free hp
    refine ⟨g, s.wipe own, [], [], r1, ⟨.refl g, fun a u e _ => .inl (by rw [upd_ne (ne_of_none e hp)]; exact e), fun a _ _ f => f, fun a ha => ?_, fun a ha => mono_upd a ha, Nat.le_refl _⟩, clean_wipe, ⟨upd_same, f1, fun q => f2 ((ow p).mp q)⟩, rfl, by simpa using eF⟩
    rcases ha with ha | ha
    · exact .inr ((ow a).mp ha)
    · rw [List.mem_singleton.mp ha]
      exact .inl hp
  have fin : ∀ (i : Nat) (σ2 : L2.St) (g3 : Gh) (s3 : S) (H3 : Hp) (acc : List (D × D)) (vs : List (Key × V)), Rel Z g3 s3 σ2 H3 → Fr (L2.wipe σ own) σ2 g (s.wipe own) H g3 s3 H3 [p] → L2.wipe σ2 own = L2.wipe σ own → Lone g3 s3 σ2 H3 p (.dK vs) → IsD Z g3 acc vs →
      dcGo own tgt (fun s => evT T ifs s) (feD T ke ve) (items.drop (i + 1)) (s3.wipe own) acc = .ok accF sF → Pv (i + 1) H3 := fun i σ2 g3 s3 H3 acc vs R3 F3 e2 l3 a3 q => by
    have Rw := (R3.wipe (own := own)).1
    have Fw := Fr.wipe (own := own) R3
    rw [e2] at Rw Fw
    exact ⟨g3, s3.wipe own, acc, vs, Rw, (F3.trans Fw).plus hp, clean_wipe, l3.fr Fw, a3, q⟩
  refine ⟨fun i m H' => m = items.length - i ∧ i ≤ items.length ∧ Pv i H', ⟨items.length, by simp, Nat.zero_le _, h0⟩, ?_⟩
  rintro i m Hi ⟨rfl, hi, gi, si, acc, vs, Ri, Fi, Ci, Li, Ai, qi⟩
  by_cases hlt : i < items.length
  · refine .inr ⟨w.go gi si _ Hi i Fi.le Ri hlt, Pv (i + 1), fun H' p' => ⟨items.length - (i + 1), by omega, rfl, hlt, p'⟩, fun x H' y => ?_⟩
    have hd : items.drop i = items[i] :: items.drop (i + 1) := List.drop_eq_getElem_cons hlt
    rw [hd] at qi
    obtain ⟨g2, R2, F2, I2⟩ := w.yld gi si _ Hi i x H' Fi.le Ri y items[i] (by simp [hlt])
    unfold dcGo at qi
    cases hb : bindT tgt items[i] si.loc with
    | none => rw [hb] at qi; cases qi
    | some loc =>
      rw [hb] at qi
      dsimp only at qi
      refine ⟨g2, si, items[i], loc, R2, I2, hb, fun σ2 R3 St => ?_⟩
      have we := wipe_stored St hv
      refine ⟨we, g2, ⟨loc, si.res⟩, R3, ?_⟩
      cases ht : evT T ifs ⟨loc, si.res⟩ with
      | bad => rw [ht] at qi; cases qi
      | exc _ _ _ => rw [ht] at qi; cases qi
      | ok bb s3 =>
        rw [ht] at qi
        intro g3 H3 ex3 R4 F4
        have Fa := ((Fi.trans F2).trans (Fr.store St)).trans F4
        have La := ((Li.fr F2).fr (Fr.store St)).fr F4
        have Aa := IsD.mono (F2.le.trans F4.le) _ _ Ai
        cases bb with
        | false =>
          show Pv (i + 1) H3
          exact fin i σ2 g3 s3 H3 acc vs R4 (Fa.plus hp) we La Aa qi
        | true =>
          show rdE Z T W0 ke σ2 H3 fun y H4 => rdE Z T W0 ve σ2 H4 fun z H5 => ∃ kvs k, y = kV k ∧ H5 p = some (.dK kvs) ∧ kvs.length < sizeLine ∧ Pv (i + 1) (upd H5 p (.dK (putK kvs k z)))
          refine ⟨g3, s3, R4, ?_⟩
          have qi : (feD T ke ve s3).bind (fun d s3 => if d.1.isKey = true ∧ acc.length < lim then dcGo own tgt (fun s => evT T ifs s) (feD T ke ve) (items.drop (i + 1)) (s3.wipe own) (dput acc d.1 d.2) else .bad) = .ok accF sF := qi
          unfold feD at qi
          cases he : ev T ke s3 with
          | bad => rw [he] at qi; cases qi
          | exc _ _ _ => rw [he] at qi; cases qi
          | ok xk s4 =>
            rw [he] at qi
            intro g4 H4 ex4 R5 F5 v V
            obtain ⟨g5, R6, F6, I6⟩ := V.freeze R5 F5
            refine ⟨g5, s4, R6, ?_⟩
            have qi : ((ev T ve s4).bind fun w s => R.ok (xk.d, w.d) s).bind (fun d s3 => if d.1.isKey = true ∧ acc.length < lim then dcGo own tgt (fun s => evT T ifs s) (feD T ke ve) (items.drop (i + 1)) (s3.wipe own) (dput acc d.1 d.2) else .bad) = .ok accF sF := qi
            cases he2 : ev T ve s4 with
            | bad => rw [he2] at qi; cases qi
            | exc _ _ _ => rw [he2] at qi; cases qi
            | ok xv s5 =>
              rw [he2] at qi
              have qi : (if xk.d.isKey = true ∧ acc.length < lim then dcGo own tgt (fun s => evT T ifs s) (feD T ke ve) (items.drop (i + 1)) (s5.wipe own) (dput acc xk.d xv.d) else .bad) = .ok accF sF := qi
              by_cases hk : xk.d.isKey = true ∧ acc.length < lim
              case neg => rw [if_neg hk] at qi; cases qi
              rw [if_pos hk] at qi
              intro g6 H5 ex5 R7 F7 v2 V2
              obtain ⟨g7, R8, F8, I8⟩ := V2.freeze R7 F7
              have Lb := (La.fr F6).fr F8
              have Fb := (Fa.trans F6).trans F8
              have Ab := IsD.mono (F6.le.trans F8.le) _ _ Aa
              obtain ⟨kq, hq⟩ := key_of_isKey hk.1
              refine ⟨vs, kq, keyD_V hq I6, Lb.at_, ?_, ?_⟩
              · rw [isD_len Ab]
                exact Nat.lt_of_lt_of_le hk.2 lim_le
              · obtain ⟨R9, L9, _⟩ := R8.poke Lb (.dK (putK vs kq v2))
                exact fin i σ2 g7 s5 _ (dput acc xk.d xv.d) (putK vs kq v2) R9 (Fb.poke hp Lb R8 _) we L9 (isD_put hq Ab I8) qi
  · have e : i = items.length := by omega
    subst e
    refine .inl ⟨w.stop gi si _ Hi Fi.le Ri, ?_⟩
    rw [List.drop_length] at qi
    cases qi
    obtain ⟨R8, F8, lift⟩ := R1.unhide Ri Fi Ci
    exact h gi Hi [p] R8 F8 _ (lift _ _ ⟨p, rfl, ⟨Li.nf, vs, Li.at_, Ai⟩, rfl, fun a ha => by
      rw [List.mem_singleton.mp ha]
      exact Li.no, rfl⟩)
theorem ke_dc {ke ve : E} {kx vx : Expr} {tgt : Tg} {k : Ik} {ifs : Option E} {ifx : List Expr} {iter : Expr} {scope : Scope} {ow : List (Str × Nat)} (hc : X.calm = true) (hN : X.N.Nodup) (hi : KI X cls fnm T W k a b tg iter) (ok : BlkOk X.N X.env.scope scope ow) (hv : ∀ i ∈ tgt.slots, i ∈ ow.map (·.2))
    (hg : ∀ (s : Shared) (H : Hp) (C : Addr) (cl : List (Str × Addr)) (fp : List Addr), KG (X.blk s H scope (compEnvC scope cl C X.env) fp) cls fnm tgt tg)
    (ht : ∀ (s : Shared) (H : Hp) (C : Addr) (cl : List (Str × Addr)) (fp : List Addr), PTs (X.blk s H scope (compEnvC scope cl C X.env) fp) ifx (rdTs (zx X cls fnm) T ifs))
    (hk : ∀ (s : Shared) (H : Hp) (C : Addr) (cl : List (Str × Addr)) (fp : List Addr), KE (X.blk s H scope (compEnvC scope cl C X.env) fp) cls fnm T W0 ke kx)
    (he : ∀ (s : Shared) (H : Hp) (C : Addr) (cl : List (Str × Addr)) (fp : List Addr), KE (X.blk s H scope (compEnvC scope cl C X.env) fp) cls fnm T W0 ve vx) (hs : ∀ x, foldedSetIterable iter X.env x = pure x) :
    KE X cls fnm T W (.dc (ow.map (·.2)) ke ve tgt k a b ifs) (.DictComp kx vx [⟨tg, iter, ifx, 0⟩] scope pos) := by
  refine PE.weak (pe_dc (g := rdG (zx X cls fnm) tgt) (tk := rdE (zx X cls fnm) T W0 ke) (tv := rdE (zx X cls fnm) T W0 ve) hc hN hi ok (fun s H C cl fp => hg s H C cl fp) ht (fun s H C cl fp => hk s H C cl fp) (fun s H C cl fp => he s H C cl fp) hs) fun σ H Q ⟨g, s, R1, h⟩ => ?_
  rw [ev_dc] at h
  refine ⟨g, s, R1, h.bind.mono fun items g1 s1 H1 ex R' F' q J w => ?_⟩
  exact dc_run hv R' w (q.later F'.drop)
end
end Pm
namespace Pm
open PySem PySem.Spec PyProof.Rows L2 RZ
open PySem.W (Frag)
section
variable {prog : Program} {w : World} {A : Around} {E : Value → Shared → Prop} {s : Shared} {K : Frag} {x C f : Addr} {ox : Obj} {od : Option Obj}
theorem len_at {Q : Value → Shared → Prop} (X : K.In s.heap) (J : PySem.W.InstAt s.heap x ox C od) (hs : PySem.W.findIn K (.ref C) "__len__" = some (some (.ref f))) (hf : PySem.W.isFn K (.ref f) = true)
    (hc : wpAny (model prog w) A.in1 (call (.ref f) [.ref x]) (fun r s1 => ∃ n u, r = Value.int n u ∧ 0 ≤ n ∧ n < 2 ^ 63 ∧ Q (.int n s1.toks) { s1 with toks := s1.toks + 1 }) E s) : wpAny (model prog w) A (call (.builtin "len") [.ref x]) Q E s := by
  refine Calls.call_function_entry kind_len plain_len entry_len (args_len1 _) ?_
  unfold Builtin.«len»
  refine wpAny_bind (m := oneArg "len" _) (wpAny_pure ?_)
  refine wpAny_bind (m := callSpecial? (.ref x) (Str.ofString "__len__")) (PySem.W.special_fn X J hs (beq_iff_eq.mp hf) (wpAny_mono hc (fun r s1 z => ?_) fun _ _ y => y))
  obtain ⟨n, u, rfl, l0, l1, q⟩ := z
  refine wpAny_bind (wpAny_holding (wpAny_pure ?_))
  refine wpAny_bind (wpAny_letGo ?_)
  show wpAny _ _ (if n < 0 then _ else _) _ _ s1
  rw [if_neg (show ¬ n < 0 by omega)]
  show wpAny _ _ (if n ≥ 2 ^ 63 then _ else _) _ _ s1
  rw [if_neg (show ¬ n ≥ 2 ^ 63 by omega)]
  exact wpAny_bind (wpAny_mkInt (wpAny_pure ⟨_, rfl, q⟩))
end
section
variable {X : Cx} {cls : Nat → Addr} {fnm : Fnm} {T : Tab} {W : WX} {C : Addr} {a b c : E} {x y z : Expr} {pos : Pos}
variable {Z : Zx} {g g' g1 g2 : Gh} {s s' s1 s2 : S} {σ σ' σ1 σ2 : L2.St} {H H' H1 H2 : Hp} {d e : D} {v u : V} {Q : VK} {p : Addr}
def rLO (X : Cx) (Z : Zx) : List V → Hp → VK → Prop := fun xs H Q => ∃ (c : Nat) (f : FS) (a p dx : Addr) (ws : List (Str × V)) (n : Nat), Cls X.K (Z.cls c) ∧ Meth X.K (Z.cls c) "__len__" a ∧ FnAt X Z f a ∧ xs = [.ref p] ∧ H p = some (.ins (Z.cls c) dx ws) ∧
  (∀ ds res, ds.length ≠ n → f ds res = .bad) ∧ spF Z f n [.ref p] H (fun v H' => ∃ i : Int, v = .int i ∧ 0 ≤ i ∧ i < 2 ^ 63 ∧ Q (.int i) H') (fun _ _ _ => False)
theorem call_lenO : CallR X (.builtin "len") (rLO X Z) := by
  intro pins s σ H xs us Q I r ⟨c, f, a, p, dx, ws, n, hC, M, F, ex, hp, har, q⟩
  subst ex
  obtain ⟨u, rfl, ru⟩ := vals1 r
  obtain rfl : u = Value.ref p := ru
  obtain ⟨mA, J, _⟩ := ins_get I.hok hp
  obtain ⟨od, J, _⟩ := J.look
  obtain ⟨n', fd, ps, k, F1, hr, hb, har'⟩ := F.fn
  refine len_at I.kIn J M.at_ M.fn ?_
  have q := spF_n (m := n') har' q
  have hl : ([.ref p] : List Value).length = ps.length := F1.len _ _ _ _ q
  have b := hb s [.ref p] I.kIn (by rw [List.append_nil]; exact hl)
  rw [List.append_nil] at b
  refine wpAny_call (codeAny_mono (F1.run X.A.in1 X.stack s H ⟨[.ref p], []⟩ [.ref p] [.ref p] _ _ hr.in1 I.env0.in1 b (.cons rfl .nil) q) fun rr s' hq => ?_)
  cases rr with
  | error e =>
    obtain ⟨_, _, _, _, _, _, _, _, _, _, _, _, z⟩ := hq
    exact z.elim
  | ok fl =>
    cases fl with
    | ret u =>
      obtain ⟨w', H', I', rw', i, e, l0, l1, q'⟩ := I.after hq
      subst e
      obtain ⟨t, rfl⟩ := rw'
      exact ⟨i, t, rfl, l0, l1, .int i, H', I'.tok _, ⟨_, rfl⟩, q'⟩
    | next => exact False.elim hq
    | brk => exact False.elim hq
    | cont => exact False.elim hq
theorem ke_olen {m : Nat} {p : Pos} (hg : Gl X "len") (hmg : X.mg "len" = none) (hs : starX x = false) (hm : ∀ c k, T.meth c m = some k → ∃ f, Cls X.K (cls c) ∧ Meth X.K (cls c) "__len__" f ∧ FnAt X (zx X cls fnm) (T.fn k) f)
    (ha : KE X cls fnm T W a x) : KE X cls fnm T W (.olen a m) (.Call (.Name "len" p) [x] [] pos) := by
  refine PE.weak (pe_callB (call_lenO (Z := zx X cls fnm)) hg hmg PySem.boot_len (pa_cons ha pa_nil (starEach_plain hs)) (by decide) (by decide) (starEach_plain hs)) fun σ H Q ⟨g, s, R1, h⟩ => ?_
  unfold ev at h
  refine seqE R1 h fun d v g2 s2 H2 R2 I2 _ _ h2 => ?_
  cases hc : clsD d.d s2.res with
  | none =>
    rw [hc] at h2
    exact h2.elim
  | some c =>
    rw [hc] at h2
    have h2 : Out (zx X cls fnm) W σ g2 s2 H2 (match T.meth c m with
      | some g => lenEnd s2 (T.fn g [d.d] s2.res)
      | none => .bad) (PV (zx X cls fnm) σ Q) := h2
    cases hm2 : T.meth c m with
    | none =>
      rw [hm2] at h2
      exact h2.elim
    | some k =>
      rw [hm2] at h2
      have h2 : Out (zx X cls fnm) W σ g2 s2 H2 (lenEnd s2 (T.fn k [d.d] s2.res)) (PV (zx X cls fnm) σ Q) := h2
      obtain ⟨f, C1, M1, F1⟩ := hm c k hm2
      obtain ⟨p, dx, ws, fs, rfl, e1, e2⟩ := cls_at R2 hc I2
      obtain ⟨n, _, _, _, _, _, _, har⟩ := id F1.fn
      refine ⟨c, _, f, p, dx, ws, n, C1, M1, F1, rfl, e1, har, ?_⟩
      refine get_sp (W := W) (σ := σ) (ds := [d.d]) har R2 ⟨_, _, rfl, I2, rfl⟩ ?_
      unfold getEnd
      unfold lenEnd at h2
      cases er : T.fn k [d.d] s2.res with
      | bad => rw [er] at h2; exact h2.elim
      | exc c fs res => rw [er] at h2; exact h2.elim
      | ok x res =>
        rw [er] at h2
        cases x with
        | ow c => exact h2.elim
        | xc c fs => exact h2.elim
        | fz dd =>
          cases dd <;> first | exact h2.elim | skip
          rename_i i
          have h2 : Out (zx X cls fnm) W σ g2 s2 H2 (if 0 ≤ i ∧ i < 2 ^ 63 then .ok (.fz (.int i)) ⟨s2.loc, res⟩ else .bad) (PV (zx X cls fnm) σ Q) := h2
          by_cases hi : 0 ≤ i ∧ i < 2 ^ 63
          · rw [if_pos hi] at h2
            intro g' H' ex R' F' v V
            obtain ⟨I3, e3⟩ := id V
            cases I3
            exact ⟨i, rfl, hi.1, hi.2, h2 g' H' ex R' F' _ V⟩
          · rw [if_neg hi] at h2
            exact h2.elim
theorem insI_perm (x : Int) : ∀ l, (insI x l).Perm (x :: l)
  | [] => .refl _
  | y :: r => by
    unfold insI
    split
    · exact .refl _
    · exact ((insI_perm x r).cons y).trans (.swap x y r)
theorem srtI_perm : ∀ l, (srtI l).Perm l
  | [] => .refl _
  | x :: r => (insI_perm x _).trans ((srtI_perm r).cons x)
theorem insI_sort (x : Int) : ∀ l : List Int, l.Pairwise (· ≤ ·) → (insI x l).Pairwise (· ≤ ·)
  | [], _ => by unfold insI; simp
  | y :: r, h => by
    obtain ⟨h1, h2⟩ := List.pairwise_cons.mp h
    unfold insI
    split
    · rename_i hx
      exact List.pairwise_cons.mpr ⟨fun z hz => by
        rcases List.mem_cons.mp hz with e | e
        · rw [e]; exact hx
        · exact Int.le_trans hx (h1 z e), h⟩
    · rename_i hx
      refine List.pairwise_cons.mpr ⟨fun z hz => ?_, insI_sort x r h2⟩
      rcases List.mem_cons.mp ((insI_perm x r).mem_iff.mp hz) with e | e
      · rw [e]; omega
      · exact h1 z e
theorem srtI_sort : ∀ l, (srtI l).Pairwise (· ≤ ·)
  | [] => .nil
  | x :: r => insI_sort x _ (srtI_sort r)
theorem srtI_uniq {l m : List Int} (hp : m.Perm l) (hs : m.Pairwise (· ≤ ·)) : m = srtI l :=
  (hp.trans (srtI_perm l).symm).eq_of_pairwise (fun a b _ _ h1 h2 => Int.le_antisymm h1 h2) hs (srtI_sort l)
abbrev leS (a b : Str) : Prop := ltS b a = false
theorem leS_iff {a b : Str} : leS a b ↔ ¬ b.cps.toList < a.cps.toList := by
  show ltS b a = false ↔ _
  unfold ltS
  rw [PyProof.Rows.ltCps_eq]
  simp
theorem leS_antisymm {a b : Str} (h1 : leS a b) (h2 : leS b a) : a = b := by
  have e := List.le_antisymm (leS_iff.mp h1) (leS_iff.mp h2)
  obtain ⟨⟨x⟩⟩ := a
  obtain ⟨⟨y⟩⟩ := b
  have e : x = y := e
  rw [e]
theorem leS_trans {a b c : Str} (h1 : leS a b) (h2 : leS b c) : leS a c := leS_iff.mpr (List.le_trans (leS_iff.mp h1) (leS_iff.mp h2))
theorem leS_total {a b : Str} (h : ltS a b = true) : leS a b := by
  refine leS_iff.mpr ?_
  have h : ltS a b = true := h
  unfold ltS at h
  rw [PyProof.Rows.ltCps_eq] at h
  exact List.lt_asymm (of_decide_eq_true h)
theorem insS_perm (x : Str) : ∀ l, (insS x l).Perm (x :: l)
  | [] => .refl _
  | y :: r => by
    unfold insS
    split
    · exact ((insS_perm x r).cons y).trans (.swap x y r)
    · exact .refl _
theorem srtS_perm : ∀ l, (srtS l).Perm l
  | [] => .refl _
  | x :: r => (insS_perm x _).trans ((srtS_perm r).cons x)
theorem insS_sort (x : Str) : ∀ l : List Str, l.Pairwise leS → (insS x l).Pairwise leS
  | [], _ => by unfold insS; simp
  | y :: r, h => by
    obtain ⟨h1, h2⟩ := List.pairwise_cons.mp h
    unfold insS
    split
    · rename_i hx
      refine List.pairwise_cons.mpr ⟨fun z hz => ?_, insS_sort x r h2⟩
      rcases List.mem_cons.mp ((insS_perm x r).mem_iff.mp hz) with e | e
      · rw [e]; exact leS_total hx
      · exact h1 z e
    · rename_i hx
      have hx : leS x y := by
        show ltS y x = false
        simpa using hx
      exact List.pairwise_cons.mpr ⟨fun z hz => by
        rcases List.mem_cons.mp hz with e | e
        · rw [e]; exact hx
        · exact leS_trans hx (h1 z e), h⟩
theorem srtS_sort : ∀ l, (srtS l).Pairwise leS
  | [] => .nil
  | x :: r => insS_sort x _ (srtS_sort r)
theorem rising_pw : ∀ (p : Str) (l : List Str), risingS p l = true → (p :: l).Pairwise leS
  | p, [], _ => by simp
  | p, x :: r, h => by
    unfold risingS at h
    obtain ⟨h1, h2⟩ := Bool.and_eq_true_iff.mp h
    have h1 : leS p x := by
      have h1 : (!ltS x p) = true := h1
      show ltS x p = false
      simpa using h1
    have ih := rising_pw x r h2
    refine List.pairwise_cons.mpr ⟨fun z hz => ?_, ih⟩
    rcases List.mem_cons.mp hz with e | e
    · rw [e]; exact h1
    · exact leS_trans h1 ((List.pairwise_cons.mp ih).1 z e)
theorem sortedS_pw {l : List Str} (h : sortedS l = true) : l.Pairwise leS := by
  cases l with
  | nil => exact .nil
  | cons x r => exact rising_pw x r h
theorem srtS_uniq {l m : List Str} (hp : m.Perm l) (hs : sortedS m = true) : m = srtS l :=
  (hp.trans (srtS_perm l).symm).eq_of_pairwise (fun a b _ _ h1 h2 => leS_antisymm h1 h2) (sortedS_pw hs) (srtS_sort l)
theorem intsD_ok : ∀ {l : List D} {ns : List Int} {vs : List V}, intsD l = some ns → IsL Z g l vs → vs = ns.map V.int ∧ l = ns.map D.int
  | [], _, _, h, e => by cases h; cases e; exact ⟨rfl, rfl⟩
  | d :: r, _, _, h, ⟨v, ws, e1, e2, e3⟩ => by
    subst e1
    cases d <;> first | (cases h; done) | skip
    rename_i i
    cases e2
    obtain ⟨ms, hm, rfl⟩ := Option.map_eq_some_iff.mp (show (intsD r).map (i :: ·) = some _ from h)
    obtain ⟨rfl, rfl⟩ := intsD_ok hm e3
    exact ⟨rfl, rfl⟩
theorem strsD_ok : ∀ {l : List D} {ns : List Str} {vs : List V}, strsD l = some ns → IsL Z g l vs → vs = ns.map V.str ∧ l = ns.map D.str
  | [], _, _, h, e => by cases h; cases e; exact ⟨rfl, rfl⟩
  | d :: r, _, _, h, ⟨v, ws, e1, e2, e3⟩ => by
    subst e1
    cases d <;> first | (cases h; done) | skip
    rename_i i
    cases e2
    obtain ⟨ms, hm, rfl⟩ := Option.map_eq_some_iff.mp (show (strsD r).map (i :: ·) = some _ from h)
    obtain ⟨rfl, rfl⟩ := strsD_ok hm e3
    exact ⟨rfl, rfl⟩
theorem isL_strs : ∀ ns : List Str, IsL Z g (ns.map D.str) (ns.map V.str)
  | [] => rfl
  | n :: r => ⟨.str n, _, rfl, rfl, isL_strs r⟩
theorem len64 {n : Nat} (h : n < 64) : n ≤ sizeLine := by rw [sizeLine_eq]; omega
theorem keysI {l : List (D × D)} {kvs : List (Key × V)} : ∀ {ns : List Int}, intsD (l.map (·.1)) = some ns → IsD Z g l kvs → kvs.map (·.1) = ns.map Sum.inl := by
  induction l generalizing kvs with
  | nil => intro ns h e; cases h; cases e; rfl
  | cons p r ih =>
    intro ns h ⟨k, v, ws, e1, e2, e3, e4⟩
    subst e1
    obtain ⟨kd, vd⟩ := p
    cases kd <;> first | (cases h; done) | skip
    rename_i i
    cases e2
    obtain ⟨ms, hm, rfl⟩ := Option.map_eq_some_iff.mp (show (intsD (r.map (·.1))).map (i :: ·) = some _ from h)
    rw [List.map_cons, ih hm e4]
    rfl
theorem keysS {l : List (D × D)} {kvs : List (Key × V)} : ∀ {ns : List Str}, strsD (l.map (·.1)) = some ns → IsD Z g l kvs → kvs.map (·.1) = ns.map Sum.inr := by
  induction l generalizing kvs with
  | nil => intro ns h e; cases h; cases e; rfl
  | cons p r ih =>
    intro ns h ⟨k, v, ws, e1, e2, e3, e4⟩
    subst e1
    obtain ⟨kd, vd⟩ := p
    cases kd <;> first | (cases h; done) | skip
    rename_i i
    cases e2
    obtain ⟨ms, hm, rfl⟩ := Option.map_eq_some_iff.mp (show (strsD (r.map (·.1))).map (i :: ·) = some _ from h)
    rw [List.map_cons, ih hm e4]
    rfl
theorem intsD_len : ∀ {l : List D} {ns : List Int}, intsD l = some ns → ns.length = l.length
  | [], _, h => by cases h; rfl
  | d :: r, _, h => by
    cases d <;> first | (cases h; done) | skip
    rename_i i
    obtain ⟨ms, hm, rfl⟩ := Option.map_eq_some_iff.mp (show (intsD r).map (i :: ·) = some _ from h)
    simp [intsD_len hm]
theorem strsD_len : ∀ {l : List D} {ns : List Str}, strsD l = some ns → ns.length = l.length
  | [], _, h => by cases h; rfl
  | d :: r, _, h => by
    cases d <;> first | (cases h; done) | skip
    rename_i i
    obtain ⟨ms, hm, rfl⟩ := Option.map_eq_some_iff.mp (show (strsD r).map (i :: ·) = some _ from h)
    simp [strsD_len hm]
theorem ke_sorted {p : Pos} (hc : X.calm = true) (hg : Gl X "sorted") (hm : X.mg "sorted" = none) (hs : starX x = false) (ha : KR X cls fnm T W a x) : KE X cls fnm T W (.p1 .sorted a) (.Call (.Name "sorted" p) [x] [] pos) := by
  refine kb_seq (cr_sortedI.or (cr_sortedS.or ((call_sortedDI hc).or (call_sortedD hc)))) hg hm (by decide +kernel) (by decide) (by decide) hs ha (fun s => rfl) fun g s σ H d v Q R1 A1 h => ?_
  obtain ⟨dd, i1, h⟩ := look_out R1 A1 h
  cases dd <;> first | exact h.elim | skip
  · rename_i l
    obtain ⟨q, vs, rfl, f1, ⟨hz, _⟩, f2⟩ := i1
    obtain ⟨k, hk, h5⟩ := out_some (f := fun r => Sl.ow (.lst r)) h
    unfold sortD at hk
    cases e : intsD l with
    | some ns =>
      rw [e] at hk
      cases hk
      obtain ⟨rfl, rfl⟩ := intsD_ok e f2
      refine .inl ⟨q, ns, rfl, f1, fun ms o hp hsr ho => ?_⟩
      rw [srtI_uniq hp hsr]
      exact Out.newL R1 h5 ho (by rw [List.length_map, (srtI_perm ns).length_eq, ← List.length_map (f := D.int)]; exact hz) (isL_ints _)
    | none =>
      rw [e] at hk
      obtain ⟨ss, hs2, hk⟩ := Option.bind_eq_some_iff.mp hk
      split at hk
      · rename_i h64
        cases hk
        obtain ⟨rfl, rfl⟩ := strsD_ok hs2 f2
        refine .inr (.inl ⟨q, ss, rfl, f1, h64, fun ms o hp hsr ho => ?_⟩)
        rw [srtS_uniq hp hsr]
        exact Out.newL R1 h5 ho (by rw [List.length_map, (srtS_perm ss).length_eq]; exact len64 h64) (isL_strs _)
      · cases hk
  · rename_i l
    obtain ⟨q, kvs, rfl, f1, f2⟩ := i1
    have h : Out (zx X cls fnm) W σ g s H (ofO (if l.length < 64 then (sortD (l.map (·.1))).map fun r => Sl.ow (.lst r) else none) s) (PV (zx X cls fnm) σ Q) := h
    by_cases h64 : l.length < 64
    case neg => rw [if_neg h64] at h; exact h.elim
    rw [if_pos h64] at h
    obtain ⟨k, hk, h5⟩ := out_some (f := fun r => Sl.ow (.lst r)) h
    unfold sortD at hk
    cases e : intsD (l.map (·.1)) with
    | some ns =>
      rw [e] at hk
      cases hk
      have hn : ns.length < 64 := by rw [intsD_len e, List.length_map]; exact h64
      refine .inr (.inr (.inl ⟨q, kvs, ns, rfl, f1, keysI e f2, hn, fun ms o hp hsr ho => ?_⟩))
      rw [srtI_uniq hp hsr]
      exact Out.newL R1 h5 ho (by rw [List.length_map, (srtI_perm ns).length_eq]; exact len64 hn) (isL_ints _)
    | none =>
      rw [e] at hk
      obtain ⟨ss, hs2, hk⟩ := Option.bind_eq_some_iff.mp hk
      split at hk
      · rename_i hn
        cases hk
        refine .inr (.inr (.inr ⟨q, kvs, ss, rfl, f1, keysS hs2 f2, hn, fun ms o hp hsr ho => ?_⟩))
        rw [srtS_uniq hp hsr]
        exact Out.newL R1 h5 ho (by rw [List.length_map, (srtS_perm ss).length_eq]; exact len64 hn) (isL_strs _)
      · cases hk
end
end Pm
namespace Pm
open PySem PySem.Spec PyProof.Rows L2 RZ
open PySem.W (Frag)
section
variable {X : Cx} {cls : Nat → Addr} {fnm : Fnm} {T : Tab} {W : WX} {a b c : E} {x y z tg : Expr} {pos pos' : Pos} {es : List E} {xs : List Expr}
variable {Z : Zx} {g g' g1 g2 : Gh} {s s' s1 s2 : S} {σ σ' σ1 σ2 : L2.St} {H H' H1 H2 : Hp} {d e : D} {v u : V} {Q : VK}
theorem ks_setC {i : Nat} {n : Str} (hN : X.N.Nodup) (hi : X.N[i]? = some n) (hx : Loc X.env.scope n) (hf : X.fn n = true ∨ X.env.scope.names.lookup n = some .local) (hs : swapsWith x (some (.Name n pos')) pos.line X.env = pure false) (ha : KE X cls fnm T W a x) : KS X cls fnm T W (.asg (.var i) a) (.Assign [.Name n pos'] x pos) :=
  ks_setK hi (ps_set hN hi hx ha hs hf) (fun _ _ _ q => q) (List.getElem?_eq_some_iff.mp hi).1
theorem ps_setDc {i : Nat} {n : Str} {p0 : Pos} {kx vx tg iter : Expr} {ifx : List Expr} {scope : Scope} {ow : List (Str × Nat)} {ps sp : Pos} {wi : TI} {gg : TG} {tt : TT} {tk tv : TE} (hc : X.calm = true) (hN : X.N.Nodup) (hy : X.N[i]? = some n) (hyl : X.env.scope.names.lookup n = some .local)
    (hsw : swapsWith (.DictComp kx vx [⟨tg, iter, ifx, 0⟩] scope ps) (some (.Name n p0)) sp.line X.env = pure true) (hi : PI X tg iter wi) (ok : BlkOk X.N X.env.scope scope ow)
    (hg : ∀ (s : Shared) (H : Hp) (C : Addr) (cl : List (Str × Addr)) (fp : List Addr), PG (X.blk s H scope (compEnvC scope cl C X.env) fp) tg gg)
    (ht : ∀ (s : Shared) (H : Hp) (C : Addr) (cl : List (Str × Addr)) (fp : List Addr), PTs (X.blk s H scope (compEnvC scope cl C X.env) fp) ifx tt)
    (hk : ∀ (s : Shared) (H : Hp) (C : Addr) (cl : List (Str × Addr)) (fp : List Addr), PE (X.blk s H scope (compEnvC scope cl C X.env) fp) kx tk)
    (he : ∀ (s : Shared) (H : Hp) (C : Addr) (cl : List (Str × Addr)) (fp : List Addr), PE (X.blk s H scope (compEnvC scope cl C X.env) fp) vx tv) (hs : ∀ x, foldedSetIterable iter X.env x = pure x) :
    PS X (.Assign [.Name n p0] (.DictComp kx vx [⟨tg, iter, ifx, 0⟩] scope ps) sp) (tAsg (tDc wi gg tt tk tv (ow.map (·.2))) (gName i)) := by
  refine ⟨fun pins s σ H D I h => ?_⟩
  rw [exec_Assign_Name_used _ _ _ _ hsw]
  refine wpAny_bind (wpAny_standAt (wpAny_bind ?_))
  show wpAny _ X.A (do let _ ← comprehension (.DictComp kx vx [⟨tg, iter, ifx, 0⟩] scope ps) scope X.env (firstIterPos [⟨tg, iter, ifx, 0⟩] ps) newDict false (eval iter X.env) (some (assign (.Name n p0) X.env))) _ _ s
  have h : tDc wi gg tt tk tv (ow.map (·.2)) σ H (fun x H1 => gName i x σ H1 D.nx) := h
  refine wpAny_bind (thn (dc_core (Qf := fun _ s' => SP X pins D .next s') hc hN I hi ok hg ht hk he hs h fun M C s' m H' I' q nn f => ?_) fun _ s' hq => wpAny_pure (wpAny_pure hq))
  show wpAny _ _ (assign (.Name n p0) X.env (.ref M)) _ _ _
  refine wpAny_assign_Name (store_ok2 (v := V.ref M) I' hN hy (.inl hyl) rfl (fun s2 I2 ⟨a, sb, hk2⟩ => ?_) (.inr hyl))
  obtain ⟨f0, f1, f2, f3, f4, f5⟩ := f
  have ne : C ≠ a := by
    rcases hk2 with z | z
    · rw [z]; exact f1
    · exact fun e => f4 n a z e.symm
  exact ⟨m, nn.sameBut sb ne, fun h3 sb3 => ⟨_, H', I2.turned (t' := s2.toks) (fun b o hb e => (sb3.2 b hb).trans e) f0 f1 f3 f4 f5, q⟩⟩
theorem dc_rd {ow : List (Str × Nat)} {ke ve : E} {tgt : Tg} {k : Ik} {ifs : Option E} (hv : ∀ i ∈ tgt.slots, i ∈ ow.map (·.2)) : ∀ σ H Q, RE X cls fnm T W (.dc (ow.map (·.2)) ke ve tgt k a b ifs) σ H Q →
    tDc (rdI (zx X cls fnm) T W k a b) (rdG (zx X cls fnm) tgt) (rdTs (zx X cls fnm) T ifs) (rdE (zx X cls fnm) T W0 ke) (rdE (zx X cls fnm) T W0 ve) (ow.map (·.2)) σ H Q :=
  fun σ H Q ⟨g, s, R1, h⟩ => by
    rw [ev_dc] at h
    exact ⟨g, s, R1, h.bind.mono fun items g1 s1 H1 ex R' F' q J w => dc_run hv R' w (q.later F'.drop)⟩
theorem ks_setDc {ke ve : E} {kx vx : Expr} {tgt : Tg} {k : Ik} {ifs : Option E} {ifx : List Expr} {iter : Expr} {scope : Scope} {ow : List (Str × Nat)} {i : Nat} {n : Str} {py spos : Pos} (hc : X.calm = true) (hN : X.N.Nodup) (hy : X.N[i]? = some n) (hyl : X.env.scope.names.lookup n = some .local)
    (hsw : swapsWith (.DictComp kx vx [⟨tg, iter, ifx, 0⟩] scope pos) (some (.Name n py)) spos.line X.env = pure true) (hi : KI X cls fnm T W k a b tg iter) (ok : BlkOk X.N X.env.scope scope ow) (hv : ∀ i ∈ tgt.slots, i ∈ ow.map (·.2))
    (hg : ∀ (s : Shared) (H : Hp) (C : Addr) (cl : List (Str × Addr)) (fp : List Addr), KG (X.blk s H scope (compEnvC scope cl C X.env) fp) cls fnm tgt tg)
    (ht : ∀ (s : Shared) (H : Hp) (C : Addr) (cl : List (Str × Addr)) (fp : List Addr), PTs (X.blk s H scope (compEnvC scope cl C X.env) fp) ifx (rdTs (zx X cls fnm) T ifs))
    (hk : ∀ (s : Shared) (H : Hp) (C : Addr) (cl : List (Str × Addr)) (fp : List Addr), KE (X.blk s H scope (compEnvC scope cl C X.env) fp) cls fnm T W0 ke kx)
    (he : ∀ (s : Shared) (H : Hp) (C : Addr) (cl : List (Str × Addr)) (fp : List Addr), KE (X.blk s H scope (compEnvC scope cl C X.env) fp) cls fnm T W0 ve vx) (hs : ∀ x, foldedSetIterable iter X.env x = pure x) :
    KS X cls fnm T W (.asg (.var i) (.dc (ow.map (·.2)) ke ve tgt k a b ifs)) (.Assign [.Name n py] (.DictComp kx vx [⟨tg, iter, ifx, 0⟩] scope pos) spos) :=
  ks_setK hy (ps_setDc (gg := rdG (zx X cls fnm) tgt) (tk := rdE (zx X cls fnm) T W0 ke) (tv := rdE (zx X cls fnm) T W0 ve) hc hN hy hyl hsw hi ok (fun s H C cl fp => hg s H C cl fp) ht (fun s H C cl fp => hk s H C cl fp) (fun s H C cl fp => he s H C cl fp) hs) (dc_rd hv) (List.getElem?_eq_some_iff.mp hy).1
end
end Pm
namespace Pm
open PySem PySem.Spec PyProof.Rows L2 RZ
open PySem.W (Frag)
section
variable {X : Cx} {cls : Nat → Addr} {fnm : Fnm} {T : Tab} {W : WX} {a b c : E} {x y z tg : Expr} {pos pos' : Pos} {es : List E} {xs : List Expr}
variable {Z : Zx} {g g' g1 g2 : Gh} {s s' s1 s2 : S} {σ σ' σ1 σ2 : L2.St} {H H' H1 H2 : Hp} {d e : D} {v u : V} {Q : VK}
theorem ks_par3 {i j k : Nat} {n m o : Str} {px py pz pt pt2 : Pos} {kt k2 : Nat} (hc : X.calm = true) (hN : X.N.Nodup) (hi : X.N[i]? = some n) (hj : X.N[j]? = some m) (hk : X.N[k]? = some o) (hij : i ≠ j) (hik : i ≠ k) (hjk : j ≠ k)
    (hx : X.env.scope.names.lookup n = some .local) (hy : X.env.scope.names.lookup m = some .local) (hz : X.env.scope.names.lookup o = some .local) (ha : KSL X cls fnm T W [a, b, c] [x, y, z])
    (hw : swappedStores [.Tuple [.Name n px, .Name m py, .Name o pz] kt pt] (.Tuple [x, y, z] k2 pt2) X.env = pure (some [n, m, o])) :
    KS X cls fnm T W (.par [(i, a), (j, b), (k, c)]) (.Assign [.Tuple [.Name n px, .Name m py, .Name o pz] kt pt] (.Tuple [x, y, z] k2 pt2) pos) := by
  refine ⟨fun pins sh σ H En I ⟨g, s, R1, h⟩ => (ps_par3 hc hN hi hj hk hij hik hjk hx hy hz ha hw rfl).run pins sh σ H En I ?_⟩
  unfold Pm.ex at h
  have hl : ∀ q ∈ [i, j, k], q < s.loc.length := fun q hq => by
    rw [R1.len, I.len]
    rcases List.mem_cons.mp hq with rfl | hq
    · exact (List.getElem?_eq_some_iff.mp hi).1
    · rcases List.mem_cons.mp hq with rfl | hq
      · exact (List.getElem?_eq_some_iff.mp hj).1
      · rw [List.mem_singleton.mp hq]
        exact (List.getElem?_eq_some_iff.mp hk).1
  obtain ⟨g', s', R', q⟩ := par_out (n := 3) R1 hl h rfl
  refine ⟨g', s', R', q.mono fun xs g1 s1 H1 ex _ _ k vs V => ?_⟩
  obtain ⟨k1, k2⟩ := k vs V
  match vs, k1, k2 with
  | [u, v, w], _, k2 => exact ⟨u, v, w, rfl, k2⟩
theorem m1_of {m : Str} {apos cpos : Pos} (hb : baseOk x = true) (hl : (apos.endLine == cpos.line) = true) (h1 : starX y = false) : M1 X x m apos y cpos := by
  have e := starEach_plain (r := []) (env := X.env) h1
  refine ⟨attrBase hb, ?_, hl, ?_⟩
  · rw [e]; rfl
  · rw [e]; rfl
theorem m2_of {m : Str} {apos cpos : Pos} (hb : baseOk x = true) (hl : (apos.endLine == cpos.line) = true) (h1 : starX y = false) (h2 : starX z = false) : M2 X x m apos y z cpos := by
  have e := starEach_plain (r := [z]) (env := X.env) h1
  have e2 := starEach_plain (r := []) (env := X.env) h2
  refine ⟨attrBase hb, ?_, hl, ?_⟩
  · rw [e, e2]; rfl
  · rw [e, e2]; rfl
theorem Rel.ext (r : Rel Z g s σ H) (hx : ∀ p o, H p = some o → H' p = some o) : Rel Z g s σ H' ∧ (∀ p, Own g s σ H' p ↔ Own g s σ H p) ∧ Fr σ σ g s H g s H' [] := by
  have fe : ∀ q c x, s.cell q = some c → padr g σ q = some x → (∀ p ∈ foot H x c, H' p = H p) := fun q c x h1 h2 p hp => by
    obtain ⟨x', e1, e2⟩ := r.cell q c h1
    rw [h2] at e1
    cases e1
    obtain ⟨o, ho⟩ := Option.ne_none_iff_exists'.mp (e2.none_foot p hp).2
    rw [ho, hx p o ho]
  have fq : ∀ q c x, s.cell q = some c → padr g σ q = some x → foot H' x c = foot H x c := fun q c x h1 h2 => foot_eq (fe q c x h1 h2)
  have ow : ∀ p, Own g s σ H' p ↔ Own g s σ H p := fun p => by
    constructor
    · rintro ⟨q, c, x, h1, h2, h3⟩
      rw [fq q c x h1 h2] at h3
      exact ⟨q, c, x, h1, h2, h3⟩
    · rintro ⟨q, c, x, h1, h2, h3⟩
      rw [← fq q c x h1 h2] at h3
      exact ⟨q, c, x, h1, h2, h3⟩
  refine ⟨⟨fun p u e => hx p u (r.sub p u e), r.fz, fun q c h => ?_, fun q q' c c' x x' ne h1 h2 h3 h4 p hp => ?_, r.len, r.rdom⟩, ow, ⟨.refl g, fun p o e _ => .inl (hx p o e), fun p _ _ f => f, fun p h => ?_, fun p h => ?_, Nat.le_refl _⟩⟩
  · obtain ⟨x, h1, h2⟩ := r.cell q c h
    exact ⟨x, h1, h2.move (.refl g) (fe q c x h h1) fun p hp => (h2.none_foot p hp).1⟩
  · rw [fq q c x h1 h3] at hp
    rw [fq q' c' x' h2 h4]
    exact r.apart q q' c c' x x' ne h1 h2 h3 h4 p hp
  · rcases h with h | h
    · exact .inr ((ow p).mp h)
    · cases h
  · cases e : H p with
    | none => rfl
    | some o =>
      rw [hx p o e] at h
      cases h
theorem Fr.addF (F : Fr σ σ1 g s H g1 s1 H1 []) {p : Addr} {o : HO} (hp : H1 p = some o) (hn : H p = none) (hf : g1.F p = none) : Fr σ σ1 g s H (g1.add p o) s1 H1 [] := by
  refine ⟨F.le.trans (Gh.add_le hf), F.keep, fun a h n f => ?_, fun a h => F.own a (h.elim (fun z => .inl (own_add.mp z)) .inr), F.mono, F.rl⟩
  show upd g1.F p o a = none
  rw [upd_ne (fun z => h (by rw [z]; exact hn))]
  exact F.fnew a h n f
theorem addPairs : ∀ (ts : List Addr) (kvs : List (Key × V)) (l : List (D × D)) {g1 : Gh}, Rel Z g1 s1 σ1 H1 → Fr σ σ1 g s H g1 s1 H1 [] → IsD Z g1 l kvs → Paired (fun (t : Addr) (q : Key × V) => H1 t = some (.tup [kV q.1, q.2])) ts kvs →
    ts.Nodup → (∀ t ∈ ts, H t = none ∧ g1.F t = none ∧ ¬ Own g1 s1 σ1 H1 t) → ∃ g2, Rel Z g2 s1 σ1 H1 ∧ Fr σ σ1 g s H g2 s1 H1 [] ∧ g1.Le g2 ∧ (∀ a, a ∉ ts → g2.F a = g1.F a) ∧ (∀ a, Own g2 s1 σ1 H1 a ↔ Own g1 s1 σ1 H1 a) ∧ IsL Z g2 (pairL l) (ts.map V.ref)
  | [], [], l, g1, R, F, I, _, _, _ => by
    cases l with
    | nil => exact ⟨g1, R, F, .refl _, fun _ _ => rfl, fun _ => .rfl, rfl⟩
    | cons p r =>
      obtain ⟨_, _, _, e, _⟩ := I
      cases e
  | [], _ :: _, _, _, _, _, _, h, _, _ => by cases h
  | _ :: _, [], _, _, _, _, _, h, _, _ => by cases h
  | t :: ts, kv :: kvs, l, g1, R, F, I, hh, nd, ft => by
    obtain ⟨h1, h2⟩ : H1 t = some (.tup [kV kv.1, kv.2]) ∧ Paired (fun (t : Addr) (q : Key × V) => H1 t = some (.tup [kV q.1, q.2])) ts kvs := by
      cases hh with
      | cons h1 h2 => exact ⟨h1, h2⟩
    cases l with
    | nil => cases I
    | cons p r =>
      obtain ⟨kd, vd⟩ := p
      obtain ⟨k, v, ws, e1, e2, e3, e4⟩ := I
      cases e1
      obtain ⟨n1, n2⟩ := List.nodup_cons.mp nd
      obtain ⟨f1, f2, f3⟩ := ft t List.mem_cons_self
      have R2 := R.addF h1 f2 f3
      have F2 := F.addF h1 f1 f2
      have Lq := Gh.add_le (o := .tup [kV k, v]) f2
      obtain ⟨g2, R3, F3, L3, o3, w3, i3⟩ := addPairs ts kvs r R2 F2 (IsD.mono Lq _ _ e4) h2 n2 fun q hq => by
        obtain ⟨k1, k2, k3⟩ := ft q (List.mem_cons_of_mem _ hq)
        refine ⟨k1, ?_, fun z => k3 (own_add.mp z)⟩
        show upd g1.F t _ q = none
        rw [upd_ne (fun z => n1 (by rw [← z]; exact hq))]
        exact k2
      have et : g2.F t = some (.tup [kV k, v]) := by
        rw [o3 t n1]
        exact upd_same
      refine ⟨g2, R3, F3, Lq.trans L3, fun a ha => ?_, fun a => (w3 a).trans own_add, .ref t, ts.map V.ref, rfl, ⟨t, [kV k, v], rfl, SqT.of et, kV k, [v], rfl, ?_, v, [], rfl, Is.mono (Lq.trans L3) _ _ e3, rfl⟩, i3⟩
      · rw [o3 a (fun z => ha (List.mem_cons_of_mem _ z))]
        show upd g1.F t _ a = _
        rw [upd_ne (fun z => ha (by rw [z]; exact List.mem_cons_self))]
      · cases kd <;> first | (cases e2; done) | (cases e2; rfl)
theorem dk_all {pins : List (Addr × Obj)} {p : Addr} {kvs : List (Key × V)} {sh : Shared} (I : L2.Inv X pins σ H sh) (h : Rd H p (.dK kvs)) : kvs.length ≤ sizeLine ∧ (p == sysModules) = false ∧ ∃ vs, KV kvs vs ∧ sh.heap.DictOf (mixKind X.prog X.w) p vs := by
  obtain ⟨z, lo, vs, rel, dd⟩ := dk_rd I.hok h
  exact ⟨z, lo, vs, rel, dd⟩
def tItems (te : TE) : TE := fun σ H Q => te σ H fun x H1 => ∃ (p : Addr) (kvs : List (Key × V)), x = .ref p ∧ Rd H1 p (.dK kvs) ∧
  ∀ (H' : Hp) (q : Addr) (ts : List Addr), (∀ b o, H1 b = some o → H' b = some o) → H1 q = none → (∀ t ∈ ts, H1 t = none) → q ∉ ts → ts.Nodup → ts.length ≤ sizeLine → H' q = some (.lst (ts.map V.ref)) → Paired (fun (t : Addr) (q : Key × V) => H' t = some (.tup [kV q.1, q.2])) ts kvs → Q (.ref q) H'
theorem pe_items1 {te : TE} {p apos cpos : Pos} (hc : X.calm = true) (he : PE X x te) (hg : Gl X "list") (hm : X.mg "list" = none) (hbase : attributeBase x "items" X.env (eval x X.env) = eval x X.env) (hline : (apos.endLine == cpos.line) = true) :
    PE X (.Call (.Name "list" p) [.Call (.Attribute x "items" apos) [] [] cpos] [] pos) (tItems te) := by
  have se : starEach [.Call (.Attribute x "items" apos) [] [] cpos] X.env = (false, eval (.Call (.Attribute x "items" apos) [] [] cpos) X.env) :: starEach [] X.env := starEach_plain rfl
  have hv : bootBuiltins "list" = some (.type "list") := by decide +kernel
  refine ⟨fun pins s σ H Q I h0 => ?_⟩
  refine wpAny_Call_Name_kw (ld_blt I hg hm hv ?_)
  refine PyProof.Rows.callWith_type1 ?_ se rfl
  rw [se]
  refine Calls.spliced_cons (rest := backTo pos (starEach [] X.env)) ?_
  refine wpAny_Call_method (T := "dict") (id := "dict.items") hbase rfl hline F.plainAttrs_dict F.slot_dict_items F.type_dict_items (thn (he.run pins s σ H _ I h0) fun u1 t1 ⟨y, K1, J1, ry, p1, kv1, ey, hd, q⟩ => ?_)
  subst ey
  obtain rfl : u1 = Value.ref p1 := ry
  obtain ⟨hz, hs0, vs, kv, hdo⟩ := dk_all J1 hd
  obtain ⟨ep, hat⟩ := hdo.dictAt
  have lk : kv1.length = vs.length := Paired.length kv
  have J2 : L2.Inv X pins σ K1 { t1 with heap := t1.heap.push { cls := .type "dict_items", data := .fields #[.ref p1] } } := J1.kept (t' := t1.toks) fun b ob q => Heap.get?_push_of_some _ q
  refine ⟨hdo.typeIs, hdo.mapOf.noDict, ?_⟩
  show wpAny _ _ (callWith cpos (.builtin "dict.items") [.ref p1] [] []) _ X.xe t1
  refine method_meetsIn F.slot_dict_items F.entry_dict_items rfl (PySem.evalArgs_none ⟨rfl, hdo.typeIs, F.args_dict_items_1 _, _, meets_dict_items (mixKind X.prog X.w) p1 hs0, ⟨vs, hdo⟩, ?_⟩)
  refine Calls.spliced_nil ?_
  refine PySem.W.kdx_call (knd := mixKind X.prog X.w) (kvs := vs) (ep := ep) (J1.ok.hd hc) ⟨_, Heap.get?_push_size _ rfl, rfl, rfl⟩ (hat.push _) (by omega) fun h' tk acc cc as hk hS hl hG hacc => ?_
  obtain ⟨H', k1, k2, k3, k4, k5, k6, J⟩ := LiI.items_laid (tk := tk) J2 hz kv hk hS hl hG hacc
  exact ⟨.ref _, H', J, rfl, q H' _ as k1 k2 k3 k4 (List.Pairwise.imp (fun {a b} (h : a < b) => Nat.ne_of_lt h) hG.rise) (by rw [hl, ← lk]; exact hz) k5 k6⟩
theorem paired_len {α β : Type} {F : α → β → Prop} : ∀ {xs : List α} {ys : List β}, Paired F xs ys → xs.length = ys.length
  | _, _, .nil => rfl
  | _, _, .cons _ t => by rw [List.length_cons, List.length_cons, paired_len t]
theorem dct_of_prim {p1 : P1} (hp : p1 = .listItems ∨ p1 = .listValues) {dd : D} (h : Out Z W σ g s H (ofO (prim1 p1 dd) s) (PV Z σ Q)) : ∃ l, dd = .dct l := by
  cases dd <;> first | (rcases hp with rfl | rfl <;> exact h.elim) | exact ⟨_, rfl⟩
theorem ke_listItems {p apos cpos : Pos} (hc : X.calm = true) (hg : Gl X "list") (hm : X.mg "list" = none) (hb : baseOk x = true) (hl : (apos.endLine == cpos.line) = true) (ha : KR X cls fnm T W a x) :
    KE X cls fnm T W (.p1 .listItems a) (.Call (.Name "list" p) [.Call (.Attribute x "items" apos) [] [] cpos] [] pos) := by
  refine PE.weak (pe_items1 hc ha hg hm (attrBase hb) hl) fun σ H Q ⟨g, s, R1, h⟩ => ?_
  unfold ev at h
  refine seqR R1 h fun rf v g2 s2 H2 R2 A2 _ _ h2 => ?_
  obtain ⟨dd, i1, h2⟩ := look_out R2 A2 h2
  obtain ⟨l, rfl⟩ := dct_of_prim (.inl rfl) h2
  obtain ⟨q, kvs, rfl, f1, f2⟩ := i1
  refine ⟨q, kvs, rfl, f1, fun H' o ts hx ho ht no nd hz0 hq hp => ?_⟩
  obtain ⟨R3, ow, F3⟩ := R2.ext hx
  obtain ⟨fo, no2⟩ := R2.free ho
  obtain ⟨g3, R4, F4, L4, o4, w4, i4⟩ := addPairs ts kvs l R3 F3 f2 hp nd fun t m => ⟨ht t m, (R2.free (ht t m)).1, fun z => (R2.free (ht t m)).2 ((ow t).mp z)⟩
  have hz : (pairL l).length ≤ sizeLine := by
    rw [← isL_len i4, List.length_map]
    exact hz0
  have hn : g3.F o = none := by rw [o4 o no]; exact fo
  have hc4 : CellAt (zx X cls fnm) g3 H' o (.lst (pairL l)) := ⟨hn, ts.map V.ref, hq, hz, i4⟩
  have h2 : Out (zx X cls fnm) W σ g2 s2 H2 (.ok (.ow (.lst (pairL l))) s2) (PV (zx X cls fnm) σ Q) := h2
  refine h2 g3 H' [o] R4 ⟨F4.le, F4.keep, F4.fnew, fun a z => ?_, F4.mono, F4.rl⟩ _ ⟨o, rfl, hc4, rfl, fun a ha => ?_, rfl⟩
  · rcases z with z | z
    · exact F4.own a (.inl z)
    · rw [List.mem_singleton.mp z]; exact .inl ho
  · rw [List.mem_singleton.mp ha]
    exact fun z => no2 ((ow o).mp ((w4 o).mp z))
theorem vals_at {vs : List (Key × Value)} {kvs : List (Key × V)} (h : KV kvs vs) {us : List Value} (hl : us.length = vs.length) (ht : ∀ (j : Nat) (v : Value), us[j]? = some v → ∃ k, vs[j]? = some (k, v)) : Vals (kvs.map (·.2)) us := by
  induction h generalizing us with
  | nil =>
    cases us with
    | nil => exact .nil
    | cons _ _ => cases hl
  | cons h1 h2 ih =>
    cases us with
    | nil => cases hl
    | cons u us =>
      obtain ⟨k, hk⟩ := ht 0 u rfl
      have e := Option.some.inj hk
      refine .cons ?_ (ih (by simpa using hl) fun j v e => by simpa using ht (j + 1) v (by simpa using e))
      have h3 := h1.2
      rw [e] at h3
      exact h3
def tVals (te : TE) : TE := fun σ H Q => te σ H fun x H1 => ∃ (p : Addr) (kvs : List (Key × V)), x = .ref p ∧ Rd H1 p (.dK kvs) ∧ (kvs.length ≤ sizeLine → ∀ q, H1 q = none → Q (.ref q) (upd H1 q (.lst (kvs.map (·.2)))))
theorem pe_vals1 {te : TE} {p apos cpos : Pos} (hc : X.calm = true) (he : PE X x te) (hg : Gl X "list") (hm : X.mg "list" = none) (hbase : attributeBase x "values" X.env (eval x X.env) = eval x X.env) (hline : (apos.endLine == cpos.line) = true) :
    PE X (.Call (.Name "list" p) [.Call (.Attribute x "values" apos) [] [] cpos] [] pos) (tVals te) := by
  have se : starEach [.Call (.Attribute x "values" apos) [] [] cpos] X.env = (false, eval (.Call (.Attribute x "values" apos) [] [] cpos) X.env) :: starEach [] X.env := starEach_plain rfl
  have hv : bootBuiltins "list" = some (.type "list") := by decide +kernel
  refine ⟨fun pins s σ H Q I h0 => ?_⟩
  refine wpAny_Call_Name_kw (ld_blt I hg hm hv ?_)
  refine PyProof.Rows.callWith_type1 ?_ se rfl
  rw [se]
  refine Calls.spliced_cons (rest := backTo pos (starEach [] X.env)) ?_
  refine wpAny_Call_method (T := "dict") (id := "dict.values") hbase rfl hline F.plainAttrs_dict F.slot_dict_values F.type_dict_values (thn (he.run pins s σ H _ I h0) fun u1 t1 ⟨y, K1, J1, ry, p1, kv1, ey, hd, q⟩ => ?_)
  subst ey
  obtain rfl : u1 = Value.ref p1 := ry
  obtain ⟨hz, hs0, vs, kv, hdo⟩ := dk_all J1 hd
  obtain ⟨ep, hat⟩ := hdo.dictAt
  have lk : kv1.length = vs.length := Paired.length kv
  have J2 : L2.Inv X pins σ K1 { t1 with heap := t1.heap.push { cls := .type "dict_values", data := .fields #[.ref p1] } } := J1.kept (t' := t1.toks) fun b ob q => Heap.get?_push_of_some _ q
  refine ⟨hdo.typeIs, hdo.mapOf.noDict, ?_⟩
  show wpAny _ _ (callWith cpos (.builtin "dict.values") [.ref p1] [] []) _ X.xe t1
  refine method_meetsIn F.slot_dict_values F.entry_dict_values rfl (PySem.evalArgs_none ⟨rfl, hdo.typeIs, F.args_dict_values_1 _, _, meets_dict_values (mixKind X.prog X.w) p1 hs0, ⟨vs, hdo⟩, ?_⟩)
  refine Calls.spliced_nil ?_
  refine PySem.W.kdl_call (PySem.W.kdl_values (knd := mixKind X.prog X.w) (kvs := vs) (ep := ep)) (J1.ok.hd hc) ⟨⟨_, Heap.get?_push_size _ rfl, rfl, rfl⟩, hat.push _⟩ (by omega) fun h' tk acc cc hk hS hacc => ?_
  have hvl : Vals (kv1.map (·.2)) acc.toList := vals_at kv (by rw [Array.length_toList]; exact hacc.1) fun j v e => hacc.2 j v (by rw [← Array.getElem?_toList]; exact e)
  exact ⟨.ref _, upd K1 _ (.lst (kv1.map (·.2))), J2.laid (t' := tk) hk (Nat.le_refl _) (show ObjOk X.prog X.w _ _ _ (.lst (kv1.map (·.2))) from ⟨by rw [List.length_map]; exact hz, acc.toList, cc, hvl, by rw [Array.toArray_toList]; exact hS⟩), rfl, q hz _ (J2.hok.fresh (Nat.le_refl _))⟩
theorem isD_vals : ∀ {l : List (D × D)} {kvs : List (Key × V)}, IsD Z g l kvs → IsL Z g (l.map (·.2)) (kvs.map (·.2))
  | [], _, e => by cases e; rfl
  | (k, d) :: r, _, ⟨q, v, ws, e1, _, e2, e3⟩ => by
    subst e1
    exact ⟨v, _, rfl, e2, isD_vals e3⟩
theorem ke_listValues {p apos cpos : Pos} (hc : X.calm = true) (hg : Gl X "list") (hm : X.mg "list" = none) (hb : baseOk x = true) (hl : (apos.endLine == cpos.line) = true) (ha : KR X cls fnm T W a x) :
    KE X cls fnm T W (.p1 .listValues a) (.Call (.Name "list" p) [.Call (.Attribute x "values" apos) [] [] cpos] [] pos) := by
  refine PE.weak (pe_vals1 hc ha hg hm (attrBase hb) hl) fun σ H Q ⟨g, s, R1, h⟩ => ?_
  unfold ev at h
  refine seqR R1 h fun rf v g2 s2 H2 R2 A2 _ _ h2 => ?_
  obtain ⟨dd, i1, h2⟩ := look_out R2 A2 h2
  obtain ⟨l, rfl⟩ := dct_of_prim (.inr rfl) h2
  obtain ⟨q, kvs, rfl, f1, f2⟩ := i1
  have h2 : Out (zx X cls fnm) W σ g2 s2 H2 (.ok (.ow (.lst (l.map (·.2)))) s2) (PV (zx X cls fnm) σ Q) := h2
  exact ⟨q, kvs, rfl, f1, fun hz o ho => Out.newL R2 h2 ho (by rw [List.length_map, ← isD_len f2]; exact hz) (isD_vals f2)⟩
end
end Pm
namespace Pm
open PySem PySem.Spec PyProof.Rows L2 RZ
open PySem.W (Frag)
structure Tb where
  fn : List (Str × Nat)
  cls : List (Str × Nat)
  glob : List (Str × Nat)
  free : List Str
  fld : List Str
  meth : List Str
  prop : List Str
  exf : List (Nat × List Nat)
  exc : List Nat
structure Sc where
  N : List Str
  scope : Scope
  hot : Bool
  blk : Bool
  cel : Str → Bool
def Sc.vis (sc : Sc) (n : Str) : Bool := match sc.scope.names.lookup n with
  | some .local => true
  | some .cell => true
  | some .free => true
  | _ => false
def Sc.own (sc : Sc) (n : Str) : Bool := match sc.scope.names.lookup n with
  | some .local => true
  | some .cell => sc.cel n
  | _ => false
def Sc.gl (sc : Sc) (n : Str) : Bool := match sc.scope.names.lookup n with
  | some .globalImplicit => true
  | _ => false
def Sc.lc (sc : Sc) (n : Str) : Bool := match sc.scope.names.lookup n with
  | some .local => true
  | _ => false
def Sc.ndb (n : Str) : Bool := !(n == ("__debug__" : Str)) && !(n == ("__classdict__" : Str))
structure Ck where
  e : Sc → E → Expr → Bool
  t : Sc → E → Expr → Bool
  g : Sc → Tg → Expr → Bool
  s : Sc → St → Stmt → Bool
def Ck.no : Ck := ⟨fun _ _ _ => false, fun _ _ _ => false, fun _ _ _ => false, fun _ _ _ => false⟩
def ckV (sc : Sc) (i : Nat) : Expr → Bool
  | .Name n _ => decide (sc.N[i]? = some n) && sc.vis n && Sc.ndb n
  | _ => false
def ckL (c : E → Expr → Bool) : List E → List Expr → Bool
  | [], [] => true
  | .star a :: es, .Starred x _ :: xs => c a x && ckL c es xs
  | a :: es, x :: xs => !a.isStar && !starX x && c a x && ckL c es xs
  | _, _ => false
def ckR (c : Sc → E → Expr → Bool) (sc : Sc) (a : E) (x : Expr) : Bool := match a with
  | .var i => ckV sc i x
  | a => c sc a x
def ckO (c : E → Expr → Bool) : Option E → Option Expr → Bool
  | none, none => true
  | some a, some x => c a x
  | _, _ => false
def noStars (xs : List Expr) : Bool := xs.all fun x => !starX x
def blt (tb : Tb) (sc : Sc) (n m : Str) : Bool := decide (n = m) && sc.gl m && tb.free.contains m
def ckC (tb : Tb) (c : Ck) (sc : Sc) (e : E) (x : Expr) : Bool := match e, x with
  | .cmp .eq a b, .Compare x [.Eq] [y] _ => c.e sc a x && c.e sc b y
  | .cmp .ne a b, .Compare x [.NotEq] [y] _ => c.e sc a x && c.e sc b y
  | .cmp .lt a b, .Compare x [.Lt] [y] _ => c.e sc a x && c.e sc b y
  | .cmp .le a b, .Compare x [.LtE] [y] _ => c.e sc a x && c.e sc b y
  | .cmp .gt a b, .Compare x [.Gt] [y] _ => c.e sc a x && c.e sc b y
  | .cmp .ge a b, .Compare x [.GtE] [y] _ => c.e sc a x && c.e sc b y
  | .oeq a b, .Compare x [.Eq] [y] _ => !sc.hot && c.e sc a x && c.e sc b y
  | .isN a, .Compare x [.Is] [.Constant .none _ _] _ => c.e sc a x
  | .isnN a, .Compare x [.IsNot] [.Constant .none _ _] _ => c.e sc a x
  | .has false a b, .Compare x [.In] [y] _ => notSet y && c.e sc a x && ckR c.e sc b y
  | .has true a b, .Compare x [.NotIn] [y] _ => notSet y && c.e sc a x && ckR c.e sc b y
  | .chain a b d, .Compare x [.LtE, .LtE] [y, z] _ => c.e sc a x && c.e sc b y && c.e sc d z
  | _, _ => false
def ckI (tb : Tb) (c : Ck) (sc : Sc) (k : Ik) (a b : E) (tg x : Expr) : Bool := match k, x with
  | .seq, x => c.e sc a x
  | .items, .Call (.Attribute x m apos) [] [] pos => decide (m = "items") && baseOk x && (apos.endLine == pos.line) && c.e sc a x && (match tg with
    | .Tuple _ _ _ => true
    | _ => false)
  | .values, .Call (.Attribute x m apos) [] [] pos => decide (m = "values") && baseOk x && (apos.endLine == pos.line) && c.e sc a x
  | .rng1, .Call (.Name n _) [x] [] _ => blt tb sc n "range" && !starX x && c.e sc a x
  | .rng2, .Call (.Name n _) [x, y] [] _ => blt tb sc n "range" && !starX x && !starX y && c.e sc a x && c.e sc b y
  | .enum, .Call (.Name n _) [x] [] _ => blt tb sc n "enumerate" && !starX x && c.e sc a x && (match tg with
    | .Tuple _ _ _ => true
    | _ => false)
  | .zip, .Call (.Name n _) [x, y] [] _ => blt tb sc n "zip" && !starX x && !starX y && c.e sc a x && c.e sc b y && (match tg with
    | .Tuple _ _ _ => true
    | _ => false)
  | .zipK, .Call (.Name n _) [x, y] [] _ => blt tb sc n "zip" && !starX x && !starX y && c.e sc a x && c.e sc b y && (match tg with
    | .Tuple _ _ _ => true
    | _ => false)
  | _, _ => false
def owOf (sc : Sc) (own : List Nat) : List (Str × Nat) := own.map fun i => (sc.N.getD i Str.empty, i)
def relab (scope outer : Scope) : Scope := { scope with names := scope.names.map fun (n, k) => if (k == .free && outer.kind == .function && outer.names.lookup n == some .cell) then (n, .cell) else (n, k) }
def Sc.in_ (sc : Sc) (scope : Scope) : Sc := { sc with scope := relab scope sc.scope, blk := true, cel := fun x => scope.names.lookup x == some .cell }
def ckComp (tb : Tb) (c : Ck) (sc : Sc) (own : List Nat) (tg : Tg) (k : Ik) (a b : E) (ifs : Option E) (tx iter : Expr) (ifx : List Expr) (scope : Scope) : Bool :=
  !sc.hot && ckI tb c sc k a b tx iter && notSet iter && blkC sc.N sc.scope scope (owOf sc own) && (tg.slots.all fun i => own.contains i) && c.g (sc.in_ scope) tg tx && (match ifs, ifx with
    | none, [] => true
    | some f, [fx] => c.t (sc.in_ scope) f fx
    | _, _ => false)
def p1Name : P1 → Option String
  | .len => some "len"
  | .list => some "list"
  | .tuple => some "tuple"
  | .dict => some "dict"
  | .int => some "int"
  | .sum => some "sum"
  | .any => some "any"
  | .all => some "all"
  | .max => some "max"
  | .sorted => some "sorted"
  | _ => none
def ckE (tb : Tb) (c : Ck) (sc : Sc) (e : E) (x : Expr) : Bool := match e with
  | .var i => ckV sc i x
  | .cst d => (match d, x with
    | .int i, .Constant (.int j) _ _ => decide (i = j)
    | .bl i, .Constant (.bool j) _ _ => decide (i = j)
    | .non, .Constant .none _ _ => true
    | .str i, .Constant (.str j) _ _ => decide (i = j)
    | .int i, .BinOp (.Constant (.int j) _ _) .Pow (.Constant (.int k) _ _) _ => decide (i = j ^ k.toNat) && decide (0 ≤ j ∧ j < 1000 ∧ 0 ≤ k ∧ k < 60)
    | _, _ => false)
  | .glob k => (match x with
    | .Name n _ => sc.gl n && decide (tb.glob.lookup n = some k) && Sc.ndb n
    | _ => false)
  | .tup l => (match x with
    | .Tuple xs _ _ => ckL (c.e sc) l xs
    | _ => false)
  | .lst l => (match x with
    | .List xs _ => ckL (c.e sc) l xs
    | _ => false)
  | .dct0 => (match x with
    | .Dict [] [] _ => true
    | _ => false)
  | .dctOver a k v => (match x with
    | .Dict [none, some y] [x, z] _ => ckR c.e sc a x && c.e sc k y && c.e sc v z
    | _ => false)
  | .bin op a b => (match op, x with
    | .add, .BinOp x .Add y _ => c.e sc a x && c.e sc b y
    | .sub, .BinOp x .Sub y _ => c.e sc a x && c.e sc b y
    | .mul, .BinOp x .Mult y _ => c.e sc a x && c.e sc b y
    | .fdiv, .BinOp x .FloorDiv y _ => c.e sc a x && c.e sc b y
    | .mod, .BinOp x .Mod y _ => c.e sc a x && c.e sc b y
    | _, _ => false)
  | .addL a b => (match x with
    | .BinOp x .Add y _ => ckR c.e sc a x && c.e sc b y
    | _ => false)
  | .neg a => (match x with
    | .UnaryOp .USub x _ => c.e sc a x
    | _ => false)
  | .not_ a => (match x with
    | .UnaryOp .Not x _ => c.e sc a x
    | _ => false)
  | .and_ a b => (match x with
    | .BoolOp .And (x :: y :: r) p => c.e sc a x && (match r with
      | [] => c.e sc b y
      | r => c.e sc b (.BoolOp .And (y :: r) p))
    | _ => false)
  | .or_ a b => (match x with
    | .BoolOp .Or (x :: y :: r) p => c.e sc a x && (match r with
      | [] => c.e sc b y
      | r => c.e sc b (.BoolOp .Or (y :: r) p))
    | _ => false)
  | .ife q a b => (match x with
    | .IfExp z x y _ => c.t sc q z && c.e sc a x && c.e sc b y
    | _ => false)
  | .ix a b => (match x with
    | .Subscript x y _ => plainI y && ckR c.e sc a x && c.e sc b y
    | _ => false)
  | .sl a lo hi => (match x with
    | .Subscript x (.Slice l h none _) _ => ckR c.e sc a x && ckO (c.e sc) lo l && ckO (c.e sc) hi h
    | _ => false)
  | .fld a f => (match x with
    | .Attribute x n _ => decide (tb.fld[f]? = some n) && baseOk x && c.e sc a x
    | _ => false)
  | .xfld i f => (match x with
    | .Attribute y n _ => sc.hot && decide (tb.fld[f]? = some n) && ckV sc i y
    | _ => false)
  | .xis i y => (match x with
    | .Call (.Name n _) [v, .Name m _] [] _ => sc.hot && blt tb sc n "isinstance" && sc.gl m && decide (tb.cls.lookup m = some y) && Sc.ndb m && ckV sc i v
    | _ => false)
  | .prop a m => (match x with
    | .Attribute x n _ => !sc.hot && decide (tb.prop[m]? = some n) && baseOk x && c.e sc a x
    | _ => false)
  | .call k l => (match x with
    | .Call (.Name n _) xs [] _ => !sc.hot && sc.gl n && decide (tb.fn.lookup n = some k) && Sc.ndb n && noStars xs && ckL (c.e sc) l xs
    | _ => false)
  | .new k l => (match x with
    | .Call (.Name n _) xs [] _ => !sc.hot && sc.gl n && decide (tb.cls.lookup n = some k) && Sc.ndb n && noStars xs && ckL (c.e sc) l xs
    | _ => false)
  | .meth a m l => (match x with
    | .Call (.Attribute x n apos) xs [] pos => !sc.hot && decide (tb.meth[m]? = some n) && baseOk x && (apos.endLine == pos.line) && decide (xs.length < 30) && noStars xs && c.e sc a x && ckL (c.e sc) l xs
    | _ => false)
  | .p1 .listItems a => (match x with
    | .Call (.Name n _) [.Call (.Attribute x m apos) [] [] cpos] [] _ => !sc.hot && blt tb sc n "list" && decide (m = "items") && baseOk x && (apos.endLine == cpos.line) && ckR c.e sc a x
    | _ => false)
  | .p1 .listValues a => (match x with
    | .Call (.Name n _) [.Call (.Attribute x m apos) [] [] cpos] [] _ => !sc.hot && blt tb sc n "list" && decide (m = "values") && baseOk x && (apos.endLine == cpos.line) && ckR c.e sc a x
    | _ => false)
  | .olen a m => (match x with
    | .Call (.Name n _) [x] [] _ => !sc.hot && blt tb sc n "len" && decide (tb.meth[m]? = some ("__len__" : Str)) && !starX x && c.e sc a x
    | _ => false)
  | .get a k v => (match x with
    | .Call (.Attribute x m apos) [y, z] [] pos => decide (m = "get") && baseOk x && (apos.endLine == pos.line) && !starX y && !starX z && ckR c.e sc a x && c.e sc k y && c.e sc v z
    | _ => false)
  | .popK a k => (match x with
    | .Call (.Attribute x m apos) [y] [] pos => decide (m = "pop") && baseOk x && (apos.endLine == pos.line) && !starX y && ckR c.e sc a x && c.e sc k y
    | _ => false)
  | .p1 p a => (match x with
    | .Call (.Name n _) [x] [] _ => !sc.hot && (match p1Name p with
      | some m => blt tb sc n (Str.ofString m)
      | none => false) && !starX x && ckR c.e sc a x
    | _ => false)
  | .p2 .max a b => (match x with
    | .Call (.Name n _) [x, y] [] _ => !sc.hot && blt tb sc n "max" && !starX x && !starX y && c.e sc a x && c.e sc b y
    | _ => false)
  | .p2 .zipDict a b => (match x with
    | .Call (.Name n _) [.Call (.Name m _) [x, y] [] _] [] _ => !sc.hot && blt tb sc n "dict" && blt tb sc m "zip" && !starX x && !starX y && c.e sc a x && c.e sc b y
    | _ => false)
  | .isi a t => (match x with
    | .Call (.Name n _) [x, y] [] _ => blt tb sc n "isinstance" && !starX x && c.e sc a x && (match t, y with
      | .cls k, .Name m _ => sc.gl m && decide (tb.cls.lookup m = some k) && Sc.ndb m
      | .tupOrLst, .Tuple [.Name m _, .Name o _] _ _ => blt tb sc m "tuple" && blt tb sc o "list"
      | .tupOrLst, _ => false
      | t, .Name m _ => blt tb sc m (Str.ofString t.nm) && decide (t.nm ≠ "")
      | _, _ => false)
    | _ => false)
  | .place a => c.e sc a x
  | .pop a => (match x with
    | .Call (.Attribute x m apos) [] [] pos => decide (m = "pop") && baseOk x && (apos.endLine == pos.line) && ckR c.e sc a x
    | _ => false)
  | .lc own elt tg k a b ifs => (match x with
    | .ListComp ex [⟨tx, iter, ifx, 0⟩] scope _ => ckComp tb c sc own tg k a b ifs tx iter ifx scope && c.e (sc.in_ scope) elt ex
    | _ => false)
  | .dc own ke ve tg k a b ifs => (match x with
    | .DictComp kx vx [⟨tx, iter, ifx, 0⟩] scope _ => ckComp tb c sc own tg k a b ifs tx iter ifx scope && c.e (sc.in_ scope) ke kx && c.e (sc.in_ scope) ve vx
    | _ => false)
  | e => ckC tb c sc e x
def ckT (tb : Tb) (c : Ck) (sc : Sc) (e : E) (x : Expr) : Bool := match x with
  | .UnaryOp .Not x _ => (match e with
    | .not_ a => c.t sc a x
    | _ => false)
  | .BoolOp .And (x :: y :: r) p => (match e with
    | .and_ a b => c.t sc a x && (match r with
      | [] => c.t sc b y
      | r => c.t sc b (.BoolOp .And (y :: r) p))
    | _ => false)
  | .BoolOp .Or (x :: y :: r) p => (match e with
    | .or_ a b => c.t sc a x && (match r with
      | [] => c.t sc b y
      | r => c.t sc b (.BoolOp .Or (y :: r) p))
    | _ => false)
  | .Compare x ops ys p => ckC tb c sc e (.Compare x ops ys p)
  | x => plainT x && c.e sc e x
def ckG (c : Ck) (sc : Sc) (t : Tg) (x : Expr) : Bool := match t, x with
  | .var i, .Name n _ => decide (sc.N[i]? = some n) && sc.own n
  | .tup ts, .Tuple xs _ _ => !sc.hot && noStars xs && (go ts xs)
  | _, _ => false
where go : List Tg → List Expr → Bool
  | [], [] => true
  | t :: ts, x :: xs => c.g sc t x && go ts xs
  | _, _ => false
def ckM (c : Ck) (sc : Sc) (a : E) (x : Expr) : Bool := match a with
  | .var i => ckV sc i x
  | a => c.e sc a x
def ckSs (c : Ck) (sc : Sc) : List St → List Stmt → Bool
  | [], [] => true
  | a :: l, x :: xs => c.s sc a x && ckSs c sc l xs
  | _, _ => false
def swapC (sc : Sc) (n m : Str) (p q : Pos) (x y : Expr) : Bool :=
  sc.lc n && sc.lc m && (p.line == q.line) && !(n == m) && !starX x && !starX y && !([x, y].all (foldedForSure 8)) && !([x, y].all (constantsAlone 8)) && (match sc.scope.kind with
    | .function => true
    | _ => false)
def notTup : Expr → Bool
  | .Tuple _ _ _ => false
  | .List _ _ => false
  | _ => true
def swapK (sc : Sc) (n : Str) (scope : Scope) (p q : Pos) (line : Nat) : Bool :=
  sc.lc n && (p.line == q.line) && !(scope.names.any fun y => y.1 == n && (y.2 == .local || y.2 == .cell)) && (match sc.scope.kind with
    | .function => true
    | _ => false)
def Sc.ce (sc : Sc) (n : Str) : Bool := match sc.scope.names.lookup n with
  | some .cell => true
  | _ => false
def swapC3 (sc : Sc) (n m o : Str) (p q r : Pos) (x y z : Expr) : Bool :=
  sc.lc n && sc.lc m && sc.lc o && (p.line == q.line) && (p.line == r.line) && !(n == m) && !(n == o) && !(m == o) && !starX x && !starX y && !starX z && !([x, y, z].all (foldedForSure 8)) && !([x, y, z].all (constantsAlone 8)) && (match sc.scope.kind with
    | .function => true
    | _ => false)
def ckH (tb : Tb) (c : Ck) (sc : Sc) : List (Nat × Option Nat × List St) → List ExceptHandler → Bool
  | [], [] => true
  | (k, none, b) :: hs, .ExceptHandler (some (.Name n _)) none (b0 :: su) _ :: hds => sc.gl n && (decide (tb.cls.lookup n = some k) && tb.exc.contains k) && Sc.ndb n && ckSs c { sc with hot := true } b (b0 :: su) && ckH tb c sc hs hds
  | (k, some i, b) :: hs, .ExceptHandler (some (.Name n _)) (some m) (b0 :: su) _ :: hds => sc.gl n && (decide (tb.cls.lookup n = some k) && tb.exc.contains k) && Sc.ndb n && decide (sc.N[i]? = some m) && sc.lc m && ckSs c { sc with hot := true } b (b0 :: su) && ckH tb c sc hs hds
  | _, _ => false
def ckS (tb : Tb) (c : Ck) (sc : Sc) (st : St) (sx : Stmt) : Bool := !sc.blk && (match st with
  | .pass => (match sx with
    | .Pass _ => true
    | _ => false)
  | .expr a => (match sx with
    | .Expr x _ => !isComp x && c.e sc a x
    | _ => false)
  | .asg (.var i) a => (match sx with
    | .Assign [.Name n p] x pos => decide (sc.N[i]? = some n) && sc.own n && (match a, x with
      | .lc own elt tg k a b ifs, .ListComp ex [⟨tx, iter, ifx, 0⟩] scope q => if sc.ce n then c.e sc (.lc own elt tg k a b ifs) (.ListComp ex [⟨tx, iter, ifx, 0⟩] scope q) else swapK sc n scope p q pos.line && ckComp tb c sc own tg k a b ifs tx iter ifx scope && c.e (sc.in_ scope) elt ex
      | .dc own ke ve tg k a b ifs, .DictComp kx vx [⟨tx, iter, ifx, 0⟩] scope q => if sc.ce n then c.e sc (.dc own ke ve tg k a b ifs) (.DictComp kx vx [⟨tx, iter, ifx, 0⟩] scope q) else swapK sc n scope p q pos.line && ckComp tb c sc own tg k a b ifs tx iter ifx scope && c.e (sc.in_ scope) ke kx && c.e (sc.in_ scope) ve vx
      | a, x => !isComp x && c.e sc a x)
    | _ => false)
  | .asg t a => (match sx with
    | .Assign [tg] x _ => !t.isVar && notTup x && !isComp x && !starX tg && c.e sc a x && c.g sc t tg
    | _ => false)
  | .par [(i, a), (j, b)] => (match sx with
    | .Assign [.Tuple [.Name n p, .Name m q] _ _] (.Tuple [x, y] _ _) _ => !sc.hot && swapC sc n m p q x y && decide (sc.N[i]? = some n) && decide (sc.N[j]? = some m) && c.e sc a x && c.e sc b y
    | _ => false)
  | .par [(i, a), (j, b), (k, d)] => (match sx with
    | .Assign [.Tuple [.Name n p, .Name m q, .Name o r] _ _] (.Tuple [x, y, z] _ _) _ => !sc.hot && swapC3 sc n m o p q r x y z && decide (sc.N[i]? = some n) && decide (sc.N[j]? = some m) && decide (sc.N[k]? = some o) && c.e sc a x && c.e sc b y && c.e sc d z
    | _ => false)
  | .setIx o i v => (match sx with
    | .Assign [.Subscript x y _] z _ => plainI y && !isComp z && ckR c.e sc o x && c.e sc i y && c.e sc v z
    | _ => false)
  | .setF o f v => (match sx with
    | .Assign [.Attribute x n _] z _ => decide (tb.fld[f]? = some n) && !isComp z && c.e sc o x && c.e sc v z
    | _ => false)
  | .app o v => (match sx with
    | .Expr (.Call (.Attribute x m apos) [y] [] cpos) _ => decide (m = "append") && baseOk x && (apos.endLine == cpos.line) && !starX y && ckR c.e sc o x && c.e sc v y
    | _ => false)
  | .ite q a b => (match sx with
    | .If z p r _ => c.t sc q z && ckSs c sc a p && ckSs c sc b r
    | _ => false)
  | .forI t k a b body => (match sx with
    | .For tg x bx [] _ => !sc.hot && ckI tb c sc k a b tg x && c.g sc t tg && ckSs c sc body bx && notSet x
    | _ => false)
  | .whil q body => (match sx with
    | .While z bx [] _ => !sc.hot && c.t sc q z && ckSs c sc body bx
    | _ => false)
  | .ret a => (match sx with
    | .Return (some x) _ => ckM c sc a x
    | .Return none _ => (match a with
      | .cst .non => true
      | _ => false)
    | _ => false)
  | .raise k l => (match l, sx with
    | [a], .Raise (some (.Call (.Name n _) [x] [] _)) none _ => !sc.hot && sc.gl n && decide (tb.cls.lookup n = some k) && Sc.ndb n && !starX x && ckL (c.e sc) [a] [x] && (match tb.exf.lookup k with
      | some [_] => true
      | _ => false)
    | [], .Raise (some (.Call (.Name n _) [] [] _)) none _ => !sc.hot && sc.gl n && decide (tb.cls.lookup n = some k) && Sc.ndb n && (match tb.exf.lookup k with
      | some [] => true
      | _ => false)
    | _, _ => false)
  | .tryX b hs => (match sx with
    | .Try body (h1 :: hds) [] [] _ => !sc.hot && ckSs c sc b body && ckH tb c sc hs (h1 :: hds)
    | _ => false)
  | _ => false)
def Ck.step (tb : Tb) (c : Ck) : Ck := ⟨ckE tb c, ckT tb c, ckG c, ckS tb c⟩
def ck (tb : Tb) : Nat → Ck
  | 0 => Ck.no
  | n + 1 => Ck.step tb (ck tb n)
end Pm
namespace Pm
open PySem PySem.Spec PyProof.Rows L2 RZ
open PySem.W (Frag)
structure Fx (tb : Tb) (X : Cx) (cls : Nat → Addr) (f0 : Nat → Str) (T : Tab) : Prop where
  free : ∀ n, tb.free.contains n = true → X.mg n = none
  glob : ∀ n k, tb.glob.lookup n = some k → ∃ u, X.mg n = some u ∧ ∃ v, RelV v u ∧ ∀ d, T.glob k = some d → ∀ hx g, Is (zx X cls ⟨f0, hx⟩) g d v
  clA : ∀ n c, tb.cls.lookup n = some c → X.mg n = some (.ref (cls c))
  fld : ∀ (f : Nat) (n : Str), tb.fld[f]? = some n → f0 f = n ∧ ∀ k, f0 k = f0 f → k = f
  flc : ∀ f c, (T.flds c).contains f = true → Cls X.K (cls c) ∧ NoAttr X.K (cls c) (f0 f)
  mth : ∀ (m : Nat) (n : Str), tb.meth[m]? = some n → ∀ k, f0 k ≠ n
  isi : ∀ t : Ty, t.nm ≠ "" → bootBuiltins (Str.ofString t.nm) = some (.type t.nm) ∧ ∀ c k, T.isic c t = some k → IsiC X.K (cls c) ∧ PySem.W.kitOne X.K (.ref (cls c)) (.type t.nm) = some k
  isc : ∀ n y, tb.cls.lookup n = some y → (∀ c k, T.isic c (.cls y) = some k → IsiC X.K (cls c) ∧ PySem.W.kitOne X.K (.ref (cls c)) (.ref (cls y)) = some k) ∧ ∀ d n, D.tn d = some n → PySem.W.kitOne X.K (.type n) (.ref (cls y)) = some false
  ist : ∀ c k, T.isic c .tupOrLst = some k → IsiC X.K (cls c) ∧ PySem.W.kitAny X.K (.ref (cls c)) [.type "tuple", .type "list"] = some k
  isk : ∀ d n k, D.tn d = some n → isiD d .tupOrLst T.isic = some k → PySem.W.kitAny X.K (.type n) [.type "tuple", .type "list"] = some k
  isn : ∀ c, (T.init c).isSome = true → IsiC X.K (cls c)
  xf : ∀ f c, (T.exf c).contains f = true → XfC X.K (cls c) ∧ PySem.W.findIn X.K (.ref (cls c)) (f0 f) = some none
  xis : ∀ n y, tb.cls.lookup n = some y → ∀ c, T.sub c c = true → PySem.Pmx.XIc X.K (cls c) ∧ PySem.W.kitOne X.K (.ref (cls c)) (.ref (cls y)) = some (T.sub c y)
  exm : ∀ n y, tb.cls.lookup n = some y → tb.exc.contains y = true → ∀ c, PySem.W.exmOne X.K (.ref (cls c)) (.ref (cls y)) = some (T.sub c y)
  exc : ∀ c f, tb.exf.lookup c = some [f] → T.exf c = [f] ∧ XCls X (cls c) ∧ PySem.Pmx.X1 X.prog X.K (cls c) (f0 f)
  exc0 : ∀ c, tb.exf.lookup c = some [] → T.exf c = [] ∧ XCls X (cls c) ∧ PySem.Pmx.X0 X.prog X.K (cls c)
structure Calls (tb : Tb) (X : Cx) (cls : Nat → Addr) (f0 : Nat → Str) (T : Tab) : Prop where
  fn : ∀ n k, tb.fn.lookup n = some k → ∃ f, X.mg n = some (.ref f) ∧ FnAt X (zx X cls ⟨f0, none⟩) (T.fn k) f
  meth : ∀ (m : Nat) (n : Str), tb.meth[m]? = some n → ∀ c k, T.meth c m = some k → ∃ f, Cls X.K (cls c) ∧ Meth X.K (cls c) n f ∧ FnAt X (zx X cls ⟨f0, none⟩) (T.fn k) f
  prop : ∀ (m : Nat) (n : Str), tb.prop[m]? = some n → ∀ c k, T.prop c m = some k → ∃ p f, Cls X.K (cls c) ∧ PropOf X.K (cls c) n p f ∧ FnAt X (zx X cls ⟨f0, none⟩) (T.fn k) f
  new : ∀ c k, T.init c = some k → NewAt X (zx X cls ⟨f0, none⟩) (T.fn k) (cls c)
  kp : ∀ n c, tb.cls.lookup n = some c → PySem.W.keepIn X.K (.ref (cls c)) = true
  oeq : ∀ c k, T.oeq c = some k → ∃ a, OEq X (zx X cls ⟨f0, none⟩) (T.fn k) c a
  room : ∃ k, Room k X.A
structure Cok (tb : Tb) (sc : Sc) (X : Cx) (cls : Nat → Addr) (fnm : Fnm) (T : Tab) (W : WX) : Prop where
  N : X.N = sc.N
  nd : X.N.Nodup
  scope : X.env.scope = sc.scope
  cel : ∀ n, sc.cel n = true → X.fn n = true
  u : X.A.units + 100 < cLine
  calm : sc.hot = false → X.calm = true
  tk : Takes X W
  hx : sc.hot = false → fnm.hx = none
  fx : Fx tb X cls fnm.f T
  calls : sc.hot = false → Calls tb X cls fnm.f T
  st : sc.blk = false → X.stack = X.env :: X.outer ∧ X.env.frame = some X.env.locals
  po : sc.hot = false → sc.blk = false → PassesOwn (model X.prog X.w) X.A X.env X.xe
  hotx : sc.hot = true → ∃ (X0 : Cx) (a : Addr) (oe : Obj) (c : Nat) (d : Option Addr) (pn : List (Addr × Obj)), X = X0.suite a ((a, oe) :: pn) ∧ fnm.hx = some (a, c, d) ∧ Zc (.ref (cls c)) d oe ∧ ∃ vs, oe.data = .fields vs
theorem b2 {a b : Bool} (h : (a && b) = true) : a = true ∧ b = true := Bool.and_eq_true_iff.mp h
theorem bn {a : Bool} (h : (!a) = true) : a = false := by simpa using h
theorem ndb_ok {n : Str} (h : Sc.ndb n = true) : (n == ("__debug__" : Str)) = false ∧ (n == ("__classdict__" : Str)) = false := by
  obtain ⟨h1, h2⟩ := b2 h
  exact ⟨bn h1, bn h2⟩
section
variable {tb : Tb} {sc : Sc} {X : Cx} {cls : Nat → Addr} {fnm : Fnm} {T : Tab} {W : WX} {a b : E} {x y z : Expr} {pos : Pos}
theorem fnm_eta (h : fnm.hx = none) : fnm = ⟨fnm.f, none⟩ := by
  cases fnm
  cases h
  rfl
theorem Cok.gl (C : Cok tb sc X cls fnm T W) {n : Str} (h : sc.gl n = true) : Gl X n := by
  unfold Sc.gl at h
  unfold Gl Env.kindOf
  rw [C.scope]
  split at h
  · assumption
  · cases h
theorem Cok.vis (C : Cok tb sc X cls fnm T W) {n : Str} (h : sc.vis n = true) : Vis X.env.scope n := by
  unfold Sc.vis at h
  unfold Vis
  rw [C.scope]
  split at h
  · exact .inl (by assumption)
  · exact .inr (.inl (by assumption))
  · exact .inr (.inr (by assumption))
  · cases h
theorem Cok.own (C : Cok tb sc X cls fnm T W) {n : Str} (h : sc.own n = true) : L2.Loc X.env.scope n ∧ (X.fn n = true ∨ X.env.scope.names.lookup n = some .local) := by
  unfold Sc.own at h
  unfold L2.Loc
  rw [C.scope]
  split at h
  · exact ⟨.inl (by assumption), .inr (by assumption)⟩
  · exact ⟨.inr (by assumption), .inl (C.cel _ h)⟩
  · cases h
theorem Cok.lc (C : Cok tb sc X cls fnm T W) {n : Str} (h : sc.lc n = true) : X.env.scope.names.lookup n = some .local := by
  unfold Sc.lc at h
  rw [C.scope]
  split at h
  · assumption
  · cases h
theorem ckV_ok (C : Cok tb sc X cls fnm T W) {i : Nat} (h : ckV sc i x = true) : ∃ n p, x = .Name n p ∧ X.N[i]? = some n ∧ Vis X.env.scope n ∧ (n == ("__debug__" : Str)) = false ∧ (n == ("__classdict__" : Str)) = false := by
  unfold ckV at h
  split at h
  · rename_i n p
    obtain ⟨h, h3⟩ := b2 h
    obtain ⟨h1, h2⟩ := b2 h
    obtain ⟨h4, h5⟩ := ndb_ok h3
    exact ⟨n, p, rfl, by rw [C.N]; exact of_decide_eq_true h1, C.vis h2, h4, h5⟩
  · cases h
theorem Cok.blt (C : Cok tb sc X cls fnm T W) {n m : Str} (h : blt tb sc n m = true) : n = m ∧ Gl X m ∧ X.mg m = none := by
  obtain ⟨h, h3⟩ := b2 h
  obtain ⟨h1, h2⟩ := b2 h
  exact ⟨of_decide_eq_true h1, C.gl h2, C.fx.free _ h3⟩
structure CkOk (tb : Tb) (c : Ck) : Prop where
  e : ∀ {sc X cls fnm T W a x}, c.e sc a x = true → Cok tb sc X cls fnm T W → KE X cls fnm T W a x
  t : ∀ {sc X cls fnm T W a x}, c.t sc a x = true → Cok tb sc X cls fnm T W → KT X cls fnm T W a x
  g : ∀ {sc X cls fnm T W t x}, c.g sc t x = true → Cok tb sc X cls fnm T W → KG X cls fnm t x
  s : ∀ {sc X cls fnm T W st sx}, c.s sc st sx = true → Cok tb sc X cls fnm T W → KS X cls fnm T W st sx
variable {c : Ck}
theorem CkOk.kr (G : CkOk tb c) (C : Cok tb sc X cls fnm T W) (h : ckR c.e sc a x = true) : KR X cls fnm T W a x := by
  unfold ckR at h
  split at h
  · obtain ⟨n, p, rfl, h1, h2, h3, h4⟩ := ckV_ok C h
    exact kr_var h1 h2 h3 h4
  · rename_i hn
    refine kr_of ?_ (G.e h C)
    cases a <;> first | rfl | exact absurd rfl (hn _)
theorem CkOk.km (G : CkOk tb c) (C : Cok tb sc X cls fnm T W) (h : ckM c sc a x = true) : KM X cls fnm T W a x := by
  unfold ckM at h
  split at h
  · obtain ⟨n, p, rfl, h1, h2, h3, h4⟩ := ckV_ok C h
    exact km_var h1 h2 h3 h4
  · rename_i hn
    refine km_of ?_ (G.e h C)
    cases a <;> first | rfl | exact absurd rfl (hn _)
theorem CkOk.ko (G : CkOk tb c) (C : Cok tb sc X cls fnm T W) {o : Option E} {l : Option Expr} (h : ckO (c.e sc) o l = true) : PO X l (RO X cls fnm T W o) := by
  unfold ckO at h
  split at h
  · exact ko_none
  · exact ko_some (G.e h C)
  · cases h
theorem CkOk.kl (G : CkOk tb c) (C : Cok tb sc X cls fnm T W) : ∀ {l : List E} {xs : List Expr}, ckL (c.e sc) l xs = true → KL X cls fnm T W l xs
  | [], [], _ => kl_nil
  | [], _ :: _, h => by cases h
  | a :: l, [], h => by cases a <;> cases h
  | a :: l, x :: xs, h => by
    unfold ckL at h
    split at h
    · rename_i e
      cases e
    · rename_i e e'
      cases e
      cases e'
      obtain ⟨h1, h2⟩ := b2 h
      exact kl_star (G.e h1 C) (G.kl C h2)
    · rename_i e e'
      cases e
      cases e'
      obtain ⟨h, h2⟩ := b2 h
      obtain ⟨h, h1⟩ := b2 h
      obtain ⟨h3, h4⟩ := b2 h
      exact kl_cons (G.e h1 C) (G.kl C h2) (bn h3) (bn h4)
    · cases h
theorem ckL_nil {f : E → Expr → Bool} {l : List E} (h : ckL f l [] = true) : l = [] := by
  cases l with
  | nil => rfl
  | cons a r => cases a <;> cases h
theorem CkOk.kc (G : CkOk tb c) (C : Cok tb sc X cls fnm T W) (h : ckC tb c sc a x = true) : KE X cls fnm T W a x ∧ KT X cls fnm T W a x := by
  have hu : X.A.units + 64 < cLine := by have := C.u; omega
  have hu2 : X.A.units + 65 < cLine := by have := C.u; omega
  unfold ckC at h
  split at h
  · obtain ⟨h1, h2⟩ := b2 h
    exact kc_eq hu (G.e h1 C) (G.e h2 C)
  · obtain ⟨h1, h2⟩ := b2 h
    exact kc_ne hu (G.e h1 C) (G.e h2 C)
  · obtain ⟨h1, h2⟩ := b2 h
    exact kc_lt (G.e h1 C) (G.e h2 C)
  · obtain ⟨h1, h2⟩ := b2 h
    exact kc_le (G.e h1 C) (G.e h2 C)
  · obtain ⟨h1, h2⟩ := b2 h
    exact kc_gt (G.e h1 C) (G.e h2 C)
  · obtain ⟨h1, h2⟩ := b2 h
    exact kc_ge (G.e h1 C) (G.e h2 C)
  · obtain ⟨h, h2⟩ := b2 h
    obtain ⟨h0, h1⟩ := b2 h
    have hh := C.hx (bn h0)
    have K := C.calls (bn h0)
    have e := fnm_eta hh
    refine kc_oe hu (fun c k hk => ?_) C.fx.isn (G.e h1 C) (G.e h2 C)
    rw [e]
    exact K.oeq c k hk
  · exact kc_isN (G.e h C)
  · exact kc_isnN (G.e h C)
  · obtain ⟨h, h2⟩ := b2 h
    obtain ⟨h0, h1⟩ := b2 h
    exact kc_in hu hu2 h0 (G.e h1 C) (G.kr C h2)
  · obtain ⟨h, h2⟩ := b2 h
    obtain ⟨h0, h1⟩ := b2 h
    exact kc_notin hu hu2 h0 (G.e h1 C) (G.kr C h2)
  · obtain ⟨h, h2⟩ := b2 h
    obtain ⟨h0, h1⟩ := b2 h
    exact kc_chain (G.e h0 C) (G.e h1 C) (G.e h2 C)
  · cases h
theorem CkOk.ki (G : CkOk tb c) (C : Cok tb sc X cls fnm T W) {k : Ik} {tg : Expr} (h : ckI tb c sc k a b tg x = true) : KI X cls fnm T W k a b tg x := by
  unfold ckI at h
  split at h
  · exact ki_seq (G.e h C)
  · obtain ⟨h, h4⟩ := b2 h
    obtain ⟨h, h3⟩ := b2 h
    obtain ⟨h, h2⟩ := b2 h
    obtain ⟨h0, h1⟩ := b2 h
    have e := of_decide_eq_true h0
    subst e
    split at h4
    · exact ki_items h1 h2 (G.e h3 C)
    · cases h4
  · obtain ⟨h, h3⟩ := b2 h
    obtain ⟨h, h2⟩ := b2 h
    obtain ⟨h0, h1⟩ := b2 h
    have e := of_decide_eq_true h0
    subst e
    exact ki_values h1 h2 (G.e h3 C)
  · obtain ⟨h, h2⟩ := b2 h
    obtain ⟨h0, h1⟩ := b2 h
    obtain ⟨rfl, g1, g2⟩ := C.blt h0
    exact ki_rng1 g1 g2 (bn h1) (G.e h2 C)
  · obtain ⟨h, h4⟩ := b2 h
    obtain ⟨h, h3⟩ := b2 h
    obtain ⟨h, h2⟩ := b2 h
    obtain ⟨h0, h1⟩ := b2 h
    obtain ⟨rfl, g1, g2⟩ := C.blt h0
    exact ki_rng2 g1 g2 (bn h1) (bn h2) (G.e h3 C) (G.e h4 C)
  · obtain ⟨h, h3⟩ := b2 h
    obtain ⟨h, h2⟩ := b2 h
    obtain ⟨h0, h1⟩ := b2 h
    obtain ⟨rfl, g1, g2⟩ := C.blt h0
    split at h3
    · exact ki_enum g1 g2 (bn h1) (G.e h2 C)
    · cases h3
  · obtain ⟨h, h5⟩ := b2 h
    obtain ⟨h, h4⟩ := b2 h
    obtain ⟨h, h3⟩ := b2 h
    obtain ⟨h, h2⟩ := b2 h
    obtain ⟨h0, h1⟩ := b2 h
    obtain ⟨rfl, g1, g2⟩ := C.blt h0
    split at h5
    · exact ki_zip g1 g2 (bn h1) (bn h2) (G.e h3 C) (G.e h4 C)
    · cases h5
  · obtain ⟨h, h5⟩ := b2 h
    obtain ⟨h, h4⟩ := b2 h
    obtain ⟨h, h3⟩ := b2 h
    obtain ⟨h, h2⟩ := b2 h
    obtain ⟨h0, h1⟩ := b2 h
    obtain ⟨rfl, g1, g2⟩ := C.blt h0
    split at h5
    · exact ki_zipK g1 g2 (bn h1) (bn h2) (G.e h3 C) (G.e h4 C)
    · cases h5
  · cases h
end
end Pm
namespace Pm
open PySem PySem.Spec PyProof.Rows L2 RZ
open PySem.W (Frag)
section
variable {tb : Tb} {sc : Sc} {X : Cx} {cls : Nat → Addr} {fnm : Fnm} {T : Tab} {W : WX} {a b : E} {x y z : Expr} {pos : Pos} {f0 : Nat → Str}
theorem Fx.tr (h : Fx tb X cls f0 T) (X' : Cx) (e1 : X'.prog = X.prog) (e2 : X'.K = X.K) (e3 : X'.mg = X.mg) (e4 : X'.w = X.w) : Fx tb X' cls f0 T := by
  cases X
  cases X'
  cases e1
  cases e2
  cases e3
  cases e4
  exact ⟨h.free, h.glob, h.clA, h.fld, h.flc, h.mth, h.isi, h.isc, h.ist, h.isk, h.isn, h.xf, h.xis, h.exm, fun c f e => ⟨(h.exc c f e).1, ⟨(h.exc c f e).2.1.kp, (h.exc c f e).2.1.exC, (h.exc c f e).2.1.tyC⟩, (h.exc c f e).2.2⟩, fun c e => ⟨(h.exc0 c e).1, ⟨(h.exc0 c e).2.1.kp, (h.exc0 c e).2.1.exC, (h.exc0 c e).2.1.tyC⟩, (h.exc0 c e).2.2⟩⟩
theorem FnAt.tr {Z : Zx} {f : FS} {a : Addr} (h : FnAt X Z f a) (X' : Cx) (e1 : X'.prog = X.prog) (e2 : X'.K = X.K) (e3 : X'.mg = X.mg) (e4 : X'.w = X.w) (e5 : X'.base = X.base) (e6 : X'.A = X.A) : FnAt X' Z f a := by
  cases X
  cases X'
  cases e1
  cases e2
  cases e3
  cases e4
  cases e5
  cases e6
  exact ⟨h.kp, h.fn⟩
theorem Calls.tr (h : Calls tb X cls f0 T) (X' : Cx) (e1 : X'.prog = X.prog) (e2 : X'.K = X.K) (e3 : X'.mg = X.mg) (e4 : X'.w = X.w) (e5 : X'.base = X.base) (e6 : X'.A = X.A) : Calls tb X' cls f0 T := by
  have ez : zx X' cls ⟨f0, none⟩ = zx X cls ⟨f0, none⟩ := by
    show (⟨X'.K, X'.w, cls, ⟨f0, none⟩⟩ : Zx) = ⟨X.K, X.w, cls, ⟨f0, none⟩⟩
    rw [e2, e4]
  refine ⟨fun n k e => ?_, fun m n e c k hk => ?_, fun m n e c k hk => ?_, fun c k hk => ?_, fun n c e => ?_, fun c k hk => ?_, ?_⟩
  · obtain ⟨f, h1, h2⟩ := h.fn n k e
    exact ⟨f, by rw [e3]; exact h1, by rw [ez]; exact h2.tr X' e1 e2 e3 e4 e5 e6⟩
  · obtain ⟨f, h1, h2, h3⟩ := h.meth m n e c k hk
    exact ⟨f, by rw [e2]; exact h1, by rw [e2]; exact h2, by rw [ez]; exact h3.tr X' e1 e2 e3 e4 e5 e6⟩
  · obtain ⟨p, f, h1, h2, h3⟩ := h.prop m n e c k hk
    exact ⟨p, f, by rw [e2]; exact h1, by rw [e2]; exact h2, by rw [ez]; exact h3.tr X' e1 e2 e3 e4 e5 e6⟩
  · have h1 := (h.new c k hk).fn
    rw [ez]
    refine ⟨?_⟩
    rw [e1, e2, e3, e4, e5, e6]
    exact h1
  · rw [e2]
    exact h.kp n c e
  · obtain ⟨a, h1⟩ := h.oeq c k hk
    rw [ez]
    refine ⟨a, ?_⟩
    have h2 := h1.ok.tr X' e1 e2 e3 e4 e5 e6
    refine ⟨?_, ?_, ?_, h2, ?_, ?_⟩
    · rw [e2]; exact h1.cl
    · rw [e2]; exact h1.at_
    · rw [e2]; exact h1.fn
    · rw [e2]; exact h1.lo
    · rw [e2]; exact h1.ins
  · rw [e6]
    exact h.room
theorem takes0 : Takes X W0 := fun u s' ⟨a, B, sI, pins, σ, H, cls, d, e, I, nb, up, sky, na, os, ag, w⟩ => w.elim
theorem Cok.in_ (C : Cok tb sc X cls fnm T W) (h0 : sc.hot = false) {scope : Scope} (s : Shared) (H : Hp) (Ca : Addr) (cl : List (Str × Addr)) (fp : List Addr) : Cok tb (sc.in_ scope) (X.blk s H scope (compEnvC scope cl Ca X.env) fp) cls fnm T W0 where
  N := C.N
  nd := C.nd
  scope := by
    show relabel scope X.env = relab scope sc.scope
    unfold relabel relab Env.kindOf
    rw [C.scope]
  cel := fun n h => h
  u := C.u
  calm := C.calm
  tk := takes0
  hx := C.hx
  fx := C.fx.tr _ rfl rfl rfl rfl
  calls := fun h => (C.calls h).tr _ rfl rfl rfl rfl rfl rfl
  st := fun h => by cases h
  po := fun _ h => by cases h
  hotx := fun h => by
    have h : sc.hot = true := h
    rw [h0] at h
    cases h
theorem Cok.tr_ (C : Cok tb sc X cls fnm T W) (h0 : sc.hot = false) {W' : WX} {pn : List (Addr × Obj)} {xe : Value → Shared → Prop} (tk : Takes (X.tr pn xe) W') (po : PassesOwn (model X.prog X.w) X.A X.env xe) : Cok tb sc (X.tr pn xe) cls fnm T W' where
  N := C.N
  nd := C.nd
  scope := C.scope
  cel := C.cel
  u := C.u
  calm := C.calm
  tk := tk
  hx := C.hx
  fx := C.fx.tr _ rfl rfl rfl rfl
  calls := fun h => (C.calls h).tr _ rfl rfl rfl rfl rfl rfl
  st := C.st
  po := fun _ _ => po
  hotx := fun h => by
    rw [h0] at h
    cases h
theorem Cok.hot_ (C : Cok tb sc X cls fnm T W) {a : Addr} {oe : Obj} {c : Nat} {d : Option Addr} {pn : List (Addr × Obj)} (hz : Zc (.ref (cls c)) d oe) (hv : ∃ vs, oe.data = .fields vs) : Cok tb { sc with hot := true } (X.suite a ((a, oe) :: pn)) cls (fnm.at (some (a, c, d))) T W0 where
  N := C.N
  nd := C.nd
  scope := C.scope
  cel := C.cel
  u := C.u
  calm := fun h => by cases h
  tk := takes0
  hx := fun h => by cases h
  fx := C.fx.tr _ rfl rfl rfl rfl
  calls := fun h => by cases h
  st := C.st
  po := fun h => by cases h
  hotx := fun _ => ⟨X, a, oe, c, d, pn, rfl, rfl, hz, hv⟩
variable {c : Ck}
theorem owOf_snd (sc : Sc) (own : List Nat) : (owOf sc own).map (·.2) = own := by
  unfold owOf
  rw [List.map_map]
  induction own with
  | nil => rfl
  | cons i r ih => rw [List.map_cons, ih]; rfl
theorem notSet_fold (h : notSet x = true) (env : Env) : ∀ v, foldedSetIterable x env v = pure v := by
  intro v
  cases x <;> first | rfl | cases h
theorem CkOk.comp (G : CkOk tb c) (C : Cok tb sc X cls fnm T W) {own : List Nat} {tg : Tg} {k : Ik} {ifs : Option E} {tx iter : Expr} {ifx : List Expr} {scope : Scope} (h : ckComp tb c sc own tg k a b ifs tx iter ifx scope = true) :
    sc.hot = false ∧ KI X cls fnm T W k a b tx iter ∧ BlkOk X.N X.env.scope scope (owOf sc own) ∧ (∀ i ∈ tg.slots, i ∈ (owOf sc own).map (·.2)) ∧
    (∀ (s : Shared) (H : Hp) (C : Addr) (cl : List (Str × Addr)) (fp : List Addr), KG (X.blk s H scope (compEnvC scope cl C X.env) fp) cls fnm tg tx) ∧
    (∀ (s : Shared) (H : Hp) (C : Addr) (cl : List (Str × Addr)) (fp : List Addr), PTs (X.blk s H scope (compEnvC scope cl C X.env) fp) ifx (rdTs (zx X cls fnm) T ifs)) ∧ ∀ v, foldedSetIterable iter X.env v = pure v := by
  unfold ckComp at h
  obtain ⟨h, h6⟩ := b2 h
  obtain ⟨h, h5⟩ := b2 h
  obtain ⟨h, h4⟩ := b2 h
  obtain ⟨h, h3⟩ := b2 h
  obtain ⟨h, h2⟩ := b2 h
  obtain ⟨h0, h1⟩ := b2 h
  have h0 := bn h0
  refine ⟨h0, G.ki C h1, by rw [C.N, C.scope]; exact blkOk_by h3, fun i hi => ?_, fun s H Ca cl fp => G.g h5 (C.in_ h0 s H Ca cl fp), fun s H Ca cl fp => ?_, notSet_fold h2 _⟩
  · rw [owOf_snd]
    exact List.contains_iff_mem.mp (List.all_eq_true.mp h4 i hi)
  · split at h6
    · exact kts_nil
    · exact kts_one (G.t h6 (C.in_ h0 s H Ca cl fp))
    · cases h6
theorem ty_name {t : Ty} (h : t.nm ≠ "") : Str.ofString t.nm ≠ ("__name__" : Str) ∧ (Str.ofString t.nm == ("__debug__" : Str)) = false := by
  cases t <;> first | exact absurd rfl h | decide
theorem meth_ht {o : Expr} {m : Str} {apos pos : Pos} {xs : List Expr} {env : Env} (hb : baseOk o = true) (hl : (apos.endLine == pos.line) = true) (hs : noStars xs = true) (hn : xs.length < 30) :
    eval (.Call (.Attribute o m apos) xs [] pos) env = (do
      let ov ← eval o env
      standAt apos.atName
      let (f, first) ← holding [ov] (getMethod ov m (do return (← importBound o env).getD true))
      callWith pos f first (backTo pos (starEach xs env)) (backToKw pos (keywordEach [] env))) := by
  rw [PySem.meth_form hl (PySem.meth_few hs hn), attrBase hb]
  rfl
theorem p1_ok (C : Cok tb sc X cls fnm T W) {p : P1} {n : Str} {q : Pos} (hc : X.calm = true) (h2 : (match p1Name p with
    | some m => blt tb sc n (Str.ofString m)
    | none => false) = true) (h3 : starX x = false) (kr : KR X cls fnm T W a x) : KE X cls fnm T W (.p1 p a) (.Call (.Name n q) [x] [] pos) := by
  cases p <;> first
    | (cases h2; done)
    | (obtain ⟨rfl, g1, g2⟩ := C.blt h2; exact ke_len g1 g2 h3 kr)
    | (obtain ⟨rfl, g1, g2⟩ := C.blt h2; exact ke_list hc g1 g2 h3 kr)
    | (obtain ⟨rfl, g1, g2⟩ := C.blt h2; exact ke_tuple g1 g2 h3 kr)
    | (obtain ⟨rfl, g1, g2⟩ := C.blt h2; exact ke_dict g1 g2 h3 kr)
    | (obtain ⟨rfl, g1, g2⟩ := C.blt h2; exact ke_int1 g1 g2 h3 kr)
    | (obtain ⟨rfl, g1, g2⟩ := C.blt h2; exact ke_sum hc g1 g2 h3 kr)
    | (obtain ⟨rfl, g1, g2⟩ := C.blt h2; exact ke_any hc g1 g2 h3 kr)
    | (obtain ⟨rfl, g1, g2⟩ := C.blt h2; exact ke_all hc g1 g2 h3 kr)
    | (obtain ⟨rfl, g1, g2⟩ := C.blt h2; exact ke_max1 hc g1 g2 h3 kr)
    | (obtain ⟨rfl, g1, g2⟩ := C.blt h2; exact ke_sorted hc g1 g2 h3 kr)
theorem CkOk.ce (G : CkOk tb c) (C : Cok tb sc X cls fnm T W) (h : ckE tb c sc a x = true) : KE X cls fnm T W a x := by
  have hu : X.A.units + 64 < cLine := by have := C.u; omega
  unfold ckE at h
  split at h
  · obtain ⟨n, p, rfl, h1, h2, h3, h4⟩ := ckV_ok C h
    exact ke_var h1 h2 h3 h4
  · split at h
    · rw [of_decide_eq_true h]
      exact ke_int
    · rw [of_decide_eq_true h]
      exact ke_bl
    · exact ke_non
    · rw [of_decide_eq_true h]
      exact ke_str
    · obtain ⟨h1, h2⟩ := b2 h
      rw [of_decide_eq_true h1]
      exact ke_pow (of_decide_eq_true h2)
    · cases h
  · split at h
    · obtain ⟨h, h3⟩ := b2 h
      obtain ⟨h1, h2⟩ := b2 h
      obtain ⟨u, g1, v, g2, g3⟩ := C.fx.glob _ _ (of_decide_eq_true h2)
      exact ke_glob (C.gl h1) g1 (ndb_ok h3).1 ⟨v, g2, fun d hd g => g3 d hd fnm.hx g⟩
    · cases h
  · split at h
    · exact ke_tup (G.kl C h)
    · cases h
  · split at h
    · exact ke_lst (G.kl C h)
    · cases h
  · split at h
    · exact ke_dct0
    · cases h
  · split at h
    · obtain ⟨h, h3⟩ := b2 h
      obtain ⟨h1, h2⟩ := b2 h
      exact ke_over (G.kr C h1) (G.e h2 C) (G.e h3 C)
    · cases h
  · split at h
    · obtain ⟨h1, h2⟩ := b2 h
      exact ke_add (G.e h1 C) (G.e h2 C)
    · obtain ⟨h1, h2⟩ := b2 h
      exact ke_sub (G.e h1 C) (G.e h2 C)
    · obtain ⟨h1, h2⟩ := b2 h
      exact ke_mul (G.e h1 C) (G.e h2 C)
    · obtain ⟨h1, h2⟩ := b2 h
      exact ke_fdiv (G.e h1 C) (G.e h2 C)
    · obtain ⟨h1, h2⟩ := b2 h
      exact ke_mod (G.e h1 C) (G.e h2 C)
    · cases h
  · split at h
    · obtain ⟨h1, h2⟩ := b2 h
      exact ke_addL (G.kr C h1) (G.e h2 C)
    · cases h
  · split at h
    · exact ke_neg (G.e h C)
    · cases h
  · split at h
    · exact ke_not (G.e h C)
    · cases h
  · split at h
    · obtain ⟨h1, h2⟩ := b2 h
      split at h2
      · exact ke_and (G.e h1 C) (ke_one (G.e h2 C))
      · exact ke_and (G.e h1 C) (G.e h2 C)
    · cases h
  · split at h
    · obtain ⟨h1, h2⟩ := b2 h
      split at h2
      · exact ke_or (G.e h1 C) (ke_one (G.e h2 C))
      · exact ke_or (G.e h1 C) (G.e h2 C)
    · cases h
  · split at h
    · obtain ⟨h, h3⟩ := b2 h
      obtain ⟨h1, h2⟩ := b2 h
      exact ke_ife (G.t h1 C) (G.e h2 C) (G.e h3 C)
    · cases h
  · split at h
    · obtain ⟨h, h3⟩ := b2 h
      obtain ⟨h1, h2⟩ := b2 h
      exact ke_ix hu h1 (G.kr C h2) (G.e h3 C)
    · cases h
  · split at h
    · obtain ⟨h, h3⟩ := b2 h
      obtain ⟨h1, h2⟩ := b2 h
      exact ke_sl (G.kr C h1) (G.ko C h2) (G.ko C h3)
    · cases h
  · split at h
    · obtain ⟨h, h3⟩ := b2 h
      obtain ⟨h1, h2⟩ := b2 h
      obtain ⟨rfl, inj⟩ := C.fx.fld _ _ (of_decide_eq_true h1)
      exact ke_fld h2 inj (C.fx.flc _) (G.e h3 C)
    · cases h
  · split at h
    · obtain ⟨h, h3⟩ := b2 h
      obtain ⟨h1, h2⟩ := b2 h
      obtain ⟨rfl, inj⟩ := C.fx.fld _ _ (of_decide_eq_true h2)
      obtain ⟨n, p, rfl, g1, g2, g3, g4⟩ := ckV_ok C h3
      obtain ⟨X0, a0, oe, c0, d0, pn, rfl, k1, k2, k3⟩ := C.hotx h1
      exact ke_xfld k1 inj (C.fx.xf _) k2 k3 g1 g2 g3 g4
    · cases h
  · split at h
    · obtain ⟨h, h6⟩ := b2 h
      obtain ⟨h, h5⟩ := b2 h
      obtain ⟨h, h4⟩ := b2 h
      obtain ⟨h, h3⟩ := b2 h
      obtain ⟨h1, h2⟩ := b2 h
      obtain ⟨rfl, m1, m2⟩ := C.blt h2
      obtain ⟨n, p, rfl, g1, g2, g3, g4⟩ := ckV_ok C h6
      have h4 := of_decide_eq_true h4
      have hgl := C.gl h3
      have F := C.fx
      obtain ⟨X0, a0, oe, c0, d0, pn, rfl, k1, k2, k3⟩ := C.hotx h1
      exact ke_xis k1 m1 m2 hgl (F.clA _ _ h4) (ndb_ok h5).1 (F.xis _ _ h4) k2 k3 g1 g2 g3 g4
    · cases h
  · split at h
    · obtain ⟨h, h4⟩ := b2 h
      obtain ⟨h, h3⟩ := b2 h
      obtain ⟨h1, h2⟩ := b2 h
      have K := C.calls (bn h1)
      refine ke_prop h3 (fun c k hk => ?_) (G.e h4 C)
      rw [fnm_eta (C.hx (bn h1))]
      exact K.prop _ _ (of_decide_eq_true h2) c k hk
    · cases h
  · split at h
    · obtain ⟨h, h6⟩ := b2 h
      obtain ⟨h, h5⟩ := b2 h
      obtain ⟨h, h4⟩ := b2 h
      obtain ⟨h, h3⟩ := b2 h
      obtain ⟨h1, h2⟩ := b2 h
      have K := C.calls (bn h1)
      obtain ⟨f, g1, g2⟩ := K.fn _ _ (of_decide_eq_true h3)
      have kl := G.kl C h6
      refine ke_call (C.gl h2) g1 (ndb_ok h4).1 ?_ C.tk h5 (fun e => ?_) kl
      · rw [fnm_eta (C.hx (bn h1))]
        exact g2
      · rw [e] at h6
        exact ckL_nil h6
    · cases h
  · split at h
    · obtain ⟨h, h6⟩ := b2 h
      obtain ⟨h, h5⟩ := b2 h
      obtain ⟨h, h4⟩ := b2 h
      obtain ⟨h, h3⟩ := b2 h
      obtain ⟨h1, h2⟩ := b2 h
      have K := C.calls (bn h1)
      have kl := G.kl C h6
      refine ke_new (C.gl h2) (C.fx.clA _ _ (of_decide_eq_true h3)) (ndb_ok h4).1 (fun k hk => ?_) C.tk (K.kp _ _ (of_decide_eq_true h3)) h5 (fun e => ?_) kl
      · rw [fnm_eta (C.hx (bn h1))]
        exact K.new _ k hk
      · rw [e] at h6
        exact ckL_nil h6
    · cases h
  · split at h
    · obtain ⟨h, h8⟩ := b2 h
      obtain ⟨h, h7⟩ := b2 h
      obtain ⟨h, h6⟩ := b2 h
      obtain ⟨h, h5⟩ := b2 h
      obtain ⟨h, h4⟩ := b2 h
      obtain ⟨h, h3⟩ := b2 h
      obtain ⟨h1, h2⟩ := b2 h
      have K := C.calls (bn h1)
      have h2 := of_decide_eq_true h2
      have kl := G.kl C h8
      refine ke_meth (C.fx.mth _ _ h2) (fun c k hk => ?_) C.tk h6 (fun e => ?_) (meth_ht h3 h4 h6 (of_decide_eq_true h5)) (G.e h7 C) kl
      · rw [fnm_eta (C.hx (bn h1))]
        exact K.meth _ _ h2 c k hk
      · rw [e] at h8
        exact ckL_nil h8
    · cases h
  · split at h
    · obtain ⟨h, h6⟩ := b2 h
      obtain ⟨h, h5⟩ := b2 h
      obtain ⟨h, h4⟩ := b2 h
      obtain ⟨h, h3⟩ := b2 h
      obtain ⟨h1, h2⟩ := b2 h
      obtain ⟨rfl, g1, g2⟩ := C.blt h2
      have e := of_decide_eq_true h3
      subst e
      exact ke_listItems (C.calm (bn h1)) g1 g2 h4 h5 (G.kr C h6)
    · cases h
  · split at h
    · obtain ⟨h, h6⟩ := b2 h
      obtain ⟨h, h5⟩ := b2 h
      obtain ⟨h, h4⟩ := b2 h
      obtain ⟨h, h3⟩ := b2 h
      obtain ⟨h1, h2⟩ := b2 h
      obtain ⟨rfl, g1, g2⟩ := C.blt h2
      have e := of_decide_eq_true h3
      subst e
      exact ke_listValues (C.calm (bn h1)) g1 g2 h4 h5 (G.kr C h6)
    · cases h
  · split at h
    · obtain ⟨h, h5⟩ := b2 h
      obtain ⟨h, h4⟩ := b2 h
      obtain ⟨h, h3⟩ := b2 h
      obtain ⟨h1, h2⟩ := b2 h
      obtain ⟨rfl, g1, g2⟩ := C.blt h2
      have K := C.calls (bn h1)
      refine ke_olen g1 g2 (bn h4) (fun c k hk => ?_) (G.e h5 C)
      rw [fnm_eta (C.hx (bn h1))]
      exact K.meth _ _ (of_decide_eq_true h3) c k hk
    · cases h
  · split at h
    · obtain ⟨h, h8⟩ := b2 h
      obtain ⟨h, h7⟩ := b2 h
      obtain ⟨h, h6⟩ := b2 h
      obtain ⟨h, h5⟩ := b2 h
      obtain ⟨h, h4⟩ := b2 h
      obtain ⟨h, h3⟩ := b2 h
      obtain ⟨h1, h2⟩ := b2 h
      have e := of_decide_eq_true h1
      subst e
      exact ke_get (by omega) (m2_of h2 h3 (bn h4) (bn h5)) (G.kr C h6) (G.e h7 C) (G.e h8 C)
    · cases h
  · split at h
    · obtain ⟨h, h6⟩ := b2 h
      obtain ⟨h, h5⟩ := b2 h
      obtain ⟨h, h4⟩ := b2 h
      obtain ⟨h, h3⟩ := b2 h
      obtain ⟨h1, h2⟩ := b2 h
      have e := of_decide_eq_true h1
      subst e
      exact ke_popK (m1_of h2 h3 (bn h4)) (G.kr C h5) (G.e h6 C)
    · cases h
  · split at h
    · obtain ⟨h, h4⟩ := b2 h
      obtain ⟨h, h3⟩ := b2 h
      obtain ⟨h1, h2⟩ := b2 h
      exact p1_ok C (C.calm (bn h1)) h2 (bn h3) (G.kr C h4)
    · cases h
  · split at h
    · obtain ⟨h, h6⟩ := b2 h
      obtain ⟨h, h5⟩ := b2 h
      obtain ⟨h, h4⟩ := b2 h
      obtain ⟨h, h3⟩ := b2 h
      obtain ⟨h1, h2⟩ := b2 h
      obtain ⟨rfl, g1, g2⟩ := C.blt h2
      exact ke_max2 (C.calm (bn h1)) g1 g2 (bn h3) (bn h4) (G.e h5 C) (G.e h6 C)
    · cases h
  · split at h
    · obtain ⟨h, h7⟩ := b2 h
      obtain ⟨h, h6⟩ := b2 h
      obtain ⟨h, h5⟩ := b2 h
      obtain ⟨h, h4⟩ := b2 h
      obtain ⟨h, h3⟩ := b2 h
      obtain ⟨h1, h2⟩ := b2 h
      obtain ⟨rfl, g1, g2⟩ := C.blt h2
      obtain ⟨rfl, g3, g4⟩ := C.blt h3
      exact ke_zipDict g1 g2 g3 g4 (bn h4) (bn h5) (C.calm (bn h1)) (G.e h6 C) (G.e h7 C)
    · cases h
  · split at h
    · obtain ⟨h, h4⟩ := b2 h
      obtain ⟨h, h3⟩ := b2 h
      obtain ⟨h1, h2⟩ := b2 h
      obtain ⟨rfl, g1, g2⟩ := C.blt h1
      have h2 := bn h2
      split at h4
      · obtain ⟨h, h7⟩ := b2 h4
        obtain ⟨h5, h6⟩ := b2 h
        have h6 := of_decide_eq_true h6
        exact ke_isiC g1 g2 (C.gl h5) (C.fx.clA _ _ h6) (ndb_ok h7).1 h2 (C.fx.isc _ _ h6).1 (C.fx.isc _ _ h6).2 (G.e h3 C)
      · obtain ⟨h5, h6⟩ := b2 h4
        obtain ⟨rfl, m1, m2⟩ := C.blt h5
        obtain ⟨rfl, m3, m4⟩ := C.blt h6
        exact ke_isiTL g1 g2 m1 m2 m3 m4 h2 C.fx.ist C.fx.isk (G.e h3 C)
      · cases h4
      · obtain ⟨h5, h6⟩ := b2 h4
        obtain ⟨rfl, m1, m2⟩ := C.blt h5
        have h6 := of_decide_eq_true h6
        obtain ⟨k1, k2⟩ := C.fx.isi _ h6
        obtain ⟨k3, k4⟩ := ty_name h6
        exact ke_isi g1 g2 h6 m1 m2 k1 k3 k4 h2 k2 (G.e h3 C)
      · cases h4
    · cases h
  · exact ke_place (G.e h C)
  · split at h
    · obtain ⟨h, h4⟩ := b2 h
      obtain ⟨h, h3⟩ := b2 h
      obtain ⟨h1, h2⟩ := b2 h
      have e := of_decide_eq_true h1
      subst e
      exact ke_pop h2 h3 (G.kr C h4)
    · cases h
  · split at h
    · obtain ⟨h1, h2⟩ := b2 h
      obtain ⟨k0, k1, k2, k3, k4, k5, k6⟩ := G.comp C h1
      have z := ke_lc (C.calm k0) C.nd k1 k2 k3 k4 k5 (fun s H Ca cl fp => G.e h2 (C.in_ k0 s H Ca cl fp)) k6 (pos := ‹_›)
      rw [owOf_snd] at z
      exact z
    · cases h
  · split at h
    · obtain ⟨h, h3⟩ := b2 h
      obtain ⟨h1, h2⟩ := b2 h
      obtain ⟨k0, k1, k2, k3, k4, k5, k6⟩ := G.comp C h1
      have z := ke_dc (C.calm k0) C.nd k1 k2 k3 k4 k5 (fun s H Ca cl fp => G.e h2 (C.in_ k0 s H Ca cl fp)) (fun s H Ca cl fp => G.e h3 (C.in_ k0 s H Ca cl fp)) k6 (pos := ‹_›)
      rw [owOf_snd] at z
      exact z
    · cases h
  · exact (G.kc C h).1
theorem CkOk.ct (G : CkOk tb c) (C : Cok tb sc X cls fnm T W) (h : ckT tb c sc a x = true) : KT X cls fnm T W a x := by
  unfold ckT at h
  split at h
  · split at h
    · exact kt_not (G.t h C)
    · cases h
  · split at h
    · obtain ⟨h1, h2⟩ := b2 h
      split at h2
      · exact kt_and (G.t h1 C) (kt_oneA (G.t h2 C))
      · exact kt_and (G.t h1 C) (G.t h2 C)
    · cases h
  · split at h
    · obtain ⟨h1, h2⟩ := b2 h
      split at h2
      · exact kt_or (G.t h1 C) (kt_oneO (G.t h2 C))
      · exact kt_or (G.t h1 C) (G.t h2 C)
    · cases h
  · exact (G.kc C h).2
  · obtain ⟨h1, h2⟩ := b2 h
    exact kt_val (G.e h2 C) h1
theorem CkOk.gos (G : CkOk tb c) (C : Cok tb sc X cls fnm T W) : ∀ {ts : List Tg} {xs : List Expr}, ckG.go c sc ts xs = true → noStars xs = true → KGs X cls fnm ts xs ∧ xs.length = ts.length
  | [], [], _, _ => ⟨kgs_nil, rfl⟩
  | [], _ :: _, h, _ => by cases h
  | _ :: _, [], h, _ => by cases h
  | t :: ts, x :: xs, h, hs => by
    obtain ⟨h1, h2⟩ := b2 (show (c.g sc t x && ckG.go c sc ts xs) = true from h)
    obtain ⟨s1, s2⟩ := b2 (show (!starX x && noStars xs) = true from hs)
    obtain ⟨k1, k2⟩ := G.gos C h2 s2
    exact ⟨kgs_cons (G.g h1 C) k1 (bn s1), by rw [List.length_cons, List.length_cons, k2]⟩
theorem CkOk.cg (G : CkOk tb c) (C : Cok tb sc X cls fnm T W) {t : Tg} (h : ckG c sc t x = true) : KG X cls fnm t x := by
  unfold ckG at h
  split at h
  · obtain ⟨h1, h2⟩ := b2 h
    obtain ⟨k1, k2⟩ := C.own h2
    exact kg_var C.nd (by rw [C.N]; exact of_decide_eq_true h1) k1 k2
  · obtain ⟨h, h3⟩ := b2 h
    obtain ⟨h1, h2⟩ := b2 h
    obtain ⟨k1, k2⟩ := G.gos C h3 h2
    exact kg_tup (C.calm (bn h1)) k1 k2 h2
  · cases h
end
end Pm
namespace Pm
open PySem PySem.Spec PyProof.Rows L2 RZ
open PySem.W (Frag)
section
variable {tb : Tb} {sc : Sc} {X : Cx} {cls : Nat → Addr} {fnm : Fnm} {T : Tab} {W : WX} {a b : E} {x y z : Expr} {pos : Pos} {f0 : Nat → Str} {c : Ck}
theorem CkOk.kss (G : CkOk tb c) (C : Cok tb sc X cls fnm T W) : ∀ {l : List St} {xs : List Stmt}, ckSs c sc l xs = true → KSs X cls fnm T W l xs
  | [], [], _ => kss_nil
  | [], _ :: _, h => by cases h
  | _ :: _, [], h => by cases h
  | s :: l, x :: xs, h => by
    obtain ⟨h1, h2⟩ := b2 (show (c.s sc s x && ckSs c sc l xs) = true from h)
    exact kss_cons (G.s h1 C) (G.kss C h2)
theorem blk_kind (C : Cok tb sc X cls fnm T W) (h : (match sc.scope.kind with
    | .function => true
    | _ => false) = true) : X.env.blockKind = .function := by
  unfold Env.blockKind
  rw [C.scope]
  split at h
  · rename_i e
    rw [e]
    rfl
  · cases h
theorem noSwapT {tg : Expr} {env : Env} (h : notTup x = true) : swappedStores [tg] x env = pure none := by
  unfold swappedStores
  cases x <;> first | (cases h; done) | (cases tg <;> rfl)
def isS : Expr → Bool := fun | .Starred .. => true | _ => false
theorem st1 (x : Expr) (h : starX x = false) : isS x = false := by
  cases x <;> first | rfl | cases h
theorem swap2 (C : Cok tb sc X cls fnm T W) {n m : Str} {p q pt pt2 : Pos} {kt k2 : Nat} (h : swapC sc n m p q x y = true) : X.env.scope.names.lookup n = some .local ∧ X.env.scope.names.lookup m = some .local ∧ starX x = false ∧ starX y = false ∧
    swappedStores [.Tuple [.Name n p, .Name m q] kt pt] (.Tuple [x, y] k2 pt2) X.env = pure (some [n, m]) := by
  unfold swapC at h
  obtain ⟨h, h9⟩ := b2 h
  obtain ⟨h, h8⟩ := b2 h
  obtain ⟨h, h7⟩ := b2 h
  obtain ⟨h, h6⟩ := b2 h
  obtain ⟨h, h5⟩ := b2 h
  obtain ⟨h, h4⟩ := b2 h
  obtain ⟨h, h3⟩ := b2 h
  obtain ⟨h1, h2⟩ := b2 h
  have l1 := C.lc h1
  have l2 := C.lc h2
  have k1 : X.env.kindOf n = some .local := l1
  have k2' : X.env.kindOf m = some .local := l2
  have bk := blk_kind C h9
  have h7 := bn h7
  have h8 := bn h8
  have h4 := bn h4
  have e3 : p.line = q.line := eq_of_beq h3
  refine ⟨l1, l2, bn h5, bn h6, ?_⟩
  have mn : (n == m) = false := h4
  have hne : n ≠ m := by
    intro z
    rw [z] at mn
    simp at mn
  have hq : (q.line == p.line) = true := by rw [e3]; exact beq_self_eq_true _
  unfold swappedStores
  simp only [List.length_cons, List.length_nil, bk, h7, h8, k1, k2', List.head?_cons, Option.map_some, Option.getD_some, Expr.pos, List.filterMap_cons, List.filterMap_nil, beq_self_eq_true, hq, Bool.and_self, if_true]
  have ee : ([n, m].eraseDups).length = 2 := by
    have mn' : (m == n) = false := by
      cases q : (m == n) with
      | false => rfl
      | true => exact absurd (eq_of_beq q).symm hne
    simp [List.eraseDups_cons, mn, mn']
  simp [ee, bind, pure]
  exact ⟨st1 _ (bn h5), st1 _ (bn h6)⟩
theorem swapLc (C : Cok tb sc X cls fnm T W) {n : Str} {elt : Expr} {gens : List Comprehension} {scope : Scope} {p q : Pos} {line : Nat} (h : swapK sc n scope p q line = true) : X.env.scope.names.lookup n = some .local ∧ swapsWith (.ListComp elt gens scope q) (some (.Name n p)) line X.env = pure true := by
  unfold swapK at h
  obtain ⟨h, h4⟩ := b2 h
  obtain ⟨h, h3⟩ := b2 h
  obtain ⟨h1, h2⟩ := b2 h
  have l1 := C.lc h1
  have k1 : X.env.kindOf n = some .local := l1
  have bk := blk_kind C h4
  refine ⟨l1, ?_⟩
  unfold swapsWith
  show (pure (X.env.blockKind == .function && X.env.kindOf n == some .local && p.line == (Expr.ListComp elt gens scope q).pos.line && !(scope.names.any fun (m, k) => m == n && (k == .local || k == .cell))) : Sem Bool) = pure true
  have e : (Expr.ListComp elt gens scope q).pos.line = q.line := rfl
  rw [bk, k1, e, h2]
  have h3' : (scope.names.any fun (m, k) => m == n && (k == .local || k == .cell)) = false := bn h3
  rw [h3']
  rfl
theorem swapDc (C : Cok tb sc X cls fnm T W) {n : Str} {kx vx : Expr} {gens : List Comprehension} {scope : Scope} {p q : Pos} {line : Nat} (h : swapK sc n scope p q line = true) : swapsWith (.DictComp kx vx gens scope q) (some (.Name n p)) line X.env = pure true := by
  have z := (swapLc C h (elt := .Constant .none 0 ⟨0, 0, 0, 0⟩) (gens := gens)).2
  exact z
theorem noSwapC (C : Cok tb sc X cls fnm T W) {n : Str} {v : Expr} {p : Pos} {line : Nat} (h : sc.ce n = true) (hv : (∃ e g s q, v = .ListComp e g s q) ∨ ∃ k e g s q, v = .DictComp k e g s q) : swapsWith v (some (.Name n p)) line X.env = pure false := by
  have k1 : X.env.kindOf n = some .cell := by
    unfold Sc.ce at h
    unfold Env.kindOf
    rw [C.scope]
    split at h
    · assumption
    · cases h
  rcases hv with ⟨e, g, s, q, rfl⟩ | ⟨k, e, g, s, q, rfl⟩
  · unfold swapsWith
    show (pure (X.env.blockKind == .function && X.env.kindOf n == some .local && p.line == q.line && !(s.names.any fun (m, k) => m == n && (k == .local || k == .cell))) : Sem Bool) = pure false
    rw [k1, show ((some NameKind.cell : Option NameKind) == some .local) = false from rfl, Bool.and_false, Bool.false_and, Bool.false_and]
  · unfold swapsWith
    show (pure (X.env.blockKind == .function && X.env.kindOf n == some .local && p.line == q.line && !(s.names.any fun (m, k) => m == n && (k == .local || k == .cell))) : Sem Bool) = pure false
    rw [k1, show ((some NameKind.cell : Option NameKind) == some .local) = false from rfl, Bool.and_false, Bool.false_and, Bool.false_and]
theorem bneq {n m : Str} (h : (n == m) = false) : n ≠ m ∧ (m == n) = false := by
  have ne : n ≠ m := fun z => by
    rw [z] at h
    simp at h
  refine ⟨ne, ?_⟩
  cases q : (m == n) with
  | false => rfl
  | true => exact absurd (eq_of_beq q).symm ne
theorem swap3 (C : Cok tb sc X cls fnm T W) {n m o : Str} {p q r pt pt2 : Pos} {kt k2 : Nat} (h : swapC3 sc n m o p q r x y z = true) : (X.env.scope.names.lookup n = some .local ∧ X.env.scope.names.lookup m = some .local ∧ X.env.scope.names.lookup o = some .local) ∧ (starX x = false ∧ starX y = false ∧ starX z = false) ∧ (n ≠ m ∧ n ≠ o ∧ m ≠ o) ∧
    swappedStores [.Tuple [.Name n p, .Name m q, .Name o r] kt pt] (.Tuple [x, y, z] k2 pt2) X.env = pure (some [n, m, o]) := by
  unfold swapC3 at h
  obtain ⟨h, h14⟩ := b2 h
  obtain ⟨h, h13⟩ := b2 h
  obtain ⟨h, h12⟩ := b2 h
  obtain ⟨h, h11⟩ := b2 h
  obtain ⟨h, h10⟩ := b2 h
  obtain ⟨h, h9⟩ := b2 h
  obtain ⟨h, h8⟩ := b2 h
  obtain ⟨h, h7⟩ := b2 h
  obtain ⟨h, h6⟩ := b2 h
  obtain ⟨h, h5⟩ := b2 h
  obtain ⟨h, h4⟩ := b2 h
  obtain ⟨h, h3⟩ := b2 h
  obtain ⟨h1, h2⟩ := b2 h
  have l1 := C.lc h1
  have l2 := C.lc h2
  have l3 := C.lc h3
  have k1 : X.env.kindOf n = some .local := l1
  have k2' : X.env.kindOf m = some .local := l2
  have k3 : X.env.kindOf o = some .local := l3
  have bk := blk_kind C h14
  have h12 := bn h12
  have h13 := bn h13
  obtain ⟨n1, m1⟩ := bneq (bn h6)
  obtain ⟨n2, m2⟩ := bneq (bn h7)
  obtain ⟨n3, m3⟩ := bneq (bn h8)
  have e3 : p.line = q.line := eq_of_beq h4
  have e4 : p.line = r.line := eq_of_beq h5
  refine ⟨⟨l1, l2, l3⟩, ⟨bn h9, bn h10, bn h11⟩, ⟨n1, n2, n3⟩, ?_⟩
  have hq : (q.line == p.line) = true := by rw [e3]; exact beq_self_eq_true _
  have hr : (r.line == p.line) = true := by rw [e4]; exact beq_self_eq_true _
  unfold swappedStores
  simp only [List.length_cons, List.length_nil, bk, h12, h13, k1, k2', k3, List.head?_cons, Option.map_some, Option.getD_some, Expr.pos, List.filterMap_cons, List.filterMap_nil, beq_self_eq_true, hq, hr, Bool.and_self, if_true]
  have ee : ([n, m, o].eraseDups).length = 3 := by simp [List.eraseDups_cons, m1, m2, m3]
  simp [ee, bind, pure]
  exact ⟨st1 _ (bn h9), st1 _ (bn h10), st1 _ (bn h11)⟩
theorem CkOk.kh (G : CkOk tb c) (C : Cok tb sc X cls fnm T W) (h0 : sc.hot = false) : ∀ {hs : List (Nat × Option Nat × List St)} {hds : List ExceptHandler}, ckH tb c sc hs hds = true →
    HOk X hds (hsOf X cls fnm T hs) ∧ ∀ k, ∀ h ∈ hs, PySem.W.exmOne X.K (.ref (cls k)) (.ref (cls h.1)) = some (T.sub k h.1) := by
  intro hs
  induction hs with
  | nil =>
    intro hds h
    cases hds with
    | nil => exact ⟨.nil, fun k h hm => nomatch hm⟩
    | cons _ _ => cases h
  | cons hd hs ih =>
    intro hds h
    obtain ⟨k, o, b⟩ := hd
    unfold ckH at h
    split at h
    · contradiction
    · have e' := ‹(k, o, b) :: hs = _›
      cases e'
      obtain ⟨h, h5⟩ := b2 h
      obtain ⟨h, h4⟩ := b2 h
      obtain ⟨h, h3⟩ := b2 h
      obtain ⟨h1, h2⟩ := b2 h
      obtain ⟨h2, h20⟩ := b2 h2
      have h2 := of_decide_eq_true h2
      obtain ⟨r1, r2⟩ := ih h5
      refine ⟨.one ⟨C.gl h1, (ndb_ok h3).1, .inl (C.fx.clA _ _ h2)⟩ (fun a oe k' d pn hz hv => ?_) r1, fun k' h hm => ?_⟩
      · refine ⟨fun pins s σ H En I ⟨c0, e0, h⟩ => ?_⟩
        subst e0
        exact (G.kss (C.hot_ (pn := pn) hz hv) h4).run pins s σ H En I h
      · rcases List.mem_cons.mp hm with rfl | hm
        · exact C.fx.exm _ _ h2 h20 k'
        · exact r2 k' h hm
    · have e' := ‹(k, o, b) :: hs = _›
      cases e'
      obtain ⟨h, h5⟩ := b2 h
      obtain ⟨h, h4⟩ := b2 h
      obtain ⟨h, h7⟩ := b2 h
      obtain ⟨h, h6⟩ := b2 h
      obtain ⟨h, h3⟩ := b2 h
      obtain ⟨h1, h2⟩ := b2 h
      obtain ⟨h2, h20⟩ := b2 h2
      have h2 := of_decide_eq_true h2
      obtain ⟨r1, r2⟩ := ih h5
      refine ⟨.as_ ⟨C.gl h1, (ndb_ok h3).1, .inl (C.fx.clA _ _ h2)⟩ (by rw [C.N]; exact of_decide_eq_true h6) (C.lc h7) (fun a oe k' d pn hz hv => ?_) r1, fun k' h hm => ?_⟩
      · refine ⟨fun pins s σ H En I ⟨c0, e0, h⟩ => ?_⟩
        subst e0
        exact (G.kss (C.hot_ (pn := pn) hz hv) h4).run pins s σ H En I h
      · rcases List.mem_cons.mp hm with rfl | hm
        · exact C.fx.exm _ _ h2 h20 k'
        · exact r2 k' h hm
    · cases h
theorem sub_assign {p : Pos} {env : Env} (h : plainI y = true) : ∀ v, assign (.Subscript x y p) env v = (do
      let ov ← holding [v] (eval x env)
      let iv ← holding [v, ov] (eval y env)
      standAt p
      holding [v, ov, iv] (setItem ov iv v)
      release [v, ov, iv] []) := by
  intro v
  cases y <;> first | rfl | cases h
theorem CkOk.cs (G : CkOk tb c) (C : Cok tb sc X cls fnm T W) {st : St} {sx : Stmt} (h : ckS tb c sc st sx = true) : KS X cls fnm T W st sx := by
  have hu : X.A.units + 1 < cLine := by have := C.u; omega
  unfold ckS at h
  obtain ⟨hb, h⟩ := b2 h
  have hb := bn hb
  split at h
  · split at h
    · exact ks_pass
    · cases h
  · split at h
    · obtain ⟨h1, h2⟩ := b2 h
      exact ks_expr (bn h1) (G.e h2 C)
    · cases h
  · split at h
    · obtain ⟨h, h3⟩ := b2 h
      obtain ⟨h1, h2⟩ := b2 h
      have h1 := of_decide_eq_true h1
      rw [← C.N] at h1
      obtain ⟨k1, k2⟩ := C.own h2
      split at h3
      · split at h3
        · rename_i hce
          exact ks_setC C.nd h1 k1 k2 (noSwapC C hce (.inl ⟨_, _, _, _, rfl⟩)) (G.e h3 C)
        obtain ⟨h, h6⟩ := b2 h3
        obtain ⟨h4, h5⟩ := b2 h
        obtain ⟨g0, g1, g2, g3, g4, g5, g6⟩ := G.comp C h5
        have z : KS X cls fnm T W (.asg (.var _) (.lc ((owOf sc _).map (·.2)) _ _ _ _ _ _)) (.Assign [.Name _ _] (.ListComp _ [⟨_, _, _, 0⟩] _ _) _) := ks_setLc (C.calm g0) C.nd h1 (swapLc C h4 (elt := .Constant .none 0 ⟨0, 0, 0, 0⟩) (gens := [])).1 (swapLc C h4).2 g1 g2 g3 g4 g5 (fun s H Ca cl fp => G.e h6 (C.in_ g0 s H Ca cl fp)) g6
        rw [owOf_snd] at z
        exact z
      · split at h3
        · rename_i hce
          exact ks_setC C.nd h1 k1 k2 (noSwapC C hce (.inr ⟨_, _, _, _, _, rfl⟩)) (G.e h3 C)
        obtain ⟨h, h7⟩ := b2 h3
        obtain ⟨h, h6⟩ := b2 h
        obtain ⟨h4, h5⟩ := b2 h
        obtain ⟨g0, g1, g2, g3, g4, g5, g6⟩ := G.comp C h5
        have z : KS X cls fnm T W (.asg (.var _) (.dc ((owOf sc _).map (·.2)) _ _ _ _ _ _ _)) (.Assign [.Name _ _] (.DictComp _ _ [⟨_, _, _, 0⟩] _ _) _) := ks_setDc (C.calm g0) C.nd h1 (swapLc C h4 (elt := .Constant .none 0 ⟨0, 0, 0, 0⟩) (gens := [])).1 (swapDc C h4) g1 g2 g3 g4 g5 (fun s H Ca cl fp => G.e h6 (C.in_ g0 s H Ca cl fp)) (fun s H Ca cl fp => G.e h7 (C.in_ g0 s H Ca cl fp)) g6
        rw [owOf_snd] at z
        exact z
      · obtain ⟨h4, h5⟩ := b2 h3
        exact ks_set C.nd h1 k1 k2 (bn h4) (G.e h5 C)
    · cases h
  · split at h
    · obtain ⟨h, h5⟩ := b2 h
      obtain ⟨h, h4⟩ := b2 h
      obtain ⟨h, h3⟩ := b2 h
      obtain ⟨h, h2⟩ := b2 h
      obtain ⟨h0, h1⟩ := b2 h
      exact ks_asg (bn h0) (noSwapT h1) (bn h3) (bn h2) (G.e h4 C) (G.g h5 C)
    · cases h
  · split at h
    · obtain ⟨h, h6⟩ := b2 h
      obtain ⟨h, h5⟩ := b2 h
      obtain ⟨h, h4⟩ := b2 h
      obtain ⟨h, h3⟩ := b2 h
      obtain ⟨h1, h2⟩ := b2 h
      obtain ⟨g1, g2, g3, g4, g5⟩ := swap2 C h2
      have h3 := of_decide_eq_true h3
      have h4 := of_decide_eq_true h4
      rw [← C.N] at h3 h4
      have hij : ∀ {i j : Nat} {n m : Str}, X.N[i]? = some n → X.N[j]? = some m → n ≠ m → i ≠ j := fun e1 e2 ne z => by
        subst z
        rw [e1] at e2
        exact ne (Option.some.inj e2)
      have hne : ∀ {n m : Str} {p q : Pos} {x y : Expr}, swapC sc n m p q x y = true → n ≠ m := fun h z => by
        unfold swapC at h
        simp only [Bool.and_eq_true] at h
        have q := h.1.1.1.1.1.2
        rw [z] at q
        simp at q
      exact ks_par2 (C.calm (bn h1)) C.nd h3 h4 (hij h3 h4 (hne h2)) g1 g2 (ksl_cons (G.e h5 C) (ksl_cons (G.e h6 C) ksl_nil g4) g3) g5
    · cases h
  · split at h
    · obtain ⟨h, h8⟩ := b2 h
      obtain ⟨h, h7⟩ := b2 h
      obtain ⟨h, h6⟩ := b2 h
      obtain ⟨h, h5⟩ := b2 h
      obtain ⟨h, h4⟩ := b2 h
      obtain ⟨h, h3⟩ := b2 h
      obtain ⟨h1, h2⟩ := b2 h
      obtain ⟨⟨g1, g2, g3⟩, ⟨s1, s2, s3⟩, ⟨n1, n2, n3⟩, g5⟩ := swap3 C h2
      have h3 := of_decide_eq_true h3
      have h4 := of_decide_eq_true h4
      have h5 := of_decide_eq_true h5
      rw [← C.N] at h3 h4 h5
      have hij : ∀ {i j : Nat} {n m : Str}, X.N[i]? = some n → X.N[j]? = some m → n ≠ m → i ≠ j := fun e1 e2 ne z => by
        subst z
        rw [e1] at e2
        exact ne (Option.some.inj e2)
      exact ks_par3 (C.calm (bn h1)) C.nd h3 h4 h5 (hij h3 h4 n1) (hij h3 h5 n2) (hij h4 h5 n3) g1 g2 g3 (ksl_cons (G.e h6 C) (ksl_cons (G.e h7 C) (ksl_cons (G.e h8 C) ksl_nil s3) s2) s1) g5
    · cases h
  · split at h
    · obtain ⟨h, h5⟩ := b2 h
      obtain ⟨h, h4⟩ := b2 h
      obtain ⟨h, h3⟩ := b2 h
      obtain ⟨h1, h2⟩ := b2 h
      exact ks_setIx hu (bn h2) (G.e h5 C) (G.kr C h3) (G.e h4 C) (sub_assign h1)
    · cases h
  · split at h
    · obtain ⟨h, h4⟩ := b2 h
      obtain ⟨h, h3⟩ := b2 h
      obtain ⟨h1, h2⟩ := b2 h
      obtain ⟨rfl, inj⟩ := C.fx.fld _ _ (of_decide_eq_true h1)
      exact ks_setF inj (C.fx.flc _) (bn h2) (G.e h4 C) (G.e h3 C)
    · cases h
  · split at h
    · obtain ⟨h, h6⟩ := b2 h
      obtain ⟨h, h5⟩ := b2 h
      obtain ⟨h, h4⟩ := b2 h
      obtain ⟨h, h3⟩ := b2 h
      obtain ⟨h1, h2⟩ := b2 h
      have e := of_decide_eq_true h1
      subst e
      exact ks_app h2 h3 (bn h4) (G.kr C h5) (G.e h6 C)
    · cases h
  · split at h
    · obtain ⟨h, h3⟩ := b2 h
      obtain ⟨h1, h2⟩ := b2 h
      exact ks_if (G.t h1 C) (G.kss C h2) (G.kss C h3)
    · cases h
  · split at h
    · obtain ⟨h, h5⟩ := b2 h
      obtain ⟨h, h4⟩ := b2 h
      obtain ⟨h, h3⟩ := b2 h
      obtain ⟨h1, h2⟩ := b2 h
      exact ks_for (C.po (bn h1) hb) (C.calm (bn h1)) (G.ki C h2) (G.g h3 C) (G.kss C h4) (notSet_fold h5 _)
    · cases h
  · split at h
    · obtain ⟨h, h3⟩ := b2 h
      obtain ⟨h1, h2⟩ := b2 h
      exact ks_while (C.po (bn h1) hb) (G.t h2 C) (G.kss C h3)
    · cases h
  · split at h
    · exact ks_ret (G.km C h)
    · split at h
      · exact ks_retN
      · cases h
    · cases h
  · split at h
    · obtain ⟨h, h7⟩ := b2 h
      obtain ⟨h, h6⟩ := b2 h
      obtain ⟨h, h5⟩ := b2 h
      obtain ⟨h, h4⟩ := b2 h
      obtain ⟨h, h3⟩ := b2 h
      obtain ⟨h1, h2⟩ := b2 h
      split at h7
      · rename_i f e7
        obtain ⟨k1, k2, k3⟩ := C.fx.exc _ _ e7
        obtain ⟨r, hr⟩ := (C.calls (bn h1)).room
        exact ks_raise1 (C.calm (bn h1)) k2 k3 k1 hr C.tk (C.gl h2) (C.fx.clA _ _ (of_decide_eq_true h3)) (ndb_ok h4).1 (bn h5) (G.kl C h6)
      · cases h7
    · obtain ⟨h, h7⟩ := b2 h
      obtain ⟨h, h4⟩ := b2 h
      obtain ⟨h, h3⟩ := b2 h
      obtain ⟨h1, h2⟩ := b2 h
      split at h7
      · rename_i e7
        obtain ⟨k1, k2, k3⟩ := C.fx.exc0 _ e7
        obtain ⟨r, hr⟩ := (C.calls (bn h1)).room
        exact ks_raise0 (C.calm (bn h1)) k2 k3 k1 hr C.tk (C.gl h2) (C.fx.clA _ _ (of_decide_eq_true h3)) (ndb_ok h4).1
      · cases h7
    · cases h
  · split at h
    · obtain ⟨h, h3⟩ := b2 h
      obtain ⟨h1, h2⟩ := b2 h
      have h0 := bn h1
      obtain ⟨g1, g2⟩ := G.kh C h0 h3
      exact ks_try (C.hx h0) C.nd (C.st hb).1 (C.st hb).2 C.tk g2 (fun W' pn xe tk po => G.kss (C.tr_ h0 tk po) h2) g1
    · cases h
  · cases h
theorem ck_ok (tb : Tb) : ∀ n, CkOk tb (ck tb n)
  | 0 => by constructor <;> intros <;> contradiction
  | n + 1 => by
    have G := ck_ok tb n
    exact { e := fun h C => G.ce C h, t := fun h C => G.ct C h, g := fun h C => G.cg C h, s := fun h C => G.cs C h }
end
end Pm
namespace Pm
open PySem PySem.Spec PyProof.Rows L2 RZ
open PySem.W (Frag)
def Ty.no : Ty → Nat
  | .int => 0
  | .str => 1
  | .bool => 2
  | .tup => 3
  | .lst => 4
  | .dct => 5
  | .tupOrLst => 6
  | .cls c => 7 + c
def Ty.of : Nat → Ty
  | 0 => .int
  | 1 => .str
  | 2 => .bool
  | 3 => .tup
  | 4 => .lst
  | 5 => .dct
  | 6 => .tupOrLst
  | n + 7 => .cls n
theorem Ty.of_no (t : Ty) : Ty.of t.no = t := by
  cases t <;> first | rfl | skip
  rename_i c
  show Ty.of (7 + c) = .cls c
  rw [Nat.add_comm]
  rfl
structure Fd where
  at_ : Str × Option Str
  pr : Bool := false
  qual : Str
  ps : List Str
  N : List Str
  code : Code
structure Pr where
  clsN : List Str
  fns : List Fd
  tb : Tb
  meth : List ((Nat × Nat) × Nat)
  prop : List ((Nat × Nat) × Nat)
  oeq : List (Nat × Nat)
  init : List (Nat × Nat)
  val : List Nat
  flds : List (Nat × List Nat)
  isic : List ((Nat × Nat) × Bool)
  sub : List (Nat × Nat)
  glob : List D
def Pr.nrm (p : Pr) (c : Nat) : Nat := if c < p.clsN.length then c else 0
def Pr.subB (p : Pr) (c h : Nat) : Bool := p.sub.contains (p.nrm c, h)
def tabOf (p : Pr) : Nat → Tab
  | 0 => ⟨fun _ _ _ => .bad, fun c m => p.meth.lookup (c, m), fun c => p.oeq.lookup c, fun c m => p.prop.lookup (c, m), fun c => p.init.lookup c, fun c => p.val.contains c, fun k => p.glob[k]?, fun c => (p.tb.exf.lookup c).getD [], fun c => (p.flds.lookup c).getD [], fun c t => p.isic.lookup (c, t.no), p.subB⟩
  | n + 1 => ⟨fun g ds res => match p.fns[g]? with
    | some f => runCode (tabOf p n) f.code ds res
    | none => .bad, fun c m => p.meth.lookup (c, m), fun c => p.oeq.lookup c, fun c m => p.prop.lookup (c, m), fun c => p.init.lookup c, fun c => p.val.contains c, fun k => p.glob[k]?, fun c => (p.tb.exf.lookup c).getD [], fun c => (p.flds.lookup c).getD [], fun c t => p.isic.lookup (c, t.no), p.subB⟩
def Pr.cn (p : Pr) (c : Nat) : Str := p.clsN.getD c (p.clsN.getD 0 Str.empty)
def clsK (p : Pr) (K : Frag) (c : Nat) : Addr := He.ga K (p.cn c)
def Pr.f0 (p : Pr) (f : Nat) : Str := match p.tb.fld[f]? with
  | some n => n
  | none => ⟨Array.replicate (f + 100) 120⟩
def getAd (K : Frag) (C : Addr) (m : Str) : Addr := match PySem.W.findIn K (.ref C) m with
  | some (some (.ref q)) => (match PySem.W.recIn K q "property" with
    | some (.ref g :: _) => g
    | _ => 0)
  | _ => 0
def faK (K : Frag) (f : Fd) : Addr := match f.at_.2 with
  | none => He.ga K f.at_.1
  | some m => if f.pr then getAd K (He.ga K f.at_.1) m else He.ma K (He.ga K f.at_.1) m
def fa (p : Pr) (K : Frag) (g : Nat) : Addr := match p.fns[g]? with
  | some f => faK K f
  | none => 0
def scOf (f : Fd) (scope : Scope) : Sc := ⟨f.N, scope, false, false, fun _ => true⟩
def plainArgs (a : Arguments) (ps : List Str) : Bool := a.posonlyargs.isEmpty && a.vararg.isNone && a.kwonlyargs.isEmpty && a.kwarg.isNone && decide (a.args.map (·.arg) = ps)
def fdB (tb : Tb) (K : Frag) (f : Fd) (fd : FuncData) : Bool := PySem.W.codeIn K fd.code f.qual && (decide (fd.qualname = f.qual) && (decide (fd.globals = mainGlobals) && (fd.closure.isEmpty && (decide (fd.builtins = builtinsNs) && ((match fd.defaults with
    | .none => true
    | _ => false) && (plainArgs fd.params f.ps && (decide f.ps.Nodup && (C8.scC f.N f.ps fd.scope && (decide (f.N.length = f.code.n) && (decide (f.ps.length = f.code.ar) && (match fd.body with
    | .stmts b => ckSs (ck tb 60) (scOf f fd.scope) f.code.body b
    | _ => false)))))))))))
def fnB (tb : Tb) (K : Frag) (f : Fd) : Bool := PySem.W.keepIn K (.ref (faK K f)) && (match K.lookup (faK K f) with
  | some ⟨_, _, .func fd, _⟩ => fdB tb K f fd
  | _ => false)
theorem lk_mem {α β : Type} [BEq α] [LawfulBEq α] {a : α} {b : β} : ∀ {l : List (α × β)}, l.lookup a = some b → (a, b) ∈ l
  | [], h => by cases h
  | (c, d) :: r, h => by
    rw [List.lookup_cons] at h
    cases q : (a == c) with
    | true =>
      rw [q] at h
      cases h
      rw [eq_of_beq q]
      exact List.mem_cons_self
    | false =>
      rw [q] at h
      exact List.mem_cons_of_mem _ (lk_mem h)
structure FnT (tb : Tb) (K : Frag) (f : Fd) (fd : FuncData) : Prop where
  kp : PySem.W.keepIn K (.ref (faK K f)) = true
  ex : ∃ (oc : Value) (od : Option Addr) (osl : Array (Option Value)) (x : Str) (ar : Arguments) (body : List Stmt) (scope : Scope) (kV doc pm : Value) (an : Option Addr) (cdv ct : Value), fd = PySem.W.fnOf x f.qual ar body scope .none kV doc pm an cdv ct ∧ K.lookup (faK K f) = some ⟨oc, od, .func fd, osl⟩ ∧ PySem.W.codeIn K cdv f.qual = true ∧
    FnScope f.N f.ps scope ∧ ckSs (ck tb 60) (scOf f scope) f.code.body body = true
  binds : ∀ us : List Value, us.length = f.ps.length → bindArgs fd ⟨us, []⟩ = pure (f.ps.zip us)
  n : f.N.length = f.code.n
  ar : f.ps.length = f.code.ar
theorem fnB_ok {tb : Tb} {K : Frag} {f : Fd} (h : fnB tb K f = true) : ∃ fd, FnT tb K f fd := by
  obtain ⟨kp, h⟩ := b2 h
  split at h
  · rename_i oc od fd osl e
    unfold fdB at h
    obtain ⟨h1, h⟩ := b2 h
    obtain ⟨h2, h⟩ := b2 h
    obtain ⟨h3, h⟩ := b2 h
    obtain ⟨h4, h⟩ := b2 h
    obtain ⟨h5, h⟩ := b2 h
    obtain ⟨h6, h⟩ := b2 h
    obtain ⟨h7, h⟩ := b2 h
    obtain ⟨h8, h⟩ := b2 h
    obtain ⟨h9, h⟩ := b2 h
    obtain ⟨h10, h⟩ := b2 h
    obtain ⟨h11, h12⟩ := b2 h
    obtain ⟨n1, n2, n3, n4, n5, n6, n7, n8, n9, n10, n11, n12, n13, n14, n15⟩ := fd
    dsimp only at h1 h2 h3 h4 h5 h6 h7 h8 h9 h10 h11 h12
    have e2 := of_decide_eq_true h2
    have e3 := of_decide_eq_true h3
    have e5 := of_decide_eq_true h5
    have e4 : n7 = [] := List.isEmpty_iff.mp h4
    have e6 : n8 = .none := by
      cases n8 <;> first | rfl | cases h6
    split at h12
    · subst e2 e3 e4 e5 e6
      unfold plainArgs at h7
      obtain ⟨h7, k5⟩ := b2 h7
      obtain ⟨h7, k4⟩ := b2 h7
      obtain ⟨h7, k3⟩ := b2 h7
      obtain ⟨k1, k2⟩ := b2 h7
      exact ⟨_, ⟨kp, ⟨oc, od, osl, n1, n3, _, n5, n9, n10, n11, n12, n13, n14, rfl, e, h1, C8.fnScope_by h9, h12⟩, fun us hl => PySem.bind_plain (of_decide_eq_true k5) (List.isEmpty_iff.mp k1) (Option.isNone_iff_eq_none.mp k2) (List.isEmpty_iff.mp k3) (Option.isNone_iff_eq_none.mp k4) rfl (of_decide_eq_true h8) hl, of_decide_eq_true h10, of_decide_eq_true h11⟩⟩
    · cases h12
  · cases h
theorem fn_lvl {p : Pr} {prog : Program} {w : World} {K : Frag} {mg : Str → Option Value} {base : Heap} {cls : Nat → Addr} {f0 : Nat → Str} {f : Fd} {fd : FuncData} {T : Tab} {k : Nat} (F : FnT p.tb K f fd)
    (hf : ∀ X : Cx, X.prog = prog → X.w = w → X.K = K → X.mg = mg → X.base = base → Room k X.A → Fx p.tb X cls f0 T ∧ Calls p.tb X cls f0 T) :
    FnOk prog w K mg base (L2.CX prog w) (k + 1) (faK K f) fd f.ps (spF ⟨K, w, cls, ⟨f0, none⟩⟩ (runCode T f.code) f.code.ar) := by
  obtain ⟨oc, od, osl, x, ar, body, scope, kV, doc, pm, an, cdv, ct, rfl, lk, hcd, Sc1, hck⟩ := F.ex
  refine fn_of lk hcd Sc1 (fun vs H Q E h => h.1.trans F.ar.symm) fun A outer s H vs Q E hr ⟨hl, g, res, ds, R1, i, m⟩ => ?_
  refine ⟨_, ?_, body_ok F.n R1 i hl m⟩
  obtain ⟨hfx, hcl⟩ := hf (cxOf (L2.CX prog w) prog w K mg base f.N f.qual scope (faK K f) cdv A outer s H E) rfl rfl rfl rfl rfl hr
  refine (ck_ok p.tb 60).kss (sc := scOf f scope) ?_ hck
  exact { N := rfl, nd := Sc1.nd, scope := rfl, cel := fun _ _ => rfl, u := by have := hr.un; show (A.deeper _).units + 100 < _; omega, calm := fun _ => rfl, tk := takes_of rfl rfl rfl rfl, hx := fun _ => rfl, fx := hfx, calls := fun _ => hcl, st := fun _ => ⟨rfl, rfl⟩, po := fun _ _ => passes_of rfl, hotx := fun h => by cases h }
end Pm
namespace Pm
open PySem PySem.Spec PyProof.Rows L2 RZ
open PySem.W (Frag)
def tyNames : List String := ["NoneType", "bool", "int", "str", "tuple", "list", "dict"]
theorem tn_mem {d : D} {n : String} (h : D.tn d = some n) : n ∈ tyNames := by
  cases d <;> first | cases h | skip
  all_goals (unfold tyNames; simp)
def eqV (a b : Option (Option Value)) : Bool := decide (a = b)
theorem eqV_ok {a b : Option (Option Value)} (h : eqV a b = true) : a = b := of_decide_eq_true h
def clsB (K : Frag) (C : Addr) : Bool := PySem.W.plainGet K C Str.empty && (PySem.W.hasDictIn K C && (PySem.W.plainOver K C && eqV (PySem.W.findIn K (.ref C) "__setattr__") (some (some (.builtin "object.__setattr__")))))
theorem clsB_ok {K : Frag} {C : Addr} (h : clsB K C = true) : Cls K C := by
  obtain ⟨h1, h⟩ := b2 h
  obtain ⟨h2, h⟩ := b2 h
  obtain ⟨h3, h4⟩ := b2 h
  exact ⟨h1, h2, h3, eqV_ok h4⟩
def isiB (K : Frag) (C : Addr) : Bool := clsB K C && (eqV (PySem.W.findIn K (.ref C) "__class__") (some (some (.builtin "object.__class__"))) && (eqV (PySem.W.specialIn K (.builtin "object.__class__") "__get__") (some (some (.builtin "getset_descriptor.__get__"))) &&
  (decide (PySem.W.takesIn K (.builtin "object.__class__") = some true) && decide (PySem.W.mroIn K C (.type "object") = some true))))
theorem isiB_ok {K : Frag} {C : Addr} (h : isiB K C = true) : IsiC K C := by
  obtain ⟨h1, h⟩ := b2 h
  obtain ⟨h2, h⟩ := b2 h
  obtain ⟨h3, h⟩ := b2 h
  obtain ⟨h4, h5⟩ := b2 h
  exact ⟨clsB_ok h1, eqV_ok h2, eqV_ok h3, of_decide_eq_true h4, of_decide_eq_true h5⟩
def xicB (K : Frag) (C : Addr) : Bool := eqV (PySem.W.findIn K (.ref C) "__getattribute__") (some (some (.builtin "BaseException.__getattribute__"))) && (eqV (PySem.W.findIn K (.ref C) "__getattr__") (some none) && (decide (PySem.W.subIn K (.ref C) (.type "BaseException") = some true) && (PySem.W.hasDictIn K C &&
  (eqV (PySem.W.findIn K (.ref C) "__class__") (some (some (.builtin "object.__class__"))) && (eqV (PySem.W.specialIn K (.builtin "object.__class__") "__get__") (some (some (.builtin "getset_descriptor.__get__"))) && (decide (PySem.W.takesIn K (.builtin "object.__class__") = some true) && decide (PySem.W.mroIn K C (.type "object") = some true)))))))
theorem xicB_ok {K : Frag} {C : Addr} (h : xicB K C = true) : PySem.Pmx.XIc K C := by
  obtain ⟨h1, h⟩ := b2 h
  obtain ⟨h2, h⟩ := b2 h
  obtain ⟨h3, h⟩ := b2 h
  obtain ⟨h4, h⟩ := b2 h
  obtain ⟨h5, h⟩ := b2 h
  obtain ⟨h6, h⟩ := b2 h
  obtain ⟨h7, h8⟩ := b2 h
  exact ⟨eqV_ok h1, eqV_ok h2, of_decide_eq_true h3, h4, eqV_ok h5, eqV_ok h6, of_decide_eq_true h7, of_decide_eq_true h8⟩
def excB (K : Frag) (C : Addr) : Bool := PySem.W.keepIn K (.ref C) && (decide (PySem.W.subIn K (.ref C) (.type "BaseException") = some true) && decide (PySem.W.typeIn K (.ref C) = some (.type "type")))
theorem excB_ok {X : Cx} {C : Addr} (h : excB X.K C = true) : XCls X C := by
  obtain ⟨h1, h⟩ := b2 h
  obtain ⟨h2, h3⟩ := b2 h
  exact ⟨h1, of_decide_eq_true h2, of_decide_eq_true h3⟩
def xoB (K : Frag) (C : Addr) : Bool := match K.lookup C with
  | some ⟨.type T, _, .cls cd, sl⟩ => decide (T = "type") && (match cd.mro, sl.toList with
    | .ref C' :: bm, [_, _, _, _, some (.builtin n), _] => decide (C' = C) && (decide (n = "ValueError.__new__") && (!cd.hasDel && (cd.hasDict && PySem.HandSPX.refsVE bm)))
    | _, _ => false)
  | _ => false
theorem xoB_ok {K : Frag} {C : Addr} (h : xoB K C = true) : ∃ nm q N bs bm sn sub ab col dd k0 k1 k2 k3 k5, K.lookup C = some (excClassObj nm q C N bs bm true sn sub ab col dd k0 k1 k2 k3 k5 "ValueError.__new__") ∧ PySem.HandSPX.refsVE bm = true := by
  unfold xoB at h
  split at h
  · rename_i T dd cd sl ho
    obtain ⟨ht, hh⟩ := b2 h
    have ht := of_decide_eq_true ht
    subst ht
    split at hh
    · rename_i C' bm k0 k1 k2 k3 n k5 hm hs
      obtain ⟨h1, h⟩ := b2 hh
      obtain ⟨h2, h⟩ := b2 h
      obtain ⟨h3, h⟩ := b2 h
      obtain ⟨h4, h5⟩ := b2 h
      have h1 := of_decide_eq_true h1
      have h2 := of_decide_eq_true h2
      have z3 := bn h3
      subst h1 h2
      obtain ⟨nm, bs, mro, ns, qn, hd, sn, sub, ab, col, del⟩ := cd
      dsimp only at hm z3 h4
      subst hm z3 h4
      have hsl : sl = #[k0, k1, k2, k3, some (.builtin "ValueError.__new__"), k5] := by
        obtain ⟨l⟩ := sl
        simp only at hs
        rw [hs]
      subst hsl
      exact ⟨nm, qn, ns, bs, bm, sn, sub, ab, col, dd, k0, k1, k2, k3, k5, ho, h5⟩
    · cases hh
  · cases h
def codB (prog : Program) (K : Frag) (a : Addr) : Bool := match K.lookup a with
  | some ⟨_, _, .fields vs, _⟩ => (match (vs[2]? : Option Value) with
    | some (.str file _) => (prog.main.file == file)
    | _ => false)
  | _ => false
theorem codB_ok {prog : Program} {K : Frag} {a : Addr} (h : codB prog K a = true) : ∃ (ccl : Value) (cdd : Option Addr) (ccs : Array (Option Value)) (vs : Array Value) (file : Str) (tf : Tok), K.lookup a = some ⟨ccl, cdd, .fields vs, ccs⟩ ∧ vs[2]? = some (.str file tf) ∧ ((prog.main.file : Str) == file) = true := by
  unfold codB at h
  split at h
  · rename_i ho
    split at h
    · rename_i hv
      exact ⟨_, _, _, _, _, _, ho, hv, h⟩
    · cases h
  · cases h
def celB (K : Frag) (C a : Addr) : Bool := match K.lookup a with
  | some ⟨_, _, .cell (some (.ref b)), _⟩ => decide (b = C)
  | _ => false
theorem celB_ok {K : Frag} {C a : Addr} (h : celB K C a = true) : ∃ (cl : Value) (cld : Option Addr) (csl : Array (Option Value)), K.lookup a = some ⟨cl, cld, .cell (some (.ref C)), csl⟩ := by
  unfold celB at h
  split at h
  · rename_i ho
    rw [of_decide_eq_true h] at ho
    exact ⟨_, _, _, ho⟩
  · cases h
def xtB (prog : Program) (K : Frag) (C fI cda cc : Addr) : Bool := xoB K C && (decide (PySem.W.typeIn K (.ref fI) = some (.type "function")) && (codB prog K cda && (celB K C cc && (decide (PySem.W.mroIn K C (.ref C) = some true) && (eqV (PySem.W.nsIn K mainGlobals "super") (some none) &&
  (!(prog.main.scope.names.lookup ("super" : Str)).isSome && (eqV (PySem.W.ks_superIn K C C "__init__") (some (some (.builtin "ValueError.__init__"))) && (decide (PySem.W.subIn K (.ref C) (.type "ValueError") = some true) && eqV (PySem.W.nsIn K cStatics "thirdparty.any") (some none)))))))))
theorem xtB_ok {prog : Program} {K : Frag} {C fI cda cc : Addr} (h : xtB prog K C fI cda cc = true) : PySem.Pmx.XTxt prog K C fI cda cc := by
  obtain ⟨h1, h⟩ := b2 h
  obtain ⟨h2, h⟩ := b2 h
  obtain ⟨h3, h⟩ := b2 h
  obtain ⟨h4, h⟩ := b2 h
  obtain ⟨h5, h⟩ := b2 h
  obtain ⟨h6, h⟩ := b2 h
  obtain ⟨h7, h⟩ := b2 h
  obtain ⟨h8, h⟩ := b2 h
  obtain ⟨h9, h10⟩ := b2 h
  exact ⟨xoB_ok h1, of_decide_eq_true h2, codB_ok h3, celB_ok h4, of_decide_eq_true h5, eqV_ok h6, bn h7, eqV_ok h8, of_decide_eq_true h9, eqV_ok h10⟩
def loB (scope : Scope) (ns : List Str) : Bool := decide (scope.names.lookup ("super" : Str) = some .globalImplicit) && (decide (scope.names.lookup ("__class__" : Str) = some .free) && ((ns.all fun n => decide (scope.names.lookup n = some .local)) && ((scope.names.all fun y => !decide (y.2 = .cell)) && (decide (scope.kind = .function) && (!scope.isCoroutine && !scope.isGenerator)))))
theorem loB_ok {scope : Scope} {ns : List Str} (h : loB scope ns = true) : PySem.Pmx.ScOk scope ns := by
  obtain ⟨h1, h⟩ := b2 h
  obtain ⟨h2, h⟩ := b2 h
  obtain ⟨h3, h⟩ := b2 h
  obtain ⟨h4, h⟩ := b2 h
  obtain ⟨h5, h⟩ := b2 h
  obtain ⟨h6, h7⟩ := b2 h
  exact ⟨of_decide_eq_true h1, of_decide_eq_true h2, fun n hn => of_decide_eq_true (List.all_eq_true.mp h3 n hn), fun y hy => of_decide_eq_false (bn (List.all_eq_true.mp h4 y hy)), of_decide_eq_true h5, bn h6, bn h7⟩
def x1F (prog : Program) (K : Frag) (C : Addr) (f : Str) (fI : Addr) : FuncData → Bool
  | ⟨nm, qual, ⟨[], [⟨a1, none, p1⟩, ⟨n, none, p7⟩], none, [], [], none, []⟩, .stmts [.Expr (.Call (.Attribute (.Call (.Name s0 p0) [] [] p2) s1 p3) [.Constant (.str txt) j p4] [] p5) p6, .Assign [.Attribute (.Name s2 q1) f' q2] (.Name n' q3) q4], scope, gl, [(cn, cc)], .none, kV, doc, pm, an, .ref cda, ct, bl⟩ =>
    decide (nm = "__init__") && (decide (a1 = "self") && (decide (s0 = "super") && (decide (s1 = "__init__") && (decide (s2 = "self") && (decide (f' = f) && (decide (n' = n) && (decide (cn = "__class__") && (decide (gl = mainGlobals) && (decide (bl = builtinsNs) && (xtB prog K C fI cda cc && (PySem.W.codeIn K (.ref cda) qual && (loB scope ["self", n] && ((p3.endLine == p5.line) && (!decide (("self" : Str) = n) && !(n == ("__debug__" : Str))))))))))))))))
  | _ => false
def x1B (prog : Program) (K : Frag) (C : Addr) (f : Str) : Bool := eqV (PySem.W.findIn K (.ref C) "__setattr__") (some (some (.builtin "object.__setattr__"))) && (eqV (PySem.W.findIn K (.ref C) f) (some none) && (match PySem.W.findIn K (.ref C) "__init__" with
  | some (some (.ref fI)) => (match K.lookup fI with
    | some ⟨_, _, .func fd, _⟩ => x1F prog K C f fI fd
    | _ => false)
  | _ => false))
theorem x1B_ok {prog : Program} {K : Frag} {C : Addr} {f : Str} (h : x1B prog K C f = true) : PySem.Pmx.X1 prog K C f := by
  obtain ⟨g1, h⟩ := b2 h
  obtain ⟨g2, hh⟩ := b2 h
  split at hh
  · rename_i fI hI
    split at hh
    · rename_i oc od fd osl ho
      unfold x1F at hh
      split at hh
      · obtain ⟨h1, h⟩ := b2 hh
        obtain ⟨h2, h⟩ := b2 h
        obtain ⟨h3, h⟩ := b2 h
        obtain ⟨h4, h⟩ := b2 h
        obtain ⟨h5, h⟩ := b2 h
        obtain ⟨h6, h⟩ := b2 h
        obtain ⟨h7, h⟩ := b2 h
        obtain ⟨h8, h⟩ := b2 h
        obtain ⟨h9, h⟩ := b2 h
        obtain ⟨h10, h⟩ := b2 h
        obtain ⟨h11, h⟩ := b2 h
        obtain ⟨h12, h⟩ := b2 h
        obtain ⟨h13, h⟩ := b2 h
        obtain ⟨h14, h⟩ := b2 h
        obtain ⟨h15, h16⟩ := b2 h
        have e1 := of_decide_eq_true h1
        have e2 := of_decide_eq_true h2
        have e3 := of_decide_eq_true h3
        have e4 := of_decide_eq_true h4
        have e5 := of_decide_eq_true h5
        have e6 := of_decide_eq_true h6
        have e7 := of_decide_eq_true h7
        have e8 := of_decide_eq_true h8
        have e9 := of_decide_eq_true h9
        have e10 := of_decide_eq_true h10
        subst e1 e2 e3 e4 e5 e6 e7 e8 e9 e10
        exact ⟨fI, _, _, _, _, _, _, _, _, _, _, _, _, _, _, _, _, _, _, _, _, _, _, _, _, _, _, _, xtB_ok h11, ho, h12, loB_ok h13, h14, of_decide_eq_false (bn h15), bn h16, eqV_ok g1, eqV_ok g2, hI⟩
      · cases hh
    · cases hh
  · cases hh
def x0F (prog : Program) (K : Frag) (C : Addr) (fI : Addr) : FuncData → Bool
  | ⟨nm, qual, ⟨[], [⟨a1, none, p1⟩], none, [], [], none, []⟩, .stmts [.Expr (.Call (.Attribute (.Call (.Name s0 p0) [] [] p2) s1 p3) [.Constant (.str txt) j p4] [] p5) p6], scope, gl, [(cn, cc)], .none, kV, doc, pm, an, .ref cda, ct, bl⟩ =>
    decide (nm = "__init__") && (decide (a1 = "self") && (decide (s0 = "super") && (decide (s1 = "__init__") && (decide (cn = "__class__") && (decide (gl = mainGlobals) && (decide (bl = builtinsNs) && (xtB prog K C fI cda cc && (PySem.W.codeIn K (.ref cda) qual && (loB scope ["self"] && (p3.endLine == p5.line))))))))))
  | _ => false
def x0B (prog : Program) (K : Frag) (C : Addr) : Bool := match PySem.W.findIn K (.ref C) "__init__" with
  | some (some (.ref fI)) => (match K.lookup fI with
    | some ⟨_, _, .func fd, _⟩ => x0F prog K C fI fd
    | _ => false)
  | _ => false
theorem x0B_ok {prog : Program} {K : Frag} {C : Addr} (h : x0B prog K C = true) : PySem.Pmx.X0 prog K C := by
  unfold x0B at h
  split at h
  · rename_i fI hI
    split at h
    · rename_i oc od fd osl ho
      unfold x0F at h
      split at h
      · obtain ⟨h1, h⟩ := b2 h
        obtain ⟨h2, h⟩ := b2 h
        obtain ⟨h3, h⟩ := b2 h
        obtain ⟨h4, h⟩ := b2 h
        obtain ⟨h8, h⟩ := b2 h
        obtain ⟨h9, h⟩ := b2 h
        obtain ⟨h10, h⟩ := b2 h
        obtain ⟨h11, h⟩ := b2 h
        obtain ⟨h12, h⟩ := b2 h
        obtain ⟨h13, h14⟩ := b2 h
        have e1 := of_decide_eq_true h1
        have e2 := of_decide_eq_true h2
        have e3 := of_decide_eq_true h3
        have e4 := of_decide_eq_true h4
        have e8 := of_decide_eq_true h8
        have e9 := of_decide_eq_true h9
        have e10 := of_decide_eq_true h10
        subst e1 e2 e3 e4 e8 e9 e10
        exact ⟨fI, _, _, _, _, _, _, _, _, _, _, _, _, _, _, _, _, _, _, _, _, _, xtB_ok h11, ho, h12, loB_ok h13, h14, hI⟩
      · cases h
    · cases h
  · cases h
end Pm
namespace Pm
open PySem PySem.Spec PyProof.Rows L2 RZ
open PySem.W (Frag)
mutual
def valB (K : Frag) : D → Value → Bool
  | .non, .none => true
  | .bl b, .bool c => decide (b = c)
  | .int i, .int j _ => decide (i = j)
  | .str x, .str y _ => decide (x = y)
  | .tup l, .ref a => (match K.lookup a with
    | some ⟨.type T, _, .seq its _, _⟩ => decide (T = "tuple") && (decide (its.size ≤ sizeLine) && valsB K l its.toList)
    | _ => false)
  | _, _ => false
def valsB (K : Frag) : List D → List Value → Bool
  | [], [] => true
  | d :: r, v :: vs => valB K d v && valsB K r vs
  | _, _ => false
end
mutual
theorem valB_ok {Z : Zx} : ∀ (d : D) (u : Value), valB Z.K d u = true → ∃ v, RelV v u ∧ ∀ g, Is Z g d v
  | .non, u, h => by
    cases u <;> first | cases h | skip
    exact ⟨.non, rfl, fun _ => rfl⟩
  | .bl b, u, h => by
    cases u <;> first | cases h | skip
    rename_i c
    have e : b = c := of_decide_eq_true h
    exact ⟨.bl b, by rw [e]; rfl, fun _ => rfl⟩
  | .int i, u, h => by
    cases u <;> first | cases h | skip
    rename_i j t
    have e : i = j := of_decide_eq_true h
    exact ⟨.int i, ⟨t, by rw [e]⟩, fun _ => rfl⟩
  | .str x, u, h => by
    cases u <;> first | cases h | skip
    rename_i y t
    have e : x = y := of_decide_eq_true h
    exact ⟨.str x, ⟨t, by rw [e]⟩, fun _ => rfl⟩
  | .tup l, u, h => by
    cases u <;> first | cases h | skip
    rename_i a
    unfold valB at h
    split at h
    · rename_i T od its n sl ho
      obtain ⟨h1, hh⟩ := b2 h
      obtain ⟨h2, h3⟩ := b2 hh
      obtain ⟨vs, r, i⟩ := valsB_ok (Z := Z) l its.toList h3
      exact ⟨.ref a, rfl, fun g => ⟨a, vs, rfl, .inr ⟨_, its, n, ho, by rw [of_decide_eq_true h1], rfl, of_decide_eq_true h2, r⟩, i g⟩⟩
    · cases h
  | .lst _, u, h => by cases u <;> cases h
  | .dct _, u, h => by cases u <;> cases h
  | .kdc _, u, h => by cases u <;> cases h
  | .obj _ _, u, h => by cases u <;> cases h
  | .res _, u, h => by cases u <;> cases h
  | .scr _, u, h => by cases u <;> cases h
theorem valsB_ok {Z : Zx} : ∀ (l : List D) (us : List Value), valsB Z.K l us = true → ∃ vs, Vals vs us ∧ ∀ g, IsL Z g l vs
  | [], us, h => by
    cases us with
    | nil => exact ⟨[], .nil, fun _ => rfl⟩
    | cons _ _ => cases h
  | d :: r, us, h => by
    cases us with
    | nil => cases h
    | cons u us =>
      obtain ⟨h1, h2⟩ := b2 (show (valB Z.K d u && valsB Z.K r us) = true from h)
      obtain ⟨v, r1, i1⟩ := valB_ok d u h1
      obtain ⟨vs, r2, i2⟩ := valsB_ok r us h2
      exact ⟨v :: vs, .cons r1 r2, fun g => ⟨v, vs, rfl, i1 g, i2 g⟩⟩
end
def entB (K : Frag) : List (D × D) → List DictEntry → Bool
  | [], [] => true
  | (.str x, d) :: r, e :: es => (match e.key with
    | .str y _ => decide (x = y) && (valB K d e.val && entB K r es)
    | _ => false)
  | _, _ => false
theorem entB_ok {Z : Zx} : ∀ {l : List (D × D)} {es : List DictEntry}, entB Z.K l es = true → ∃ kvs, Paired EntKV kvs es ∧ ∀ g, IsD Z g l kvs
  | [], es, h => by
    cases es with
    | nil => exact ⟨[], .nil, fun _ => rfl⟩
    | cons _ _ => cases h
  | (k, d) :: r, es, h => by
    cases es with
    | nil => cases k <;> cases h
    | cons e es =>
      cases k <;> first | cases h | skip
      rename_i x
      unfold entB at h
      split at h
      · rename_i y t ek
        obtain ⟨h1, hh⟩ := b2 h
        obtain ⟨h2, h3⟩ := b2 hh
        have e1 : x = y := of_decide_eq_true h1
        obtain ⟨v, r1, i1⟩ := valB_ok d e.val h2
        obtain ⟨kvs, r2, i2⟩ := entB_ok h3
        exact ⟨(.inr x, v) :: kvs, .cons ⟨x, t, rfl, by rw [ek, e1], r1⟩ r2, fun g => ⟨.inr x, v, kvs, rfl, rfl, i1 g, i2 g⟩⟩
      · cases h
def dctB (K : Frag) (l : List (D × D)) (a : Addr) : Bool := match K.lookup a with
  | some ⟨_, _, .dict es _, _⟩ => !l.isEmpty && entB K l es.toList
  | _ => false
theorem dctB_ok {Z : Zx} {l : List (D × D)} {a : Addr} (h : dctB Z.K l a = true) (k : ∃ es n, KDict Z.K Z.w a es n) : ∀ g, Is Z g (.kdc l) (.ref a) := by
  obtain ⟨es, n, k⟩ := k
  unfold dctB at h
  rw [k.at_] at h
  obtain ⟨h1, h2⟩ := b2 (show (!l.isEmpty && entB Z.K l es.toList) = true from h)
  obtain ⟨kvs, r, i⟩ := entB_ok h2
  refine fun g => ⟨a, kvs, rfl, ⟨⟨es, n, k, r⟩, fun z => ?_⟩, i g⟩
  have ig := i g
  subst z
  cases l with
  | nil => cases h1
  | cons p r =>
    obtain ⟨k, dd⟩ := p
    obtain ⟨_, _, _, e, _⟩ := ig
    cases e
def gloB (K : Frag) (n : Str) (d : D) : Bool := match PySem.W.nsIn K mainGlobals n with
  | some (some u) => (match d, u with
    | .kdc l, .ref a => decide (He.ga K n = a) && dctB K l a
    | .kdc _, _ => false
    | d, u => valB K d u)
  | _ => false
def isKdc : D → Bool
  | .kdc _ => true
  | _ => false
def Pr.tabs (p : Pr) : List (Str × Nat) := p.tb.glob.filter fun q => match p.glob[q.2]? with
  | some d => isKdc d
  | none => false
def keysD (l : List (D × D)) : List Str := l.map fun q => match q.1 with
  | .str x => x
  | _ => Str.empty
def Pr.keys (p : Pr) (q : Str × Nat) : List Str := match p.glob[q.2]? with
  | some (.kdc l) => keysD l
  | _ => []
def Pr.tabW (p : Pr) (K : Frag) : List (Option (List (Option (Str × Int)))) := p.tabs.map fun q => He.dicW K (He.ga K q.1)
def Pr.tabV (p : Pr) (P : Params) : List (Option (List (Option (Str × Int)))) := p.tabs.map fun q => some (He.keysIn P (p.keys q))
theorem tabs_ok {p : Pr} {K : Frag} {w : World} (h : p.tabW K = p.tabV w.params) {q : Str × Nat} (hq : q ∈ p.tabs) : ∃ es n, KDict K w (He.ga K q.1) es n := by
  unfold Pr.tabW Pr.tabV at h
  exact He.dicW_ok (List.map_inj_left.mp h q hq)
section
variable (p : Pr) (prog : Program) (K : Frag)
def rngC : List Nat := List.range p.clsN.length
def kFree : Bool := (p.tb.free.all fun n => eqV (PySem.W.nsIn K mainGlobals n) (some none)) && (p.sub.all fun q => decide (q.2 < p.clsN.length))
def kFn : Bool := p.tb.fn.all fun q => eqV (PySem.W.nsIn K mainGlobals q.1) (some (some (.ref (fa p K q.2)))) && decide (q.2 < p.fns.length)
def kCls : Bool := p.tb.cls.all fun q => eqV (PySem.W.nsIn K mainGlobals q.1) (some (some (.ref (clsK p K q.2)))) && (PySem.W.keepIn K (.ref (clsK p K q.2)) && ((tyNames.all fun n => decide (PySem.W.kitOne K (.type n) (.ref (clsK p K q.2)) = some false)) &&
  ((rngC p).all fun c => (!p.tb.exc.contains q.2 || decide (PySem.W.exmOne K (.ref (clsK p K c)) (.ref (clsK p K q.2)) = some (p.subB c q.2))) && (!p.subB c c || (xicB K (clsK p K c) && decide (PySem.W.kitOne K (.ref (clsK p K c)) (.ref (clsK p K q.2)) = some (p.subB c q.2)))))))
def kGlob : Bool := p.tb.glob.all fun q => match p.glob[q.2]? with
  | some d => gloB K q.1 d
  | none => false
def kFld : Bool := decide p.tb.fld.Nodup && ((p.tb.fld.all fun n => decide (n.length < 100)) && (p.tb.meth.all fun n => decide (n.length < 100) && !p.tb.fld.contains n))
def kFlds : Bool := p.flds.all fun q => clsB K (clsK p K q.1) && q.2.all fun f => eqV (PySem.W.findIn K (.ref (clsK p K q.1)) (p.f0 f)) (some none)
def kIsic : Bool := p.isic.all fun q => isiB K (clsK p K q.1.1) && (match Ty.of q.1.2 with
  | .cls y => decide (PySem.W.kitOne K (.ref (clsK p K q.1.1)) (.ref (clsK p K y)) = some q.2)
  | .tupOrLst => decide (PySem.W.kitAny K (.ref (clsK p K q.1.1)) [.type "tuple", .type "list"] = some q.2)
  | t => decide (PySem.W.kitOne K (.ref (clsK p K q.1.1)) (.type t.nm) = some q.2))
def kIsk : Bool := tyNames.all fun n => decide (PySem.W.kitAny K (.type n) [.type "tuple", .type "list"] = some (decide (n = "tuple") || decide (n = "list")))
def kInit : Bool := p.init.all fun q => isiB K (clsK p K q.1) && (PySem.W.makesIn K (clsK p K q.1) && (eqV (PySem.W.findIn K (.ref (clsK p K q.1)) "__init__") (some (some (.ref (fa p K q.2)))) && (PySem.W.isFn K (.ref (fa p K q.2)) && (PySem.W.keepIn K (.ref (clsK p K q.1)) && decide (q.2 < p.fns.length)))))
def kXf : Bool := p.tb.exf.all fun q => xfB K (clsK p K q.1) && (excB K (clsK p K q.1) && (match q.2 with
  | [f] => eqV (PySem.W.findIn K (.ref (clsK p K q.1)) (p.f0 f)) (some none) && x1B prog K (clsK p K q.1) (p.f0 f)
  | [] => x0B prog K (clsK p K q.1)
  | _ => false))
def kMeth : Bool := p.meth.all fun q => match p.tb.meth[q.1.2]? with
  | some n => clsB K (clsK p K q.1.1) && (eqV (PySem.W.findIn K (.ref (clsK p K q.1.1)) n) (some (some (.ref (fa p K q.2)))) && (PySem.W.isFn K (.ref (fa p K q.2)) && (PySem.W.keepIn K (.ref (fa p K q.2)) && decide (q.2 < p.fns.length))))
  | none => false
def kProp : Bool := p.prop.all fun q => match p.tb.prop[q.1.2]? with
  | some n => clsB K (clsK p K q.1.1) && (decide (q.2 < p.fns.length) && (match PySem.W.findIn K (.ref (clsK p K q.1.1)) n with
    | some (some (.ref a)) => eqV (PySem.W.specialIn K (.ref a) "__get__") (some (some (.builtin "property.__get__"))) && (decide (PySem.W.takesIn K (.ref a) = some true) && (match PySem.W.recIn K a "property" with
      | some (.ref g :: _) => decide (g = fa p K q.2)
      | _ => false))
    | _ => false))
  | none => false
def kOeq : Bool := p.oeq.all fun q => clsB K (clsK p K q.1) && (eqV (PySem.W.findIn K (.ref (clsK p K q.1)) "__eq__") (some (some (.ref (fa p K q.2)))) && (PySem.W.isFn K (.ref (fa p K q.2)) && (decide (q.2 < p.fns.length) && ((tyNames.all fun n => PySem.W.notFirst K (clsK p K q.1) (.type n)) && ((rngC p).all fun c => PySem.W.notFirst K (clsK p K q.1) (.ref (clsK p K c)))))))
def kFns : Bool := p.fns.all (fnB p.tb K)
def kAll : Bool := kFree p K && (kFn p K && (kCls p K && (kGlob p K && (kFld p && (kFlds p K && (kIsic p K && (kIsk K && (kInit p K && (kXf p prog K && (kMeth p K && (kProp p K && (kOeq p K && kFns p K))))))))))))
end
section
variable {p : Pr} {prog : Program} {K : Frag} {w : World} {h : Heap} {mg : Str → Option Value} {n : Nat}
theorem cn_nrm (c : Nat) : clsK p K c = clsK p K (p.nrm c) := by
  unfold clsK Pr.cn Pr.nrm
  by_cases hc : c < p.clsN.length
  · rw [if_pos hc]
  · rw [if_neg hc]
    have e1 : p.clsN.getD c (p.clsN.getD 0 Str.empty) = p.clsN.getD 0 Str.empty := by
      rw [List.getD_eq_getElem?_getD (l := p.clsN) (i := c), List.getElem?_eq_none (Nat.le_of_not_lt hc)]
      rfl
    rw [e1]
    cases e : p.clsN with
    | nil => rfl
    | cons a r => rfl
theorem nrm_mem (hp : p.clsN ≠ []) (c : Nat) : p.nrm c ∈ rngC p := by
  unfold rngC Pr.nrm
  rw [List.mem_range]
  by_cases hc : c < p.clsN.length
  · rw [if_pos hc]
    exact hc
  · rw [if_neg hc]
    exact List.length_pos_iff.mpr hp
theorem nrm_nrm (c : Nat) : p.nrm (p.nrm c) = p.nrm c := by
  unfold Pr.nrm
  by_cases hc : c < p.clsN.length
  · rw [if_pos hc, if_pos hc]
  · rw [if_neg hc]
    split <;> rfl
theorem sub_nrm (c y : Nat) : p.subB (p.nrm c) y = p.subB c y := by
  unfold Pr.subB
  rw [nrm_nrm]
theorem kall (h : kAll p prog K = true) : kFree p K = true ∧ kFn p K = true ∧ kCls p K = true ∧ kGlob p K = true ∧ kFld p = true ∧ kFlds p K = true ∧ kIsic p K = true ∧ kIsk K = true ∧ kInit p K = true ∧ kXf p prog K = true ∧ kMeth p K = true ∧ kProp p K = true ∧ kOeq p K = true ∧ kFns p K = true := by
  unfold kAll at h
  simp only [Bool.and_eq_true] at h
  exact h
theorem all_lk {α β : Type} [BEq α] [LawfulBEq α] {l : List (α × β)} {f : α × β → Bool} (h : l.all f = true) {a : α} {b : β} (e : l.lookup a = some b) : f (a, b) = true := List.all_eq_true.mp h _ (lk_mem e)
theorem f0_at {f : Nat} {x : Str} (e : p.tb.fld[f]? = some x) : p.f0 f = x := by
  unfold Pr.f0
  rw [e]
theorem f0_len (hk : kFld p = true) (f : Nat) : p.tb.fld[f]? = none → (p.f0 f).length = f + 100 := fun e => by
  unfold Pr.f0
  rw [e]
  show (Array.replicate (f + 100) 120).size = f + 100
  simp
theorem f0_inj (hk : kFld p = true) {f : Nat} {x : Str} (e : p.tb.fld[f]? = some x) (k : Nat) (hx : p.f0 k = p.f0 f) : k = f := by
  obtain ⟨h1, h2⟩ := b2 hk
  obtain ⟨h2, h3⟩ := b2 h2
  rw [f0_at e] at hx
  have lx : x.length < 100 := of_decide_eq_true (List.all_eq_true.mp h2 x (List.mem_of_getElem? e))
  cases ek : p.tb.fld[k]? with
  | none =>
    have := f0_len hk k ek
    rw [hx] at this
    omega
  | some y =>
    rw [f0_at ek] at hx
    subst hx
    obtain ⟨l1, g1⟩ := List.getElem?_eq_some_iff.mp ek
    obtain ⟨l2, g2⟩ := List.getElem?_eq_some_iff.mp e
    exact (List.getElem_inj (of_decide_eq_true h1)).mp (g1.trans g2.symm)
theorem f0_meth (hk : kFld p = true) {m : Nat} {x : Str} (e : p.tb.meth[m]? = some x) (k : Nat) : p.f0 k ≠ x := fun hx => by
  have hk' := hk
  obtain ⟨h1, h2⟩ := b2 hk
  obtain ⟨h2, h3⟩ := b2 h2
  obtain ⟨h4, h5⟩ := b2 (List.all_eq_true.mp h3 x (List.mem_of_getElem? e))
  cases ek : p.tb.fld[k]? with
  | none =>
    have := f0_len hk' k ek
    rw [hx] at this
    have := of_decide_eq_true h4
    omega
  | some y =>
    rw [f0_at ek] at hx
    subst hx
    have := bn h5
    rw [List.contains_iff_mem.mpr (List.mem_of_getElem? ek)] at this
    cases this
theorem lkD {l : List (Nat × List Nat)} {c f : Nat} (h : ((l.lookup c).getD []).contains f = true) : ∃ fs, l.lookup c = some fs ∧ f ∈ fs := by
  cases e : l.lookup c with
  | none =>
    rw [e] at h
    cases h
  | some fs =>
    rw [e] at h
    exact ⟨fs, rfl, List.contains_iff_mem.mp h⟩
theorem tab_exf : ∀ n, (tabOf p n).exf = fun c => (p.tb.exf.lookup c).getD []
  | 0 => rfl
  | _ + 1 => rfl
theorem tab_flds : ∀ n, (tabOf p n).flds = fun c => (p.flds.lookup c).getD []
  | 0 => rfl
  | _ + 1 => rfl
theorem tab_isic : ∀ n, (tabOf p n).isic = fun c t => p.isic.lookup (c, t.no)
  | 0 => rfl
  | _ + 1 => rfl
theorem tab_sub : ∀ n, (tabOf p n).sub = p.subB
  | 0 => rfl
  | _ + 1 => rfl
theorem tab_init : ∀ n, (tabOf p n).init = fun c => p.init.lookup c
  | 0 => rfl
  | _ + 1 => rfl
theorem tab_glob : ∀ n, (tabOf p n).glob = fun k => p.glob[k]?
  | 0 => rfl
  | _ + 1 => rfl
theorem tab_meth : ∀ n, (tabOf p n).meth = fun c m => p.meth.lookup (c, m)
  | 0 => rfl
  | _ + 1 => rfl
theorem tab_prop : ∀ n, (tabOf p n).prop = fun c m => p.prop.lookup (c, m)
  | 0 => rfl
  | _ + 1 => rfl
theorem tab_oeq : ∀ n, (tabOf p n).oeq = fun c => p.oeq.lookup c
  | 0 => rfl
  | _ + 1 => rfl
theorem fx_of (hp : p.clsN ≠ []) (hk : kAll p prog K = true) (ht : p.tabW K = p.tabV w.params) (hK : K.In h) (hG : h.Ns mainGlobals mg) (X : Cx) (e1 : X.prog = prog) (e2 : X.w = w) (e3 : X.K = K) (e4 : X.mg = mg) (n : Nat) : Fx p.tb X (clsK p K) p.f0 (tabOf p n) := by
  obtain ⟨hFree, hFn, hCls, hGlob, hFld, hFlds, hIsic, hIsk, hInit, hXf, hMeth, hProp, hOeq, hFns⟩ := kall hk
  have cl : ∀ {x : Str} {y : Nat}, p.tb.cls.lookup x = some y → _ := fun {x y} e => all_lk hCls e
  subst e1 e2 e3 e4
  refine { free := fun x hx => ?_, glob := fun x k e => ?_, clA := fun x c e => ?_, fld := fun f x e => ⟨f0_at e, fun k hk' => f0_inj hFld e k hk'⟩, flc := fun f c hc => ?_, mth := fun m x e k => f0_meth hFld e k, isi := fun t htn => ⟨?_, fun c k e => ?_⟩, isc := fun x y e => ⟨fun c k e2 => ?_, fun d ty hd => ?_⟩, ist := fun c k e => ?_, isk := fun d ty k hd hi => ?_, isn := fun c hc => ?_, xf := fun f c hc => ?_, xis := fun x y e c hc => ?_, exm := fun x y e hx c => ?_, exc := fun c f e => ?_, exc0 := fun c e => ?_ }
  · exact PySem.W.mg_none_of hK hG (eqV_ok (List.all_eq_true.mp (b2 hFree).1 x (List.contains_iff_mem.mp hx)))
  · have h1 := all_lk hGlob e
    have h1 : (match p.glob[k]? with
      | some d => gloB X.K x d
      | none => false) = true := h1
    cases eg : p.glob[k]? with
    | none =>
      rw [eg] at h1
      cases h1
    | some d =>
      rw [eg] at h1
      have h1 : gloB X.K x d = true := h1
      unfold gloB at h1
      split at h1
      · rename_i u hu
        refine ⟨u, PySem.W.mg_of hK hG hu, ?_⟩
        rw [tab_glob]
        split at h1
        · obtain ⟨h2, h3⟩ := b2 h1
          have h2 := of_decide_eq_true h2
          refine ⟨.ref _, rfl, fun d' hd' hx g => ?_⟩
          have hd' : p.glob[k]? = some d' := hd'
          rw [eg] at hd'
          cases hd'
          refine dctB_ok (Z := zx X (clsK p X.K) ⟨p.f0, hx⟩) h3 ?_ g
          have hm : (x, k) ∈ p.tabs := List.mem_filter.mpr ⟨lk_mem e, by show (match p.glob[k]? with | some d => isKdc d | none => false) = true; rw [eg]; rfl⟩
          obtain ⟨es, n1, kd⟩ := tabs_ok ht hm
          rw [← h2]
          exact ⟨es, n1, kd⟩
        · cases h1
        · obtain ⟨v, r, _⟩ := valB_ok (Z := zx X (clsK p X.K) ⟨p.f0, none⟩) _ _ h1
          refine ⟨v, r, fun d' hd' hx g => ?_⟩
          have hd' : p.glob[k]? = some d' := hd'
          rw [eg] at hd'
          cases hd'
          obtain ⟨v', r', i'⟩ := valB_ok (Z := zx X (clsK p X.K) ⟨p.f0, hx⟩) _ _ h1
          rw [RelV.inj r r']
          exact i' g
      · cases h1
  · exact PySem.W.mg_of hK hG (eqV_ok (b2 (cl e)).1)
  · rw [tab_flds] at hc
    obtain ⟨fs, e, hf⟩ := lkD hc
    obtain ⟨h1, h2⟩ := b2 (all_lk hFlds e)
    exact ⟨clsB_ok h1, eqV_ok (List.all_eq_true.mp h2 f hf)⟩
  · cases t <;> first | exact absurd rfl htn | decide +kernel
  · rw [tab_isic] at e
    obtain ⟨h1, h2⟩ := b2 (all_lk hIsic e)
    refine ⟨isiB_ok h1, ?_⟩
    have h2 : (match Ty.of t.no with
      | .cls y => decide (PySem.W.kitOne X.K (.ref (clsK p X.K c)) (.ref (clsK p X.K y)) = some k)
      | .tupOrLst => decide (PySem.W.kitAny X.K (.ref (clsK p X.K c)) [.type "tuple", .type "list"] = some k)
      | t => decide (PySem.W.kitOne X.K (.ref (clsK p X.K c)) (.type t.nm) = some k)) = true := h2
    rw [Ty.of_no] at h2
    cases t <;> first | exact absurd rfl htn | exact of_decide_eq_true h2
  · rw [tab_isic] at e2
    obtain ⟨h1, h2⟩ := b2 (all_lk hIsic e2)
    refine ⟨isiB_ok h1, ?_⟩
    have h2 : (match Ty.of (Ty.cls y).no with
      | .cls y => decide (PySem.W.kitOne X.K (.ref (clsK p X.K c)) (.ref (clsK p X.K y)) = some k)
      | .tupOrLst => decide (PySem.W.kitAny X.K (.ref (clsK p X.K c)) [.type "tuple", .type "list"] = some k)
      | t => decide (PySem.W.kitOne X.K (.ref (clsK p X.K c)) (.type t.nm) = some k)) = true := h2
    rw [Ty.of_no] at h2
    exact of_decide_eq_true h2
  · obtain ⟨_, h2⟩ := b2 (cl e)
    obtain ⟨_, h2⟩ := b2 h2
    exact of_decide_eq_true (List.all_eq_true.mp (b2 h2).1 ty (tn_mem hd))
  · rw [tab_isic] at e
    obtain ⟨h1, h2⟩ := b2 (all_lk hIsic e)
    exact ⟨isiB_ok h1, of_decide_eq_true h2⟩
  · have h1 := of_decide_eq_true (List.all_eq_true.mp hIsk ty (tn_mem hd))
    rw [h1]
    congr 1
    cases d <;> first | cases hd | skip
    all_goals (cases hi; rfl)
  · rw [tab_init] at hc
    obtain ⟨k, e⟩ := Option.isSome_iff_exists.mp hc
    exact isiB_ok (b2 (all_lk hInit e)).1
  · rw [tab_exf] at hc
    obtain ⟨fs, e, hf⟩ := lkD hc
    obtain ⟨h1, h2⟩ := b2 (all_lk hXf e)
    obtain ⟨_, h3⟩ := b2 h2
    refine ⟨xfB_ok h1, ?_⟩
    split at h3
    · rename_i f' e'
      have e' : fs = [f'] := e'
      rw [e'] at hf
      rw [List.mem_singleton.mp hf]
      exact eqV_ok (b2 h3).1
    · rename_i e'
      have e' : fs = [] := e'
      rw [e'] at hf
      cases hf
    · cases h3
  · rw [tab_sub] at hc ⊢
    obtain ⟨_, h2⟩ := b2 (cl e)
    obtain ⟨_, h2⟩ := b2 h2
    obtain ⟨_, h2⟩ := b2 h2
    obtain ⟨_, h3⟩ := b2 (List.all_eq_true.mp h2 (p.nrm c) (nrm_mem hp c))
    rw [cn_nrm c, ← sub_nrm c y]
    rw [← sub_nrm c c] at hc
    have hc1 : (p.nrm c, c) ∈ p.sub := List.contains_iff_mem.mp (by
      have z := hc
      unfold Pr.subB at z
      rw [nrm_nrm] at z
      exact z)
    have hl : c < p.clsN.length := of_decide_eq_true (List.all_eq_true.mp (b2 hFree).2 _ hc1)
    have hc2 : p.subB (p.nrm c) (p.nrm c) = true := by
      have e0 : p.nrm c = c := if_pos hl
      rw [e0] at hc ⊢
      exact hc
    have h3 : (!p.subB (p.nrm c) (p.nrm c) || (xicB X.K (clsK p X.K (p.nrm c)) && decide (PySem.W.kitOne X.K (.ref (clsK p X.K (p.nrm c))) (.ref (clsK p X.K y)) = some (p.subB (p.nrm c) y)))) = true := h3
    rw [hc2] at h3
    obtain ⟨h4, h5⟩ := b2 h3
    exact ⟨xicB_ok h4, of_decide_eq_true h5⟩
  · rw [tab_sub]
    obtain ⟨_, h2⟩ := b2 (cl e)
    obtain ⟨_, h2⟩ := b2 h2
    obtain ⟨_, h2⟩ := b2 h2
    obtain ⟨h3, _⟩ := b2 (List.all_eq_true.mp h2 (p.nrm c) (nrm_mem hp c))
    rw [cn_nrm c, ← sub_nrm c y]
    have h3 : (!p.tb.exc.contains y || decide (PySem.W.exmOne X.K (.ref (clsK p X.K (p.nrm c))) (.ref (clsK p X.K y)) = some (p.subB (p.nrm c) y))) = true := h3
    rw [hx] at h3
    exact of_decide_eq_true h3
  · rw [tab_exf]
    obtain ⟨h1, h2⟩ := b2 (all_lk hXf e)
    obtain ⟨h3, h4⟩ := b2 h2
    refine ⟨by show (p.tb.exf.lookup c).getD [] = [f]; rw [e]; rfl, excB_ok h3, x1B_ok (b2 h4).2⟩
  · rw [tab_exf]
    obtain ⟨h1, h2⟩ := b2 (all_lk hXf e)
    obtain ⟨h3, h4⟩ := b2 h2
    exact ⟨by show (p.tb.exf.lookup c).getD [] = []; rw [e]; rfl, excB_ok h3, x0B_ok h4⟩
end
end Pm
namespace Pm
open PySem PySem.Spec PyProof.Rows L2 RZ
open PySem.W (Frag)
section
variable {p : Pr} {prog : Program} {K : Frag} {w : World} {base : Heap} {mg : Str → Option Value} {n lv : Nat}
def Lvl (p : Pr) (prog : Program) (w : World) (K : Frag) (mg : Str → Option Value) (base : Heap) (n lv : Nat) : Prop :=
  ∀ g f, p.fns[g]? = some f → ∃ fd, FnT p.tb K f fd ∧ FnOk prog w K mg base (L2.CX prog w) lv (faK K f) fd f.ps (spF ⟨K, w, clsK p K, ⟨p.f0, none⟩⟩ ((tabOf p n).fn g) f.code.ar)
theorem tab_ar {g : Nat} {f : Fd} (e : p.fns[g]? = some f) : ∀ ds res, ds.length ≠ f.code.ar → (tabOf p n).fn g ds res = .bad := by
  cases n with
  | zero => exact fun _ _ _ => rfl
  | succ n =>
    intro ds res h
    show (match p.fns[g]? with
      | some f => runCode (tabOf p n) f.code ds res
      | none => .bad) = .bad
    rw [e]
    exact runCode_ar ds res h
theorem fa_at {g : Nat} {f : Fd} (e : p.fns[g]? = some f) : fa p K g = faK K f := by
  unfold fa
  rw [e]
theorem fn_some {g : Nat} (h : g < p.fns.length) : ∃ f, p.fns[g]? = some f := ⟨_, List.getElem?_eq_getElem h⟩
theorem calls_of (hk : kAll p prog K = true) (hK : K.In base) (hG : base.Ns mainGlobals mg) (L : Lvl p prog w K mg base n lv) (X : Cx) (e1 : X.prog = prog) (e2 : X.w = w) (e3 : X.K = K) (e4 : X.mg = mg) (e5 : X.base = base) (hr : Room (lv + 1) X.A) : Calls p.tb X (clsK p K) p.f0 (tabOf p n) := by
  obtain ⟨hFree, hFn, hCls, hGlob, hFld, hFlds, hIsic, hIsk, hInit, hXf, hMeth, hProp, hOeq, hFns⟩ := kall hk
  subst e1 e2 e3 e4 e5
  have at_ : ∀ g f, p.fns[g]? = some f → FnAt X (zx X (clsK p X.K) ⟨p.f0, none⟩) ((tabOf p n).fn g) (faK X.K f) := fun g f e => by
    obtain ⟨fd, F, ok⟩ := L g f e
    exact ⟨F.kp, f.code.ar, fd, f.ps, lv, ok, hr, .all F.binds, tab_ar e⟩
  refine ⟨fun x k e => ?_, fun m x e c k hk' => ?_, fun m x e c k hk' => ?_, fun c k hk' => ?_, fun x c e => ?_, fun c k hk' => ?_, ⟨_, hr⟩⟩
  · obtain ⟨h1, h2⟩ := b2 (all_lk hFn e)
    obtain ⟨f, ef⟩ := fn_some (p := p) (of_decide_eq_true h2)
    refine ⟨faK X.K f, ?_, at_ _ f ef⟩
    have z := PySem.W.mg_of hK hG (eqV_ok h1)
    rw [fa_at ef] at z
    exact z
  · rw [tab_meth] at hk'
    have h1 := all_lk hMeth hk'
    have h1 : (match p.tb.meth[m]? with
      | some n => clsB X.K (clsK p X.K c) && (eqV (PySem.W.findIn X.K (.ref (clsK p X.K c)) n) (some (some (.ref (fa p X.K k)))) && (PySem.W.isFn X.K (.ref (fa p X.K k)) && (PySem.W.keepIn X.K (.ref (fa p X.K k)) && decide (k < p.fns.length))))
      | none => false) = true := h1
    rw [e] at h1
    obtain ⟨h1, h2⟩ := b2 h1
    obtain ⟨h2, h3⟩ := b2 h2
    obtain ⟨h3, h4⟩ := b2 h3
    obtain ⟨h4, h5⟩ := b2 h4
    obtain ⟨f, ef⟩ := fn_some (p := p) (of_decide_eq_true h5)
    rw [fa_at ef] at h2 h3 h4
    exact ⟨faK X.K f, clsB_ok h1, ⟨eqV_ok h2, h3, h4⟩, at_ _ f ef⟩
  · rw [tab_prop] at hk'
    have h1 := all_lk hProp hk'
    have h1 : (match p.tb.prop[m]? with
      | some n => clsB X.K (clsK p X.K c) && (decide (k < p.fns.length) && (match PySem.W.findIn X.K (.ref (clsK p X.K c)) n with
        | some (some (.ref a)) => eqV (PySem.W.specialIn X.K (.ref a) "__get__") (some (some (.builtin "property.__get__"))) && (decide (PySem.W.takesIn X.K (.ref a) = some true) && (match PySem.W.recIn X.K a "property" with
          | some (.ref g :: _) => decide (g = fa p X.K k)
          | _ => false))
        | _ => false))
      | none => false) = true := h1
    rw [e] at h1
    obtain ⟨h1, h2⟩ := b2 h1
    obtain ⟨h2, h3⟩ := b2 h2
    obtain ⟨f, ef⟩ := fn_some (p := p) (of_decide_eq_true h2)
    split at h3
    · rename_i a ha
      obtain ⟨h4, h5⟩ := b2 h3
      obtain ⟨h5, h6⟩ := b2 h5
      split at h6
      · rename_i g rest hg
        have eg := of_decide_eq_true h6
        rw [fa_at ef] at eg
        subst eg
        exact ⟨a, faK X.K f, clsB_ok h1, ⟨ha, eqV_ok h4, of_decide_eq_true h5, rest, hg⟩, at_ _ f ef⟩
      · cases h6
    · cases h3
  · rw [tab_init] at hk'
    obtain ⟨h1, h2⟩ := b2 (all_lk hInit hk')
    obtain ⟨h2, h3⟩ := b2 h2
    obtain ⟨h3, h4⟩ := b2 h3
    obtain ⟨h4, h5⟩ := b2 h4
    obtain ⟨h5, h6⟩ := b2 h5
    obtain ⟨f, ef⟩ := fn_some (p := p) (of_decide_eq_true h6)
    rw [fa_at ef] at h3 h4
    obtain ⟨_, n', fd, ps, k', ok⟩ := at_ _ f ef
    exact ⟨faK X.K f, n', fd, ps, k', ⟨h2, eqV_ok h3, h4, h5⟩, ok⟩
  · exact (b2 (b2 (all_lk hCls e)).2).1
  · rw [tab_oeq] at hk'
    obtain ⟨h1, h2⟩ := b2 (all_lk hOeq hk')
    obtain ⟨h2, h3⟩ := b2 h2
    obtain ⟨h3, h4⟩ := b2 h3
    obtain ⟨h4, h5⟩ := b2 h4
    obtain ⟨h5, h6⟩ := b2 h5
    obtain ⟨f, ef⟩ := fn_some (p := p) (of_decide_eq_true h4)
    rw [fa_at ef] at h2 h3
    refine ⟨faK X.K f, clsB_ok h1, eqV_ok h2, h3, at_ _ f ef, fun d ty hd => List.all_eq_true.mp h5 ty (tn_mem hd), fun c' _ => ?_⟩
    show PySem.W.notFirst X.K (clsK p X.K c) (.ref (clsK p X.K c')) = true
    by_cases hp : p.clsN = []
    · have z : ∀ c, clsK p X.K c = clsK p X.K 0 := fun c => by
        unfold clsK Pr.cn
        rw [hp]
        rfl
      unfold PySem.W.notFirst
      rw [z c, z c']
      simp
    · rw [cn_nrm c']
      exact List.all_eq_true.mp h6 _ (nrm_mem hp c')
theorem lvl_of (hp : p.clsN ≠ []) (hk : kAll p prog K = true) (ht : p.tabW K = p.tabV w.params) (hK : K.In base) (hG : base.Ns mainGlobals mg) : ∀ n, Lvl p prog w K mg base n (2 * n)
  | 0 => fun g f e => by
    obtain ⟨fd, F⟩ := fnB_ok (List.all_eq_true.mp (kall hk).2.2.2.2.2.2.2.2.2.2.2.2.2 f (List.mem_of_getElem? e))
    exact ⟨fd, F, ⟨fun vs H Q E ⟨_, _, _, _, _, _, h⟩ => h.elim, fun A outer s H args us vs Q E _ _ _ _ ⟨_, _, _, _, _, _, h⟩ => h.elim⟩⟩
  | n + 1 => fun g f e => by
    obtain ⟨fd, F⟩ := fnB_ok (List.all_eq_true.mp (kall hk).2.2.2.2.2.2.2.2.2.2.2.2.2 f (List.mem_of_getElem? e))
    have L := lvl_of hp hk ht hK hG n
    have et : (tabOf p (n + 1)).fn g = runCode (tabOf p n) f.code := by
      funext ds res
      show (match p.fns[g]? with
        | some f => runCode (tabOf p n) f.code ds res
        | none => .bad) = _
      rw [e]
    refine ⟨fd, F, ?_⟩
    rw [et]
    exact fn_lvl F fun X e1 e2 e3 e4 e5 hr => ⟨fx_of hp hk ht hK hG X e1 e2 e3 e4 n, calls_of hk hK hG L X e1 e2 e3 e4 e5 hr⟩
def frN {α : Type} (n : Nat) (k : Nat → α) : α := match n with
  | 0 => k 0
  | m + 1 => k (m + 1)
def pushK {α : Type} : List Addr → Nat → List Addr → (Nat → List Addr → α) → α
  | [], seen, nx, k => k seen nx
  | b :: r, seen, nx, k => frN b fun b => match Nat.beq (Nat.land (Nat.shiftRight seen b) 1) 1 with
    | true => pushK r seen nx k
    | false => frN (Nat.lor seen (Nat.shiftLeft 1 b)) fun seen => pushK r seen (b :: nx) k
def levK {α : Type} (g : Addr → Option Obj) : List Addr → Nat → List Addr → (Nat → List Addr → α) → α
  | [], seen, nx, k => k seen nx
  | a :: r, seen, nx, k => match g a with
    | some o => pushK (He.refsD o) seen nx fun seen nx => levK g r seen nx k
    | none => levK g r seen nx k
def goP (g : Addr → Option Obj) : Nat → List Addr → Nat → List Addr → List Addr
  | 0, fr, _, acc => acc ++ fr
  | n + 1, fr, seen, acc => levK g fr seen [] fun seen nx => goP g n nx seen (acc ++ fr)
def addrsP (g : Addr → Option Obj) (n : Nat) : List Addr := goP g n [mainGlobals] (Nat.shiftLeft 1 mainGlobals) [cStatics]
abbrev AlP : Type := Bool × List (Option (List (Option (Str × Int))))
def obsP (n : Nat) (p : Pr) (prog : Program) (g : Addr → Option Obj) : AlP := (kAll p prog (He.frG g (addrsP g n)), p.tabW (He.frG g (addrsP g n)))
def SaysP (p : Pr) (prog : Program) (w : World) (K : Frag) : Prop := kAll p prog K = true ∧ p.tabW K = p.tabV w.params
def hookP (n : Nat) (p : Pr) (prog : Program) : PySem.W.Hook where
  α := AlP
  obs := fun s => obsP n p prog s.heap.get?
  val := fun w => (true, p.tabV w.params)
  says := fun w h => ∃ K : Frag, K.In h ∧ SaysP p prog w K
  of := fun _ _ e => ⟨_, He.frG_in, congrArg (fun z : AlP => z.1) e, congrArg (fun z : AlP => z.2) e⟩
  keeps := fun _ _ _ ⟨K, hK, c⟩ k => ⟨K, PySem.W.Frag.In.keeps hK k, c⟩
theorem obsP_eq {n : Nat} {g : Addr → Option Obj} {s : Shared} (h : ∀ a, g a = s.heap.get? a) : obsP n p prog g = (hookP n p prog).obs s := by
  have e : g = s.heap.get? := funext h
  rw [e] <;> rfl
theorem rel_only {Z : Zx} {H : Hp} (h : Only H) : Rel Z ⟨H, fun _ => none⟩ ⟨[], []⟩ [] H :=
  ⟨fun _ _ e => e, fun i x e => by simp at e, fun q c e => by cases q <;> simp [S.cell] at e, fun q q' c c' p p' _ e => by cases q <;> simp [S.cell] at e, rfl, fun k p e => nomatch e⟩
def Plain (p : Pr) (n g : Nat) : Prop := ∀ ns : List Int, ns.length ≤ 63 → ∃ res, (tabOf p n).fn g [.scr ns] [] = .ok (.fz (.bl true)) res
theorem ends {g : Nat} {f : Fd} (e : p.fns[g]? = some f) (hps : f.ps = [("_law_script" : Str)]) (hp : p.clsN ≠ []) (hpl : Plain p n g) {fa : Addr} {h : Heap} (hS : SaysP p prog w K) (hK : K.In h) (hG : h.Ns mainGlobals mg) (hfn : p.tb.fn.lookup ("law" : Str) = some g) (hmg : mg ("law" : Str) = some (.ref fa)) :
    ∃ (fd : FuncData) (sp : Sp), (∀ (s : Shared) (u : Value), BindsTo s fd ⟨[u], []⟩ [(("_law_script" : Str), u)]) ∧
      (∀ (H : Hp) (a : Addr) (ns : List Int), ns.length ≤ 63 → Only H → SqL K H a (ns.map V.int) → sp [.ref a] H (fun v _ => v = .bl true) fun _ _ _ => False) ∧
      ∀ base : Heap, K.In base → base.Ns mainGlobals mg → FnOk prog w K mg base (L2.CX prog w) (2 * n) fa fd [("_law_script" : Str)] sp := by
  obtain ⟨fd, F⟩ := fnB_ok (List.all_eq_true.mp (kall hS.1).2.2.2.2.2.2.2.2.2.2.2.2.2 f (List.mem_of_getElem? e))
  have efa : fa = faK K f := by
    obtain ⟨h1, _⟩ := b2 (all_lk (kall hS.1).2.1 hfn)
    have z := PySem.W.mg_of hK hG (eqV_ok h1)
    rw [hmg, fa_at e] at z
    cases z
    rfl
  refine ⟨fd, spF ⟨K, w, clsK p K, ⟨p.f0, none⟩⟩ ((tabOf p n).fn g) f.code.ar, fun s u => ?_, fun H a ns hl ho hq => ?_, fun base hb hg => ?_⟩
  · have z := F.binds [u] (by rw [hps]; rfl)
    rw [hps] at z
    exact .of_eq z
  · obtain ⟨res, er⟩ := hpl ns hl
    refine ⟨by rw [← F.ar, hps]; rfl, ⟨H, fun _ => none⟩, [], [.scr ns], rel_only ho, ⟨.ref a, [], rfl, ⟨a, rfl, hq⟩, rfl⟩, ?_⟩
    rw [er]
    intro v g' H' ex _ _ V1
    exact V1.1
  · obtain ⟨fd', F', ok⟩ := lvl_of hp hS.1 hS.2 hb hg n g f e
    have ed : fd' = fd := by
      obtain ⟨_, _, _, _, _, _, _, _, _, _, _, _, _, _, l1, _⟩ := F.ex
      obtain ⟨_, _, _, _, _, _, _, _, _, _, _, _, _, _, l2, _⟩ := F'.ex
      rw [l1] at l2
      cases l2
      rfl
    rw [efa, ← ed, ← hps]
    exact ok
theorem walk_w {l : PySem.W.OpenLaw} {m k : Nat} {q : Program} {ls : List Str} {XQ : (Str → Option Value) → Heap → Prop} {YQ : World → Heap → Prop} {dr : DefRec} {y : Str} (h1 : l.most = some m) (h2 : m ≤ sizeLine) (h3 : dr.params.defaults = []) (h4 : Room k callerA)
    (F : ∀ (w : World) (mg : Str → Option Value) (f : Addr) (h : Heap), YQ w h → h.Ns mainGlobals mg → mg dr.name = some (.ref f) → ∃ (K : Frag) (fd : FuncData) (sp : Sp), K.In h ∧ (∀ (s : Shared) (u : Value), BindsTo s fd ⟨[u], []⟩ [(y, u)]) ∧
      (∀ (H : Hp) (a : Addr) (ns : List Int), ns.length ≤ m → Only H → SqL K H a (ns.map V.int) → sp [.ref a] H (fun v _ => v = .bl true) fun _ _ _ => False) ∧ ∀ b : Heap, K.In b → b.Ns mainGlobals mg → FnOk l.prog w K mg b (L2.CX l.prog w) k f fd [y] sp) :
    PySem.W.WalkO q ls XQ YQ l.row.toRowW dr [] (fun f vs => PySem.call f vs) :=
  Att.attach_call h1 h3 fun w _ s1 mg _ f _ _ _ _ _ _ _ G Y _ _ _ hm ho hi hl hg => by
    obtain ⟨K, fd, sp, k1, k2, k3, k4⟩ := F w mg f _ Y G.T.g hm
    refine law_call k1 G.T.g G.T.b G.T.builtins G.T.nolimit hg ho hi (Nat.le_trans hl h2) h4 k4 k2 (fun H o1 o2 => k3 H _ _ hl o1 o2) fun H e s2 c => ?_
    obtain ⟨_, _, _, _, _, _, _, _, _, _, _, _, z⟩ := c
    exact z
end
end Pm
namespace Pm
open PySem (Str PyData)
section
variable {T : Tab} {lc : List (Option Sl)} {rs : List Cell}
theorem bind_ok {α β : Type} {a : α} {s : S} {f : α → S → R β} : (R.ok a s).bind f = f a s := rfl
theorem bind_exc {α β : Type} {c : Nat} {fs : List (Nat × D)} {s : S} {f : α → S → R β} : (R.exc c fs s : R α).bind f = .exc c fs s := rfl
theorem bind_bad {α β : Type} {f : α → S → R β} : (R.bad : R α).bind f = .bad := rfl
theorem rf_none {s : S} {r : R Sl} : rfR none s r = r.bind fun x s => .ok (.val x.d) s := rfl
theorem rf_some {i : Nat} {s : S} {r : R Sl} : rfR (some i) s r = .ok (.slot i) s := rfl
theorem d_fz {d : D} : (Sl.fz d).d = d := rfl
theorem d_lst {l : List D} : (Sl.ow (.lst l)).d = .lst l := rfl
theorem d_dct {l : List (D × D)} : (Sl.ow (.dct l)).d = .dct l := rfl
theorem lk_res {k : Nat} : lookR (.val (.res k)) (S.mk lc rs) = (match rs[k]? with
  | some c => c.look
  | none => none) := rfl
theorem lk_lst {l : List D} {s : S} : lookR (.val (.lst l)) s = some (.lst l) := rfl
theorem lk_tup {l : List D} {s : S} : lookR (.val (.tup l)) s = some (.tup l) := rfl
theorem lk_dct {l : List (D × D)} {s : S} : lookR (.val (.dct l)) s = some (.dct l) := rfl
theorem lk_kdc {l : List (D × D)} {s : S} : lookR (.val (.kdc l)) s = some (.kdc l) := rfl
theorem lk_scr {l : List Int} {s : S} : lookR (.val (.scr l)) s = some (.scr l) := rfl
theorem lk_int {i : Int} {s : S} : lookR (.val (.int i)) s = some (.int i) := rfl
theorem lk_str {i : Str} {s : S} : lookR (.val (.str i)) s = some (.str i) := rfl
theorem lk_bl {i : Bool} {s : S} : lookR (.val (.bl i)) s = some (.bl i) := rfl
theorem lk_slot {i : Nat} : lookR (.slot i) (S.mk lc rs) = (match lc[i]? with
  | some (some (.ow c)) => c.look
  | some (some (.fz d)) => some d
  | _ => none) := rfl
theorem look_l {l : List D} : (Cell.lst l).look = some (.lst l) := rfl
theorem look_d {l : List (D × D)} : (Cell.dct l).look = some (.dct l) := rfl
theorem con_l {l : List D} : (Cell.lst l).con = true := rfl
theorem con_d {l : List (D × D)} : (Cell.dct l).con = true := rfl
theorem cd_l {l : List D} : (Cell.lst l).d = .lst l := rfl
theorem cd_d {l : List (D × D)} : (Cell.dct l).d = .dct l := rfl
theorem of_some {α : Type} {a : α} {s : S} : ofO (some a) s = .ok a s := rfl
theorem of_none {α : Type} {s : S} : ofO (none : Option α) s = .bad := rfl
theorem so_var {i : Nat} : slotOf (.var i) (S.mk lc rs) = (match lc[i]? with
  | some (some (.ow _)) => some i
  | _ => none) := rfl
theorem at_ok {a : Sl} {res : List Cell} : (FR.ok a res).at lc = .ok a (S.mk lc res) := rfl
theorem at_exc {c : Nat} {fs : List (Nat × D)} {res : List Cell} : (FR.exc c fs res).at lc = .exc c fs (S.mk lc res) := rfl
theorem at_bad : FR.bad.at lc = .bad := rfl
theorem get_ok {a : Sl} {res : List Cell} : getEnd (S.mk lc rs) (.ok a res) = .ok a (S.mk lc res) := rfl
theorem evL_nil : evL T [] (S.mk lc rs) = .ok [] (S.mk lc rs) := by rw [evL]
theorem evL_con {a : E} {r : List E} (h : a.isStar = false) : evL T (a :: r) (S.mk lc rs) = (ev T a (S.mk lc rs)).bind fun x s => (evL T r s).bind fun xs s => .ok (x.d :: xs) s := evL_cons h
theorem evO_none : evO T none (S.mk lc rs) = .ok none (S.mk lc rs) := by rw [evO]
theorem evO_some {e : E} : evO T (some e) (S.mk lc rs) = (ev T e (S.mk lc rs)).bind fun x s => match x.d with
  | .int i => .ok (some i) s
  | _ => .bad := rfl
theorem evT_none : evT T none (S.mk lc rs) = .ok true (S.mk lc rs) := by rw [evT]
theorem evT_some {e : E} : evT T (some e) (S.mk lc rs) = (ev T e (S.mk lc rs)).bind fun x s => match x.d with
  | .bl b => .ok b s
  | _ => .bad := rfl
theorem evR_eq {e : E} : evR T e (S.mk lc rs) = rfR (slotOf e (S.mk lc rs)) (S.mk lc rs) (ev T e (S.mk lc rs)) := rfl
theorem evI_eq {k : Ik} {a b : E} : evI T k a b (S.mk lc rs) = (ev T a (S.mk lc rs)).bind fun x s => (if k.two then ev T b s else .ok (.fz .non) s).bind fun y s => ofO (itemsI k x.d y.d) s := rfl
theorem evM_var {i : Nat} : evM T (.var i) (S.mk lc rs) = (match lc[i]? with
    | some (some (.ow c)) => if c.con then .ok (.ow c) (S.mk (lc.set i none) rs) else .bad
    | _ => ev T (.var i) (S.mk lc rs)) := rfl
theorem evM_of {e : E} (h : e.isVar = false) : evM T e (S.mk lc rs) = ev T e (S.mk lc rs) := by
  cases e <;> first | rfl | cases h
theorem evS_nil : evS T [] (S.mk lc rs) = .ok [] (S.mk lc rs) := rfl
theorem evS_cons {a : E} {r : List E} : evS T (a :: r) (S.mk lc rs) = (ev T a (S.mk lc rs)).bind fun x s => (evS T r s).bind fun xs s => .ok (x :: xs) s := rfl
theorem exL_nil : exL T [] (S.mk lc rs) = .ok .nx (S.mk lc rs) := rfl
theorem exL_cons {a : St} {r : List St} : exL T (a :: r) (S.mk lc rs) = (ex T a (S.mk lc rs)).bind fun f s => match f with
    | .nx => exL T r s
    | .ret a => .ok (.ret a) s := rfl
theorem ex_expr {e : E} : ex T (.expr e) (S.mk lc rs) = (ev T e (S.mk lc rs)).bind fun _ s => .ok .nx s := rfl
theorem ex_asg {i : Nat} {e : E} : ex T (.asg (.var i) e) (S.mk lc rs) = (ev T e (S.mk lc rs)).bind fun x s => .ok .nx (S.mk (s.loc.set i (some x)) s.res) := rfl
theorem ex_asgT {l : List Tg} {e : E} : ex T (.asg (.tup l) e) (S.mk lc rs) = (ev T e (S.mk lc rs)).bind fun x s => match bindT (.tup l) x.d s.loc with
    | some loc => .ok .nx ⟨loc, s.res⟩
    | none => .bad := rfl
theorem ex_par {l : List (Nat × E)} : ex T (.par l) (S.mk lc rs) = (evS T (l.map (·.2)) (S.mk lc rs)).bind fun xs s => match setS (l.map (·.1)) xs s.loc with
    | some loc => .ok .nx ⟨loc, s.res⟩
    | none => .bad := rfl
theorem ex_setIx {o i v : E} : ex T (.setIx o i v) (S.mk lc rs) = (ev T v (S.mk lc rs)).bind fun z s => (evR T o s).bind fun r s => (ev T i s).bind fun y s => match cellR r s with
    | some (p, c) => (match setCell c y.d z.d with
      | some c' => .ok .nx (s.put p c')
      | none => .bad)
    | none => .bad := rfl
theorem ex_setF {o v : E} {f : Nat} : ex T (.setF o f v) (S.mk lc rs) = (ev T v (S.mk lc rs)).bind fun z s => (ev T o s).bind fun x s => match x.d with
    | .res k => (match s.res[k]? with
      | some (.ins c fs) => if fs.length < 100 ∧ (T.flds c).contains f then .ok .nx { s with res := s.res.set k (.ins c (putF fs f z.d)) } else .bad
      | _ => .bad)
    | _ => .bad := rfl
theorem ex_app {o v : E} : ex T (.app o v) (S.mk lc rs) = (evR T o (S.mk lc rs)).bind fun r s => if isLst r s then (ev T v s).bind fun z s => (match cellR r s with
    | some (p, c) => (match appC c z.d with
      | some c' => .ok .nx (s.put p c')
      | none => .bad)
    | none => .bad) else .bad := rfl
theorem ex_ite {c : E} {a b : List St} : ex T (.ite c a b) (S.mk lc rs) = (ev T c (S.mk lc rs)).bind fun x s => match x.d with
    | .bl true => exL T a s
    | .bl false => exL T b s
    | _ => .bad := rfl
theorem ex_for {t : Tg} {k : Ik} {a b : E} {body : List St} : ex T (.forI t k a b body) (S.mk lc rs) = (evI T k a b (S.mk lc rs)).bind fun items s => forGo t (fun s => exL T body s) items s := rfl
theorem ex_ret {e : E} : ex T (.ret e) (S.mk lc rs) = (evM T e (S.mk lc rs)).bind fun x s => .ok (.ret x) s := rfl
theorem ex_raise {c : Nat} {l : List E} : ex T (.raise c l) (S.mk lc rs) = (evL T l (S.mk lc rs)).bind fun ds s => if ds.length = (T.exf c).length then .exc c ((T.exf c).zip ds) s else .bad := rfl
theorem ex_try {b : List St} {hs : List (Nat × Option Nat × List St)} : ex T (.tryX b hs) (S.mk lc rs) = (match exL T b (S.mk lc rs) with
    | .ok f s => .ok f s
    | .exc c fs s => exH T hs c fs s
    | .bad => .bad) := rfl
theorem ex_pass : ex T .pass (S.mk lc rs) = .ok .nx (S.mk lc rs) := rfl
theorem cl_slot {i : Nat} : cellR (.slot i) (S.mk lc rs) = (match lc[i]? with
    | some (some (.ow c)) => some (.loc i, c)
    | _ => none) := by
  show (match lc[i]? with
    | some (some (.ow c)) => some c
    | _ => none).map (fun c => (Pl.loc i, c)) = _
  cases lc[i]? with
  | none => rfl
  | some o => cases o with
    | none => rfl
    | some x => cases x <;> rfl
theorem cl_res {k : Nat} : cellR (.val (.res k)) (S.mk lc rs) = (rs[k]?).map fun c => (.res k, c) := rfl
theorem pt_loc {i : Nat} {c : Cell} : (S.mk lc rs).put (.loc i) c = S.mk (lc.set i (some (.ow c))) rs := rfl
theorem pt_res {k : Nat} {c : Cell} : (S.mk lc rs).put (.res k) c = S.mk lc (rs.set k c) := rfl
theorem set_lst {l : List D} {j : Int} {v : D} : setCell (.lst l) (.int j) v = (L2.ixN l.length j).map fun k => .lst (l.set k v) := rfl
theorem for_nil {t : Tg} {fb : S → R Fl} : forGo t fb [] (S.mk lc rs) = .ok .nx (S.mk lc rs) := rfl
theorem for_cons {t : Tg} {fb : S → R Fl} {x : D} {xs : List D} : forGo t fb (x :: xs) (S.mk lc rs) = (match bindT t x lc with
    | none => .bad
    | some loc => (fb ⟨loc, rs⟩).bind fun f s2 => match f with
      | .nx => forGo t fb xs s2
      | .ret a => .ok (.ret a) s2) := rfl
theorem lm0 : ((0 : Nat) ≤ lim) = True := eq_true (by decide)
theorem lm1 : ((1 : Nat) ≤ lim) = True := eq_true (by decide)
theorem lm2 : ((2 : Nat) ≤ lim) = True := eq_true (by decide)
theorem lm3 : ((3 : Nat) ≤ lim) = True := eq_true (by decide)
theorem lm4 : ((4 : Nat) ≤ lim) = True := eq_true (by decide)
theorem lm5 : ((5 : Nat) ≤ lim) = True := eq_true (by decide)
theorem lm6 : ((6 : Nat) ≤ lim) = True := eq_true (by decide)
theorem lm7 : ((7 : Nat) ≤ lim) = True := eq_true (by decide)
theorem lm8 : ((8 : Nat) ≤ lim) = True := eq_true (by decide)
theorem lm9 : ((9 : Nat) ≤ lim) = True := eq_true (by decide)
theorem lm10 : ((10 : Nat) ≤ lim) = True := eq_true (by decide)
theorem lm11 : ((11 : Nat) ≤ lim) = True := eq_true (by decide)
theorem lm12 : ((12 : Nat) ≤ lim) = True := eq_true (by decide)
theorem lm13 : ((13 : Nat) ≤ lim) = True := eq_true (by decide)
theorem lm14 : ((14 : Nat) ≤ lim) = True := eq_true (by decide)
theorem lm15 : ((15 : Nat) ≤ lim) = True := eq_true (by decide)
theorem lm16 : ((16 : Nat) ≤ lim) = True := eq_true (by decide)
theorem lm17 : ((17 : Nat) ≤ lim) = True := eq_true (by decide)
theorem lm18 : ((18 : Nat) ≤ lim) = True := eq_true (by decide)
theorem lm19 : ((19 : Nat) ≤ lim) = True := eq_true (by decide)
theorem lm20 : ((20 : Nat) ≤ lim) = True := eq_true (by decide)
theorem c_nil {own : List Nat} {t : Tg} {ft : S → R Bool} {fe : S → R Sl} {acc : List D} : lcGo own t ft fe [] (S.mk lc rs) acc = .ok acc (S.mk lc rs) := rfl
theorem c_cons {own : List Nat} {t : Tg} {ft : S → R Bool} {fe : S → R Sl} {acc : List D} {x : D} {xs : List D} : lcGo own t ft fe (x :: xs) (S.mk lc rs) acc = (match bindT t x lc with
    | none => .bad
    | some loc => (ft ⟨loc, rs⟩).bind fun b s2 => if b then (fe s2).bind fun d s3 => lcGo own t ft fe xs (s3.wipe own) (acc ++ [d.d]) else lcGo own t ft fe xs (s2.wipe own) acc) := rfl
theorem wp_mk {own : List Nat} : (S.mk lc rs).wipe own = S.mk (wipeL lc own) rs := rfl
theorem wp_nil : wipeL lc [] = lc := rfl
theorem wp_cons {i : Nat} {r : List Nat} : wipeL lc (i :: r) = (wipeL lc r).set i none := rfl
theorem ov_mk {own : List Nat} {l2 : List (Option Sl)} {r2 : List Cell} : (S.mk lc rs).over (S.mk l2 r2) own = S.mk (backL lc l2 own) r2 := rfl
theorem bk_nil {l2 : List (Option Sl)} : backL lc l2 [] = l2 := rfl
theorem bk_cons {l2 : List (Option Sl)} {i : Nat} {r : List Nat} : backL lc l2 (i :: r) = (backL lc l2 r).set i (lc.getD i none) := rfl
theorem cal_ok {α : Type} {a : α} {s : S} : (R.ok a s).calm = .ok a s := rfl
theorem cal_bad {α : Type} : (R.bad : R α).calm = .bad := rfl
theorem gd0 {α : Type} {x d : α} {l : List α} : (x :: l).getD 0 d = x := rfl
theorem gd1 {α : Type} {x d : α} {l : List α} {i : Nat} : (x :: l).getD (i + 1) d = l.getD i d := rfl
theorem bt_var {i : Nat} {d : D} : bindT (.var i) d lc = some (lc.set i (some (.fz d))) := rfl
theorem bt_tup {ts : List Tg} {ds : List D} : bindT (.tup ts) (.tup ds) lc = bindTs ts ds lc := rfl
theorem bts_nil : bindTs [] [] lc = some lc := rfl
theorem bts_cons {t : Tg} {ts : List Tg} {d : D} {ds : List D} : bindTs (t :: ts) (d :: ds) lc = (bindT t d lc).bind fun loc => bindTs ts ds loc := rfl
theorem cm_int {i j : Int} : cmpD .ge (.int i) (.int j) = some (decide (j ≤ i)) := rfl
theorem cm_lt {i j : Int} : cmpD .lt (.int i) (.int j) = some (decide (i < j)) := rfl
theorem cm_gt {i j : Int} : cmpD .gt (.int i) (.int j) = some (decide (j < i)) := rfl
theorem bi_add {i j : Int} : binD .add (.int i) (.int j) = some (.fz (.int (i + j))) := rfl
theorem bi_sub {i j : Int} : binD .sub (.int i) (.int j) = some (.fz (.int (i - j))) := rfl
theorem bi_mod {i j : Int} : binD .mod (.int i) (.int j) = if 0 < j then some (.fz (.int (i % j))) else none := rfl
theorem bi_fdiv {i j : Int} : binD .fdiv (.int i) (.int j) = if 0 < j ∧ j < 1073741824 then some (.fz (.int (i / j))) else none := rfl
theorem bi_mul {i j : Int} : binD .mul (.int i) (.int j) = if (-(2 ^ 64) < i ∧ i < 2 ^ 64) ∨ (-(2 ^ 64) < j ∧ j < 2 ^ 64) then some (.fz (.int (i * j))) else none := rfl
theorem bi_lst {l m : List D} : binD .add (.lst l) (.lst m) = if l.length + m.length ≤ lim then some (.ow (.lst (l ++ m))) else none := rfl
theorem ad_lst {l m : List D} : addD (.lst l) (.lst m) = if l.length + m.length ≤ lim then some (.ow (.lst (l ++ m))) else none := rfl
theorem ix_lst {l : List D} {i : Int} : ixD (.lst l) (.int i) = L2.atI l i := rfl
theorem ix_tup {l : List D} {i : Int} : ixD (.tup l) (.int i) = L2.atI l i := rfl
theorem pr_len {l : List D} : prim1 .len (.lst l) = some (.fz (.int l.length)) := rfl
theorem pr_lenT {l : List D} : prim1 .len (.tup l) = some (.fz (.int l.length)) := rfl
theorem pr_int {i : Int} : prim1 .int (.int i) = some (.fz (.int i)) := rfl
theorem pr_scr {l : List Int} : prim1 .list (.scr l) = some (.ow (.lst (l.map D.int))) := rfl
theorem pr_max {i j : Int} : prim2 .max (.int i) (.int j) = some (.fz (.int (if i < j then j else i))) := rfl
theorem it_rng {j : Int} {x : D} : itemsI .rng1 (.int j) x = if -(2 ^ 62) ≤ j ∧ j < 2 ^ 62 then some (rngL 0 j) else none := rfl
theorem it_lst {l : List D} {x : D} : itemsI .seq (.lst l) x = some l := rfl
theorem it_tup {l : List D} {x : D} : itemsI .seq (.tup l) x = some l := rfl
theorem it_scr {l : List Int} {x : D} : itemsI .seq (.scr l) x = some (l.map D.int) := rfl
theorem it_zip {l m : List D} : itemsI .zip (.lst l) (.lst m) = some (zipL l m) := rfl
theorem it_zipK {l : List (D × D)} {m : List D} : itemsI .zipK (.kdc l) (.tup m) = some (zipL (l.map (·.1)) m) := rfl
theorem l_var {i : Nat} {r_ : List E} : evL T ((.var i) :: r_) (S.mk lc rs) = (ev T (.var i) (S.mk lc rs)).bind fun x s => (evL T r_ s).bind fun xs s => .ok (x.d :: xs) s := rfl
theorem so_cst {d : D} {s : S} : slotOf (.cst d) s = none := rfl
theorem m_cst {d : D} : evM T (.cst d) (S.mk lc rs) = ev T (.cst d) (S.mk lc rs) := rfl
theorem l_cst {d : D} {r_ : List E} : evL T ((.cst d) :: r_) (S.mk lc rs) = (ev T (.cst d) (S.mk lc rs)).bind fun x s => (evL T r_ s).bind fun xs s => .ok (x.d :: xs) s := rfl
theorem so_glob {g : Nat} {s : S} : slotOf (.glob g) s = none := rfl
theorem m_glob {g : Nat} : evM T (.glob g) (S.mk lc rs) = ev T (.glob g) (S.mk lc rs) := rfl
theorem l_glob {g : Nat} {r_ : List E} : evL T ((.glob g) :: r_) (S.mk lc rs) = (ev T (.glob g) (S.mk lc rs)).bind fun x s => (evL T r_ s).bind fun xs s => .ok (x.d :: xs) s := rfl
theorem so_star {z_ : E} {s : S} : slotOf (.star z_) s = none := rfl
theorem m_star {z_ : E} : evM T (.star z_) (S.mk lc rs) = ev T (.star z_) (S.mk lc rs) := rfl
theorem so_tup {l : List E} {s : S} : slotOf (.tup l) s = none := rfl
theorem m_tup {l : List E} : evM T (.tup l) (S.mk lc rs) = ev T (.tup l) (S.mk lc rs) := rfl
theorem l_tup {l : List E} {r_ : List E} : evL T ((.tup l) :: r_) (S.mk lc rs) = (ev T (.tup l) (S.mk lc rs)).bind fun x s => (evL T r_ s).bind fun xs s => .ok (x.d :: xs) s := rfl
theorem so_lst {l : List E} {s : S} : slotOf (.lst l) s = none := rfl
theorem m_lst {l : List E} : evM T (.lst l) (S.mk lc rs) = ev T (.lst l) (S.mk lc rs) := rfl
theorem l_lst {l : List E} {r_ : List E} : evL T ((.lst l) :: r_) (S.mk lc rs) = (ev T (.lst l) (S.mk lc rs)).bind fun x s => (evL T r_ s).bind fun xs s => .ok (x.d :: xs) s := rfl
theorem so_dct0  {s : S} : slotOf (.dct0) s = none := rfl
theorem m_dct0  : evM T (.dct0) (S.mk lc rs) = ev T (.dct0) (S.mk lc rs) := rfl
theorem l_dct0  {r_ : List E} : evL T ((.dct0) :: r_) (S.mk lc rs) = (ev T (.dct0) (S.mk lc rs)).bind fun x s => (evL T r_ s).bind fun xs s => .ok (x.d :: xs) s := rfl
theorem so_dctOver {a : E} {k : E} {v : E} {s : S} : slotOf (.dctOver a k v) s = none := rfl
theorem m_dctOver {a : E} {k : E} {v : E} : evM T (.dctOver a k v) (S.mk lc rs) = ev T (.dctOver a k v) (S.mk lc rs) := rfl
theorem l_dctOver {a : E} {k : E} {v : E} {r_ : List E} : evL T ((.dctOver a k v) :: r_) (S.mk lc rs) = (ev T (.dctOver a k v) (S.mk lc rs)).bind fun x s => (evL T r_ s).bind fun xs s => .ok (x.d :: xs) s := rfl
theorem so_bin {op : Bop} {a : E} {b : E} {s : S} : slotOf (.bin op a b) s = none := rfl
theorem m_bin {op : Bop} {a : E} {b : E} : evM T (.bin op a b) (S.mk lc rs) = ev T (.bin op a b) (S.mk lc rs) := rfl
theorem l_bin {op : Bop} {a : E} {b : E} {r_ : List E} : evL T ((.bin op a b) :: r_) (S.mk lc rs) = (ev T (.bin op a b) (S.mk lc rs)).bind fun x s => (evL T r_ s).bind fun xs s => .ok (x.d :: xs) s := rfl
theorem so_addL {a : E} {b : E} {s : S} : slotOf (.addL a b) s = none := rfl
theorem m_addL {a : E} {b : E} : evM T (.addL a b) (S.mk lc rs) = ev T (.addL a b) (S.mk lc rs) := rfl
theorem l_addL {a : E} {b : E} {r_ : List E} : evL T ((.addL a b) :: r_) (S.mk lc rs) = (ev T (.addL a b) (S.mk lc rs)).bind fun x s => (evL T r_ s).bind fun xs s => .ok (x.d :: xs) s := rfl
theorem so_neg {a : E} {s : S} : slotOf (.neg a) s = none := rfl
theorem m_neg {a : E} : evM T (.neg a) (S.mk lc rs) = ev T (.neg a) (S.mk lc rs) := rfl
theorem l_neg {a : E} {r_ : List E} : evL T ((.neg a) :: r_) (S.mk lc rs) = (ev T (.neg a) (S.mk lc rs)).bind fun x s => (evL T r_ s).bind fun xs s => .ok (x.d :: xs) s := rfl
theorem so_not_ {a : E} {s : S} : slotOf (.not_ a) s = none := rfl
theorem m_not_ {a : E} : evM T (.not_ a) (S.mk lc rs) = ev T (.not_ a) (S.mk lc rs) := rfl
theorem l_not_ {a : E} {r_ : List E} : evL T ((.not_ a) :: r_) (S.mk lc rs) = (ev T (.not_ a) (S.mk lc rs)).bind fun x s => (evL T r_ s).bind fun xs s => .ok (x.d :: xs) s := rfl
theorem so_cmp {op : Cop} {a : E} {b : E} {s : S} : slotOf (.cmp op a b) s = none := rfl
theorem m_cmp {op : Cop} {a : E} {b : E} : evM T (.cmp op a b) (S.mk lc rs) = ev T (.cmp op a b) (S.mk lc rs) := rfl
theorem l_cmp {op : Cop} {a : E} {b : E} {r_ : List E} : evL T ((.cmp op a b) :: r_) (S.mk lc rs) = (ev T (.cmp op a b) (S.mk lc rs)).bind fun x s => (evL T r_ s).bind fun xs s => .ok (x.d :: xs) s := rfl
theorem so_has {n : Bool} {a : E} {b : E} {s : S} : slotOf (.has n a b) s = none := rfl
theorem m_has {n : Bool} {a : E} {b : E} : evM T (.has n a b) (S.mk lc rs) = ev T (.has n a b) (S.mk lc rs) := rfl
theorem l_has {n : Bool} {a : E} {b : E} {r_ : List E} : evL T ((.has n a b) :: r_) (S.mk lc rs) = (ev T (.has n a b) (S.mk lc rs)).bind fun x s => (evL T r_ s).bind fun xs s => .ok (x.d :: xs) s := rfl
theorem so_isN {a : E} {s : S} : slotOf (.isN a) s = none := rfl
theorem m_isN {a : E} : evM T (.isN a) (S.mk lc rs) = ev T (.isN a) (S.mk lc rs) := rfl
theorem l_isN {a : E} {r_ : List E} : evL T ((.isN a) :: r_) (S.mk lc rs) = (ev T (.isN a) (S.mk lc rs)).bind fun x s => (evL T r_ s).bind fun xs s => .ok (x.d :: xs) s := rfl
theorem so_isnN {a : E} {s : S} : slotOf (.isnN a) s = none := rfl
theorem m_isnN {a : E} : evM T (.isnN a) (S.mk lc rs) = ev T (.isnN a) (S.mk lc rs) := rfl
theorem l_isnN {a : E} {r_ : List E} : evL T ((.isnN a) :: r_) (S.mk lc rs) = (ev T (.isnN a) (S.mk lc rs)).bind fun x s => (evL T r_ s).bind fun xs s => .ok (x.d :: xs) s := rfl
theorem so_chain {lo : E} {a : E} {hi : E} {s : S} : slotOf (.chain lo a hi) s = none := rfl
theorem m_chain {lo : E} {a : E} {hi : E} : evM T (.chain lo a hi) (S.mk lc rs) = ev T (.chain lo a hi) (S.mk lc rs) := rfl
theorem l_chain {lo : E} {a : E} {hi : E} {r_ : List E} : evL T ((.chain lo a hi) :: r_) (S.mk lc rs) = (ev T (.chain lo a hi) (S.mk lc rs)).bind fun x s => (evL T r_ s).bind fun xs s => .ok (x.d :: xs) s := rfl
theorem so_and_ {a : E} {b : E} {s : S} : slotOf (.and_ a b) s = none := rfl
theorem m_and_ {a : E} {b : E} : evM T (.and_ a b) (S.mk lc rs) = ev T (.and_ a b) (S.mk lc rs) := rfl
theorem l_and_ {a : E} {b : E} {r_ : List E} : evL T ((.and_ a b) :: r_) (S.mk lc rs) = (ev T (.and_ a b) (S.mk lc rs)).bind fun x s => (evL T r_ s).bind fun xs s => .ok (x.d :: xs) s := rfl
theorem so_or_ {a : E} {b : E} {s : S} : slotOf (.or_ a b) s = none := rfl
theorem m_or_ {a : E} {b : E} : evM T (.or_ a b) (S.mk lc rs) = ev T (.or_ a b) (S.mk lc rs) := rfl
theorem l_or_ {a : E} {b : E} {r_ : List E} : evL T ((.or_ a b) :: r_) (S.mk lc rs) = (ev T (.or_ a b) (S.mk lc rs)).bind fun x s => (evL T r_ s).bind fun xs s => .ok (x.d :: xs) s := rfl
theorem so_ife {c : E} {a : E} {b : E} {s : S} : slotOf (.ife c a b) s = none := rfl
theorem m_ife {c : E} {a : E} {b : E} : evM T (.ife c a b) (S.mk lc rs) = ev T (.ife c a b) (S.mk lc rs) := rfl
theorem l_ife {c : E} {a : E} {b : E} {r_ : List E} : evL T ((.ife c a b) :: r_) (S.mk lc rs) = (ev T (.ife c a b) (S.mk lc rs)).bind fun x s => (evL T r_ s).bind fun xs s => .ok (x.d :: xs) s := rfl
theorem so_ix {a : E} {b : E} {s : S} : slotOf (.ix a b) s = none := rfl
theorem m_ix {a : E} {b : E} : evM T (.ix a b) (S.mk lc rs) = ev T (.ix a b) (S.mk lc rs) := rfl
theorem l_ix {a : E} {b : E} {r_ : List E} : evL T ((.ix a b) :: r_) (S.mk lc rs) = (ev T (.ix a b) (S.mk lc rs)).bind fun x s => (evL T r_ s).bind fun xs s => .ok (x.d :: xs) s := rfl
theorem so_sl {a : E} {lo : Option E} {hi : Option E} {s : S} : slotOf (.sl a lo hi) s = none := rfl
theorem m_sl {a : E} {lo : Option E} {hi : Option E} : evM T (.sl a lo hi) (S.mk lc rs) = ev T (.sl a lo hi) (S.mk lc rs) := rfl
theorem l_sl {a : E} {lo : Option E} {hi : Option E} {r_ : List E} : evL T ((.sl a lo hi) :: r_) (S.mk lc rs) = (ev T (.sl a lo hi) (S.mk lc rs)).bind fun x s => (evL T r_ s).bind fun xs s => .ok (x.d :: xs) s := rfl
theorem so_get {a : E} {k : E} {v : E} {s : S} : slotOf (.get a k v) s = none := rfl
theorem m_get {a : E} {k : E} {v : E} : evM T (.get a k v) (S.mk lc rs) = ev T (.get a k v) (S.mk lc rs) := rfl
theorem l_get {a : E} {k : E} {v : E} {r_ : List E} : evL T ((.get a k v) :: r_) (S.mk lc rs) = (ev T (.get a k v) (S.mk lc rs)).bind fun x s => (evL T r_ s).bind fun xs s => .ok (x.d :: xs) s := rfl
theorem so_fld {a : E} {f : Nat} {s : S} : slotOf (.fld a f) s = none := rfl
theorem m_fld {a : E} {f : Nat} : evM T (.fld a f) (S.mk lc rs) = ev T (.fld a f) (S.mk lc rs) := rfl
theorem l_fld {a : E} {f : Nat} {r_ : List E} : evL T ((.fld a f) :: r_) (S.mk lc rs) = (ev T (.fld a f) (S.mk lc rs)).bind fun x s => (evL T r_ s).bind fun xs s => .ok (x.d :: xs) s := rfl
theorem so_xfld {i : Nat} {f : Nat} {s : S} : slotOf (.xfld i f) s = none := rfl
theorem m_xfld {i : Nat} {f : Nat} : evM T (.xfld i f) (S.mk lc rs) = ev T (.xfld i f) (S.mk lc rs) := rfl
theorem l_xfld {i : Nat} {f : Nat} {r_ : List E} : evL T ((.xfld i f) :: r_) (S.mk lc rs) = (ev T (.xfld i f) (S.mk lc rs)).bind fun x s => (evL T r_ s).bind fun xs s => .ok (x.d :: xs) s := rfl
theorem so_xis {i : Nat} {c : Nat} {s : S} : slotOf (.xis i c) s = none := rfl
theorem m_xis {i : Nat} {c : Nat} : evM T (.xis i c) (S.mk lc rs) = ev T (.xis i c) (S.mk lc rs) := rfl
theorem l_xis {i : Nat} {c : Nat} {r_ : List E} : evL T ((.xis i c) :: r_) (S.mk lc rs) = (ev T (.xis i c) (S.mk lc rs)).bind fun x s => (evL T r_ s).bind fun xs s => .ok (x.d :: xs) s := rfl
theorem so_prop {a : E} {m : Nat} {s : S} : slotOf (.prop a m) s = none := rfl
theorem m_prop {a : E} {m : Nat} : evM T (.prop a m) (S.mk lc rs) = ev T (.prop a m) (S.mk lc rs) := rfl
theorem l_prop {a : E} {m : Nat} {r_ : List E} : evL T ((.prop a m) :: r_) (S.mk lc rs) = (ev T (.prop a m) (S.mk lc rs)).bind fun x s => (evL T r_ s).bind fun xs s => .ok (x.d :: xs) s := rfl
theorem so_call {g : Nat} {l : List E} {s : S} : slotOf (.call g l) s = none := rfl
theorem m_call {g : Nat} {l : List E} : evM T (.call g l) (S.mk lc rs) = ev T (.call g l) (S.mk lc rs) := rfl
theorem l_call {g : Nat} {l : List E} {r_ : List E} : evL T ((.call g l) :: r_) (S.mk lc rs) = (ev T (.call g l) (S.mk lc rs)).bind fun x s => (evL T r_ s).bind fun xs s => .ok (x.d :: xs) s := rfl
theorem so_new {c : Nat} {l : List E} {s : S} : slotOf (.new c l) s = none := rfl
theorem m_new {c : Nat} {l : List E} : evM T (.new c l) (S.mk lc rs) = ev T (.new c l) (S.mk lc rs) := rfl
theorem l_new {c : Nat} {l : List E} {r_ : List E} : evL T ((.new c l) :: r_) (S.mk lc rs) = (ev T (.new c l) (S.mk lc rs)).bind fun x s => (evL T r_ s).bind fun xs s => .ok (x.d :: xs) s := rfl
theorem so_oeq {a : E} {b : E} {s : S} : slotOf (.oeq a b) s = none := rfl
theorem m_oeq {a : E} {b : E} : evM T (.oeq a b) (S.mk lc rs) = ev T (.oeq a b) (S.mk lc rs) := rfl
theorem l_oeq {a : E} {b : E} {r_ : List E} : evL T ((.oeq a b) :: r_) (S.mk lc rs) = (ev T (.oeq a b) (S.mk lc rs)).bind fun x s => (evL T r_ s).bind fun xs s => .ok (x.d :: xs) s := rfl
theorem so_olen {a : E} {m : Nat} {s : S} : slotOf (.olen a m) s = none := rfl
theorem m_olen {a : E} {m : Nat} : evM T (.olen a m) (S.mk lc rs) = ev T (.olen a m) (S.mk lc rs) := rfl
theorem l_olen {a : E} {m : Nat} {r_ : List E} : evL T ((.olen a m) :: r_) (S.mk lc rs) = (ev T (.olen a m) (S.mk lc rs)).bind fun x s => (evL T r_ s).bind fun xs s => .ok (x.d :: xs) s := rfl
theorem so_meth {a : E} {m : Nat} {l : List E} {s : S} : slotOf (.meth a m l) s = none := rfl
theorem m_meth {a : E} {m : Nat} {l : List E} : evM T (.meth a m l) (S.mk lc rs) = ev T (.meth a m l) (S.mk lc rs) := rfl
theorem l_meth {a : E} {m : Nat} {l : List E} {r_ : List E} : evL T ((.meth a m l) :: r_) (S.mk lc rs) = (ev T (.meth a m l) (S.mk lc rs)).bind fun x s => (evL T r_ s).bind fun xs s => .ok (x.d :: xs) s := rfl
theorem so_p1 {p : P1} {a : E} {s : S} : slotOf (.p1 p a) s = none := rfl
theorem m_p1 {p : P1} {a : E} : evM T (.p1 p a) (S.mk lc rs) = ev T (.p1 p a) (S.mk lc rs) := rfl
theorem l_p1 {p : P1} {a : E} {r_ : List E} : evL T ((.p1 p a) :: r_) (S.mk lc rs) = (ev T (.p1 p a) (S.mk lc rs)).bind fun x s => (evL T r_ s).bind fun xs s => .ok (x.d :: xs) s := rfl
theorem so_p2 {p : P2} {a : E} {b : E} {s : S} : slotOf (.p2 p a b) s = none := rfl
theorem m_p2 {p : P2} {a : E} {b : E} : evM T (.p2 p a b) (S.mk lc rs) = ev T (.p2 p a b) (S.mk lc rs) := rfl
theorem l_p2 {p : P2} {a : E} {b : E} {r_ : List E} : evL T ((.p2 p a b) :: r_) (S.mk lc rs) = (ev T (.p2 p a b) (S.mk lc rs)).bind fun x s => (evL T r_ s).bind fun xs s => .ok (x.d :: xs) s := rfl
theorem so_isi {a : E} {t : Ty} {s : S} : slotOf (.isi a t) s = none := rfl
theorem m_isi {a : E} {t : Ty} : evM T (.isi a t) (S.mk lc rs) = ev T (.isi a t) (S.mk lc rs) := rfl
theorem l_isi {a : E} {t : Ty} {r_ : List E} : evL T ((.isi a t) :: r_) (S.mk lc rs) = (ev T (.isi a t) (S.mk lc rs)).bind fun x s => (evL T r_ s).bind fun xs s => .ok (x.d :: xs) s := rfl
theorem so_place {a : E} {s : S} : slotOf (.place a) s = none := rfl
theorem m_place {a : E} : evM T (.place a) (S.mk lc rs) = ev T (.place a) (S.mk lc rs) := rfl
theorem l_place {a : E} {r_ : List E} : evL T ((.place a) :: r_) (S.mk lc rs) = (ev T (.place a) (S.mk lc rs)).bind fun x s => (evL T r_ s).bind fun xs s => .ok (x.d :: xs) s := rfl
theorem so_pop {a : E} {s : S} : slotOf (.pop a) s = none := rfl
theorem m_pop {a : E} : evM T (.pop a) (S.mk lc rs) = ev T (.pop a) (S.mk lc rs) := rfl
theorem l_pop {a : E} {r_ : List E} : evL T ((.pop a) :: r_) (S.mk lc rs) = (ev T (.pop a) (S.mk lc rs)).bind fun x s => (evL T r_ s).bind fun xs s => .ok (x.d :: xs) s := rfl
theorem so_popK {a : E} {k : E} {s : S} : slotOf (.popK a k) s = none := rfl
theorem m_popK {a : E} {k : E} : evM T (.popK a k) (S.mk lc rs) = ev T (.popK a k) (S.mk lc rs) := rfl
theorem l_popK {a : E} {k : E} {r_ : List E} : evL T ((.popK a k) :: r_) (S.mk lc rs) = (ev T (.popK a k) (S.mk lc rs)).bind fun x s => (evL T r_ s).bind fun xs s => .ok (x.d :: xs) s := rfl
theorem so_lc {own : List Nat} {elt : E} {tg : Tg} {k : Ik} {a : E} {b : E} {ifs : Option E} {s : S} : slotOf (.lc own elt tg k a b ifs) s = none := rfl
theorem m_lc {own : List Nat} {elt : E} {tg : Tg} {k : Ik} {a : E} {b : E} {ifs : Option E} : evM T (.lc own elt tg k a b ifs) (S.mk lc rs) = ev T (.lc own elt tg k a b ifs) (S.mk lc rs) := rfl
theorem l_lc {own : List Nat} {elt : E} {tg : Tg} {k : Ik} {a : E} {b : E} {ifs : Option E} {r_ : List E} : evL T ((.lc own elt tg k a b ifs) :: r_) (S.mk lc rs) = (ev T (.lc own elt tg k a b ifs) (S.mk lc rs)).bind fun x s => (evL T r_ s).bind fun xs s => .ok (x.d :: xs) s := rfl
theorem so_dc {own : List Nat} {ke : E} {ve : E} {tg : Tg} {k : Ik} {a : E} {b : E} {ifs : Option E} {s : S} : slotOf (.dc own ke ve tg k a b ifs) s = none := rfl
theorem m_dc {own : List Nat} {ke : E} {ve : E} {tg : Tg} {k : Ik} {a : E} {b : E} {ifs : Option E} : evM T (.dc own ke ve tg k a b ifs) (S.mk lc rs) = ev T (.dc own ke ve tg k a b ifs) (S.mk lc rs) := rfl
theorem l_dc {own : List Nat} {ke : E} {ve : E} {tg : Tg} {k : Ik} {a : E} {b : E} {ifs : Option E} {r_ : List E} : evL T ((.dc own ke ve tg k a b ifs) :: r_) (S.mk lc rs) = (ev T (.dc own ke ve tg k a b ifs) (S.mk lc rs)).bind fun x s => (evL T r_ s).bind fun xs s => .ok (x.d :: xs) s := rfl
theorem v_var {i : Nat} : ev T (.var i) (S.mk lc rs) = (match lc[i]? with
    | some (some (.fz d)) => .ok (.fz d) (S.mk lc rs)
    | some (some (.ow c)) => if c.con then .ok (.fz c.d) (S.mk (lc.set i (some (.fz c.d))) rs) else .bad
    | _ => .bad) := rfl
theorem v_cst {d : D} : ev T (.cst d) (S.mk lc rs) = (.ok (.fz d) (S.mk lc rs)) := rfl
theorem v_glob {g : Nat} : ev T (.glob g) (S.mk lc rs) = (ofO ((T.glob g).map .fz) (S.mk lc rs)) := rfl
theorem v_star {z_ : E} : ev T (.star z_) (S.mk lc rs) = (.bad) := rfl
theorem v_tup {l : List E} : ev T (.tup l) (S.mk lc rs) = ((evL T l (S.mk lc rs)).bind fun ds s => if ds.length ≤ lim then .ok (.fz (.tup ds)) s else .bad) := rfl
theorem v_lst {l : List E} : ev T (.lst l) (S.mk lc rs) = ((evL T l (S.mk lc rs)).bind fun ds s => if ds.length ≤ lim then .ok (.ow (.lst ds)) s else .bad) := rfl
theorem v_dct0  : ev T (.dct0) (S.mk lc rs) = (.ok (.ow (.dct [])) (S.mk lc rs)) := rfl
theorem v_dctOver {a : E} {k : E} {v : E} : ev T (.dctOver a k v) (S.mk lc rs) = ((rfR (slotOf a (S.mk lc rs)) (S.mk lc rs) (ev T a (S.mk lc rs))).bind fun r s => match lookR r s with
    | some (.dct kvs) => if kvs.length < lim then (ev T k s).bind fun y s => (ev T v s).bind fun z s => if y.d.isKey then .ok (.ow (.dct (dput kvs y.d z.d))) s else .bad else .bad
    | _ => .bad) := rfl
theorem v_bin {op : Bop} {a : E} {b : E} : ev T (.bin op a b) (S.mk lc rs) = ((ev T a (S.mk lc rs)).bind fun x s => (ev T b s).bind fun y s => ofO (binD op x.d y.d) s) := rfl
theorem v_addL {a : E} {b : E} : ev T (.addL a b) (S.mk lc rs) = ((rfR (slotOf a (S.mk lc rs)) (S.mk lc rs) (ev T a (S.mk lc rs))).bind fun r s => (ev T b s).bind fun y s => ofO ((lookR r s).bind fun x => addD x y.d) s) := rfl
theorem v_neg {a : E} : ev T (.neg a) (S.mk lc rs) = ((ev T a (S.mk lc rs)).bind fun x s => match x.d with
    | .int i => .ok (.fz (.int (-i))) s
    | _ => .bad) := rfl
theorem v_not_ {a : E} : ev T (.not_ a) (S.mk lc rs) = ((ev T a (S.mk lc rs)).bind fun x s => match x.d with
    | .bl b => .ok (.fz (.bl (!b))) s
    | _ => .bad) := rfl
theorem v_cmp {op : Cop} {a : E} {b : E} : ev T (.cmp op a b) (S.mk lc rs) = ((ev T a (S.mk lc rs)).bind fun x s => (ev T b s).bind fun y s => ofO ((cmpD op x.d y.d).map fun b => .fz (.bl b)) s) := rfl
theorem v_has {n : Bool} {a : E} {b : E} : ev T (.has n a b) (S.mk lc rs) = ((ev T a (S.mk lc rs)).bind fun x s => (rfR (slotOf b s) s (ev T b s)).bind fun r s => ofO (((lookR r s).bind fun y => hasD x.d y).map fun b => .fz (.bl (b != n))) s) := rfl
theorem v_isN {a : E} : ev T (.isN a) (S.mk lc rs) = ((ev T a (S.mk lc rs)).bind fun x s => match x.d with
    | .non => .ok (.fz (.bl true)) s
    | _ => .ok (.fz (.bl false)) s) := rfl
theorem v_isnN {a : E} : ev T (.isnN a) (S.mk lc rs) = ((ev T a (S.mk lc rs)).bind fun x s => match x.d with
    | .non => .ok (.fz (.bl false)) s
    | _ => .ok (.fz (.bl true)) s) := rfl
theorem v_chain {lo : E} {a : E} {hi : E} : ev T (.chain lo a hi) (S.mk lc rs) = ((ev T lo (S.mk lc rs)).bind fun x s => (ev T a s).bind fun y s => match x.d, y.d with
    | .int i, .int j => if i ≤ j then (ev T hi s).bind fun z s => (match z.d with
        | .int k => .ok (.fz (.bl (decide (j ≤ k)))) s
        | _ => .bad) else .ok (.fz (.bl false)) s
    | _, _ => .bad) := rfl
theorem v_and_ {a : E} {b : E} : ev T (.and_ a b) (S.mk lc rs) = ((ev T a (S.mk lc rs)).bind fun x s => match x.d with
    | .bl true => (ev T b s).bind fun y s => match y.d with
      | .bl c => .ok (.fz (.bl c)) s
      | _ => .bad
    | .bl false => .ok (.fz (.bl false)) s
    | _ => .bad) := rfl
theorem v_or_ {a : E} {b : E} : ev T (.or_ a b) (S.mk lc rs) = ((ev T a (S.mk lc rs)).bind fun x s => match x.d with
    | .bl false => (ev T b s).bind fun y s => match y.d with
      | .bl c => .ok (.fz (.bl c)) s
      | _ => .bad
    | .bl true => .ok (.fz (.bl true)) s
    | _ => .bad) := rfl
theorem v_ife {c : E} {a : E} {b : E} : ev T (.ife c a b) (S.mk lc rs) = ((ev T c (S.mk lc rs)).bind fun x s => match x.d with
    | .bl true => ev T a s
    | .bl false => ev T b s
    | _ => .bad) := rfl
theorem v_ix {a : E} {b : E} : ev T (.ix a b) (S.mk lc rs) = ((rfR (slotOf a (S.mk lc rs)) (S.mk lc rs) (ev T a (S.mk lc rs))).bind fun r s => (ev T b s).bind fun y s => ofO (((lookR r s).bind fun x => ixD x y.d).map .fz) s) := rfl
theorem v_sl {a : E} {lo : Option E} {hi : Option E} : ev T (.sl a lo hi) (S.mk lc rs) = ((rfR (slotOf a (S.mk lc rs)) (S.mk lc rs) (ev T a (S.mk lc rs))).bind fun r s => (evO T lo s).bind fun l s => (evO T hi s).bind fun h s => ofO ((lookR r s).bind fun x => slD x l h) s) := rfl
theorem v_get {a : E} {k : E} {v : E} : ev T (.get a k v) (S.mk lc rs) = ((rfR (slotOf a (S.mk lc rs)) (S.mk lc rs) (ev T a (S.mk lc rs))).bind fun r s => if isDct r s then (ev T k s).bind fun y s => (ev T v s).bind fun z s => (match lookR r s with
    | some (.dct kvs) => if y.d.isKey then .ok (.fz ((dget kvs y.d).getD z.d)) s else .bad
    | _ => .bad) else .bad) := rfl
theorem v_fld {a : E} {f : Nat} : ev T (.fld a f) (S.mk lc rs) = ((ev T a (S.mk lc rs)).bind fun x s => ofO ((fieldD T.flds x.d f s.res).map .fz) s) := rfl
theorem v_xfld {i : Nat} {f : Nat} : ev T (.xfld i f) (S.mk lc rs) = (match lc[i]? with
    | some (some (.xc c fs)) => if (T.exf c).contains f = true then ofO ((fs.lookup f).map .fz) (S.mk lc rs) else .bad
    | _ => .bad) := rfl
theorem v_xis {i : Nat} {c : Nat} : ev T (.xis i c) (S.mk lc rs) = (match lc[i]? with
    | some (some (.xc k _)) => if T.sub k k = true then .ok (.fz (.bl (T.sub k c))) (S.mk lc rs) else .bad
    | _ => .bad) := rfl
theorem v_prop {a : E} {m : Nat} : ev T (.prop a m) (S.mk lc rs) = ((ev T a (S.mk lc rs)).bind fun x s => match (clsD x.d s.res).bind fun c => T.prop c m with
    | some g => getEnd s (T.fn g [x.d] s.res)
    | none => .bad) := rfl
theorem v_call {g : Nat} {l : List E} : ev T (.call g l) (S.mk lc rs) = ((evL T l (S.mk lc rs)).bind fun ds s => (T.fn g ds s.res).at s.loc) := rfl
theorem v_new {c : Nat} {l : List E} : ev T (.new c l) (S.mk lc rs) = ((evL T l (S.mk lc rs)).bind fun ds s => match T.init c with
    | some g => if T.val c then (if noresL ds then newVal s (T.fn g (.res 0 :: ds) [.ins c []]) else .bad) else newEnd s.res.length s.loc (T.fn g (.res s.res.length :: ds) (s.res ++ [.ins c []]))
    | none => .bad) := rfl
theorem v_oeq {a : E} {b : E} : ev T (.oeq a b) (S.mk lc rs) = ((ev T a (S.mk lc rs)).bind fun x s => (ev T b s).bind fun y s => match (clsD x.d s.res).bind T.oeq with
    | some g => if y.d.badSide T.init then .bad else getEnd s (T.fn g [x.d, y.d] s.res)
    | none => .bad) := rfl
theorem v_olen {a : E} {m : Nat} : ev T (.olen a m) (S.mk lc rs) = ((ev T a (S.mk lc rs)).bind fun x s => match (clsD x.d s.res).bind fun c => T.meth c m with
    | some g => lenEnd s (T.fn g [x.d] s.res)
    | none => .bad) := rfl
theorem v_meth {a : E} {m : Nat} {l : List E} : ev T (.meth a m l) (S.mk lc rs) = ((ev T a (S.mk lc rs)).bind fun x s => match (clsD x.d s.res).bind fun c => T.meth c m with
    | some g => (evL T l s).bind fun ds s => (T.fn g (x.d :: ds) s.res).at s.loc
    | none => .bad) := rfl
theorem v_p1 {p : P1} {a : E} : ev T (.p1 p a) (S.mk lc rs) = ((rfR (slotOf a (S.mk lc rs)) (S.mk lc rs) (ev T a (S.mk lc rs))).bind fun r s => ofO ((lookR r s).bind (prim1 p)) s) := rfl
theorem v_p2 {p : P2} {a : E} {b : E} : ev T (.p2 p a b) (S.mk lc rs) = ((ev T a (S.mk lc rs)).bind fun x s => (ev T b s).bind fun y s => ofO (prim2 p x.d y.d) s) := rfl
theorem v_isi {a : E} {t : Ty} : ev T (.isi a t) (S.mk lc rs) = ((ev T a (S.mk lc rs)).bind fun x s => ofO ((isiD x.d t T.isic).map fun b => .fz (.bl b)) s) := rfl
theorem v_place {a : E} : ev T (.place a) (S.mk lc rs) = ((ev T a (S.mk lc rs)).bind fun x s => match x with
    | .ow c => .ok (.fz (.res s.res.length)) { s with res := s.res ++ [c] }
    | _ => .bad) := rfl
theorem v_pop {a : E} : ev T (.pop a) (S.mk lc rs) = ((rfR (slotOf a (S.mk lc rs)) (S.mk lc rs) (ev T a (S.mk lc rs))).bind fun r s => match cellR r s with
    | some (p, c) => (match popC c with
      | some (d, c') => .ok (.fz d) (s.put p c')
      | none => .bad)
    | none => .bad) := rfl
theorem v_popK {a : E} {k : E} : ev T (.popK a k) (S.mk lc rs) = ((rfR (slotOf a (S.mk lc rs)) (S.mk lc rs) (ev T a (S.mk lc rs))).bind fun r s => if isDct r s then (ev T k s).bind fun y s => (match cellR r s with
    | some (p, c) => (match popKC c y.d with
      | some (d, c') => .ok (.fz d) (s.put p c')
      | none => .bad)
    | none => .bad) else .bad) := rfl
theorem v_lc {own : List Nat} {elt : E} {tg : Tg} {k : Ik} {a : E} {b : E} {ifs : Option E} : ev T (.lc own elt tg k a b ifs) (S.mk lc rs) = ((ev T a (S.mk lc rs)).bind fun x s => (if k.two then ev T b s else .ok (.fz .non) s).bind fun y s => match itemsI k x.d y.d with
    | some items => (lcGo own tg (fun s => evT T ifs s) (fun s => ev T elt s) items (s.wipe own) []).calm.bind fun acc s2 => if acc.length ≤ lim then .ok (.ow (.lst acc)) (s.over s2 own) else .bad
    | none => .bad) := rfl
theorem v_dc {own : List Nat} {ke : E} {ve : E} {tg : Tg} {k : Ik} {a : E} {b : E} {ifs : Option E} : ev T (.dc own ke ve tg k a b ifs) (S.mk lc rs) = ((ev T a (S.mk lc rs)).bind fun x s => (if k.two then ev T b s else .ok (.fz .non) s).bind fun y s => match itemsI k x.d y.d with
    | some items => (dcGo own tg (fun s => evT T ifs s) (fun s => (ev T ke s).bind fun q s => (ev T ve s).bind fun w s => .ok (q.d, w.d) s) items (s.wipe own) []).calm.bind fun acc s2 => .ok (.ow (.dct acc)) (s.over s2 own)
    | none => .bad) := rfl
end
end Pm
namespace Pm
open PySem (Str PyData)
def cNext : Code := ⟨3, 2, [.asg (.var 2) (.ix (.addL (.ix (.var 0) (.cst (.int 1))) (.lst [.cst (.int 0)])) (.bin .mod (.p1 .int (.ix (.var 0) (.cst (.int 2)))) (.p2 .max (.cst (.int 1)) (.p1 .len (.ix (.var 0) (.cst (.int 1))))))), .ite (.cmp .ge (.var 2) (.cst (.int 1000000000000000000))) [.setIx (.ix (.var 0) (.cst (.int 1))) (.bin .mod (.p1 .int (.ix (.var 0) (.cst (.int 2)))) (.p1 .len (.ix (.var 0) (.cst (.int 1))))) (.bin .fdiv (.var 2) (.var 1)), .ret (.bin .mod (.p1 .int (.var 2)) (.var 1))] [], .setIx (.var 0) (.cst (.int 0)) (.bin .mod (.p1 .int (.bin .add (.bin .add (.bin .mul (.ix (.var 0) (.cst (.int 0))) (.cst (.int 48271))) (.bin .mul (.var 2) (.cst (.int 69621)))) (.cst (.int 11)))) (.cst (.int 2147483647))), .setIx (.var 0) (.cst (.int 2)) (.bin .add (.ix (.var 0) (.cst (.int 2))) (.cst (.int 1))), .ret (.bin .mod (.p1 .int (.bin .fdiv (.ix (.var 0) (.cst (.int 0))) (.cst (.int 7)))) (.var 1))]⟩
def Hs (cs : List Int) (st ix : Int) (rest : List Cell) : List Cell := .lst (cs.map D.int) :: .lst [.int st, .res 0, .int ix] :: rest
theorem at_nat {l : List D} {k : Nat} {x : D} (h : l[k]? = some x) : L2.atI l (k : Int) = some x := by
  obtain ⟨lt, _⟩ := List.getElem?_eq_some_iff.mp h
  unfold L2.atI L2.ixN
  rw [if_pos (by omega), if_pos (by omega)]
  exact h
theorem at0 {l : List D} {x : D} : L2.atI (x :: l) 0 = some x := at_nat (k := 0) rfl
theorem at1 {l : List D} {x0 x : D} : L2.atI (x0 :: x :: l) 1 = some x := at_nat (k := 1) rfl
theorem at2 {l : List D} {x0 x1 x : D} : L2.atI (x0 :: x1 :: x :: l) 2 = some x := at_nat (k := 2) rfl
theorem at3 {l : List D} {x0 x1 x2 x : D} : L2.atI (x0 :: x1 :: x2 :: x :: l) 3 = some x := at_nat (k := 3) rfl
theorem at4 {l : List D} {x0 x1 x2 x3 x : D} : L2.atI (x0 :: x1 :: x2 :: x3 :: x :: l) 4 = some x := at_nat (k := 4) rfl
theorem at5 {l : List D} {x0 x1 x2 x3 x4 x : D} : L2.atI (x0 :: x1 :: x2 :: x3 :: x4 :: x :: l) 5 = some x := at_nat (k := 5) rfl
theorem at6 {l : List D} {x0 x1 x2 x3 x4 x5 x : D} : L2.atI (x0 :: x1 :: x2 :: x3 :: x4 :: x5 :: x :: l) 6 = some x := at_nat (k := 6) rfl
theorem ixn_nat {n k : Nat} (h : k < n) : L2.ixN n (k : Int) = some k := by
  unfold L2.ixN
  rw [if_pos (by omega), if_pos (by omega)]
  rfl
theorem ixn0 {n : Nat} : L2.ixN (n + 1) 0 = some 0 := ixn_nat (k := 0) (by omega)
theorem ixn1 {n : Nat} : L2.ixN (n + 2) 1 = some 1 := ixn_nat (k := 1) (by omega)
theorem ixn2 {n : Nat} : L2.ixN (n + 3) 2 = some 2 := ixn_nat (k := 2) (by omega)
def fin (r : R Fl) : FR := match r with
  | .ok .nx s => .ok (.fz .non) s.res
  | .ok (.ret a) s => .ok a s.res
  | .exc k fs s => .exc k fs s.res
  | .bad => .bad
theorem fin_nx {l : List (Option Sl)} {r : List Cell} : fin (.ok .nx (S.mk l r)) = .ok (.fz .non) r := rfl
theorem fin_ret {a : Sl} {l : List (Option Sl)} {r : List Cell} : fin (.ok (.ret a) (S.mk l r)) = .ok a r := rfl
theorem fin_exc {k : Nat} {fs : List (Nat × D)} {l : List (Option Sl)} {r : List Cell} : fin (.exc k fs (S.mk l r)) = .exc k fs r := rfl
theorem run0 {T : Tab} {n : Nat} {b : List St} {rs : List Cell} : runCode T ⟨n, 0, b⟩ [] rs = fin (exL T b (S.mk (List.replicate n none) rs)) := rfl
theorem run1 {T : Tab} {n : Nat} {b : List St} {rs : List Cell} {x : D} : runCode T ⟨n, 1, b⟩ [x] rs = fin (exL T b (S.mk (some (.fz x) :: List.replicate (n - 1) none) rs)) := rfl
theorem run2 {T : Tab} {n : Nat} {b : List St} {rs : List Cell} {x y : D} : runCode T ⟨n, 2, b⟩ [x, y] rs = fin (exL T b (S.mk (some (.fz x) :: some (.fz y) :: List.replicate (n - 2) none) rs)) := rfl
theorem run3 {T : Tab} {n : Nat} {b : List St} {rs : List Cell} {x y z : D} : runCode T ⟨n, 3, b⟩ [x, y, z] rs = fin (exL T b (S.mk (some (.fz x) :: some (.fz y) :: some (.fz z) :: List.replicate (n - 3) none) rs)) := rfl
theorem run4 {T : Tab} {n : Nat} {b : List St} {rs : List Cell} {x y z u : D} : runCode T ⟨n, 4, b⟩ [x, y, z, u] rs = fin (exL T b (S.mk (some (.fz x) :: some (.fz y) :: some (.fz z) :: some (.fz u) :: List.replicate (n - 4) none) rs)) := rfl
theorem run5 {T : Tab} {n : Nat} {b : List St} {rs : List Cell} {x y z u v : D} : runCode T ⟨n, 5, b⟩ [x, y, z, u, v] rs = fin (exL T b (S.mk (some (.fz x) :: some (.fz y) :: some (.fz z) :: some (.fz u) :: some (.fz v) :: List.replicate (n - 5) none) rs)) := rfl
theorem rp1 {α : Type} {a : α} : List.replicate 1 a = [a] := rfl
theorem rp2 {α : Type} {a : α} : List.replicate 2 a = [a, a] := rfl
theorem rp3 {α : Type} {a : α} : List.replicate 3 a = [a, a, a] := rfl
theorem rp4 {α : Type} {a : α} : List.replicate 4 a = [a, a, a, a] := rfl
theorem rp11 {α : Type} {a : α} : List.replicate 11 a = [a, a, a, a, a, a, a, a, a, a, a] := rfl
local macro_rules | `(tactic| walk_at "go") => `(tactic| try simp only [or_true, true_or, bind_ok, bind_exc, bind_bad, rf_none, rf_some, d_fz, d_lst, d_dct, lk_res, lk_lst, lk_tup, lk_dct, lk_kdc, lk_scr, lk_int, lk_str, lk_bl, lk_slot, look_l, look_d, con_l, con_d, cd_l, cd_d, of_some, of_none, so_var, l_var, so_cst, m_cst, l_cst, so_glob, m_glob, l_glob, so_star, m_star, so_tup, m_tup, l_tup, so_lst, m_lst, l_lst, so_dct0, m_dct0, l_dct0, so_dctOver, m_dctOver, l_dctOver, so_bin, m_bin, l_bin, so_addL, m_addL, l_addL, so_neg, m_neg, l_neg, so_not_, m_not_, l_not_, so_cmp, m_cmp, l_cmp, so_has, m_has, l_has, so_isN, m_isN, l_isN, so_isnN, m_isnN, l_isnN, so_chain, m_chain, l_chain, so_and_, m_and_, l_and_, so_or_, m_or_, l_or_, so_ife, m_ife, l_ife, so_ix, m_ix, l_ix, so_sl, m_sl, l_sl, so_get, m_get, l_get, so_fld, m_fld, l_fld, so_xfld, m_xfld, l_xfld, so_xis, m_xis, l_xis, so_prop, m_prop, l_prop, so_call, m_call, l_call, so_new, m_new, l_new, so_oeq, m_oeq, l_oeq, so_meth, m_meth, l_meth, so_p1, m_p1, l_p1, so_p2, m_p2, l_p2, so_isi, m_isi, l_isi, so_place, m_place, l_place, so_pop, m_pop, l_pop, so_popK, m_popK, l_popK, so_lc, m_lc, l_lc, so_dc, m_dc, l_dc, at_ok, at_exc, at_bad, get_ok, evL_nil, evO_none, evO_some, evT_none, evT_some, evR_eq, evI_eq, evM_var, evS_nil, evS_cons, exL_nil, exL_cons, ex_expr, ex_asg, ex_asgT, ex_par, ex_setIx, ex_setF, ex_app, ex_ite, ex_for, ex_ret, ex_raise, ex_try, ex_pass, cl_slot, cl_res, c_nil, c_cons, wp_mk, wp_nil, wp_cons, ov_mk, bk_nil, bk_cons, cal_ok, cal_bad, gd0, gd1, pt_loc, pt_res, set_lst, bt_var, bt_tup, bts_nil, bts_cons, cm_int, cm_lt, cm_gt, bi_add, bi_sub, bi_mod, bi_fdiv, bi_mul, bi_lst, ad_lst, ix_lst, ix_tup, pr_len, pr_lenT, pr_int, pr_scr, pr_max, it_rng, it_lst, it_tup, it_scr, it_zip, it_zipK,
  v_var, v_cst, v_glob, v_tup, v_lst, v_dct0, v_dctOver, v_bin, v_addL, v_neg, v_not_, v_cmp, v_has, v_isN, v_isnN, v_chain, v_and_, v_or_, v_ife, v_ix, v_sl, v_get, v_fld, v_xfld, v_xis, v_prop, v_call, v_new, v_oeq, v_meth, v_p1, v_p2, v_isi, v_place, v_pop, v_popK, v_lc,
  Ik.two, List.getElem?_cons_zero, List.getElem?_cons_succ, List.set_cons_zero, List.set_cons_succ, List.length_cons, List.length_nil, List.map_cons, List.map_nil, List.cons_append, List.nil_append, Option.map_some, Option.bind_some, Option.map_none, Option.bind_none, eq_self, lm0, lm1, lm2, lm3, lm4, lm5, lm6, lm7, lm8, lm9, lm10, lm11, lm12, lm13, lm14, lm15, lm16, lm17, lm18, lm19, lm20, Nat.reduceAdd, Nat.zero_add, Nat.reduceSub, true_and, and_true, Int.reduceLT, Int.reduceLE, Int.reduceNeg, Int.reducePow, if_true, if_false, decide_true, decide_false, Bool.false_eq_true, at0, at1, at2, at3, at4, at5, at6, ixn0, ixn1, ixn2, fin_nx, fin_ret, fin_exc, run0, run1, run2, run3, run4, run5, rp1, rp2, rp3, rp4, rp11])
theorem mx_int {n : Nat} : (if (1 : Int) < (n : Int) then (n : Int) else 1) = ((max 1 n : Nat) : Int) := by
  by_cases h : (1 : Int) < (n : Int)
  · rw [if_pos h]
    have : 1 < n := by omega
    have : max 1 n = n := by omega
    rw [this]
  · rw [if_neg h]
    have : max 1 n = 1 := by omega
    rw [this]
    rfl
theorem pick_cell (cs : List Int) {ix : Int} (h : 0 ≤ ix) : ∃ c : Int, L2.atI (cs.map D.int ++ [.int 0]) (ix % ((max 1 cs.length : Nat) : Int)) = some (.int c) ∧ (1000000000000000000 ≤ c → 0 < cs.length) := by
  have hm : 0 ≤ ix % ((max 1 cs.length : Nat) : Int) := Int.emod_nonneg _ (by omega)
  have hl : ix % ((max 1 cs.length : Nat) : Int) < ((max 1 cs.length : Nat) : Int) := Int.emod_lt_of_pos _ (by omega)
  obtain ⟨k, hk⟩ := Int.eq_ofNat_of_zero_le hm
  have kl : k < max 1 cs.length := by
    have : ((k : Nat) : Int) < ((max 1 cs.length : Nat) : Int) := hk ▸ hl
    exact Int.ofNat_lt.mp this
  rw [hk]
  by_cases hn : cs.length = 0
  · have e : cs = [] := List.length_eq_zero_iff.mp hn
    subst e
    have k0 : k = 0 := by
      simp only [List.length_nil] at kl
      omega
    subst k0
    exact ⟨0, at_nat (k := 0) rfl, fun z => by omega⟩
  · have kl' : k < cs.length := by omega
    refine ⟨cs[k], at_nat ?_, fun _ => by omega⟩
    rw [List.getElem?_append_left (by simpa using kl'), List.getElem?_map, List.getElem?_eq_getElem kl']
    rfl
theorem mods {a b : Int} (h : 0 < b) : 0 ≤ a % b ∧ a % b < b := ⟨Int.emod_nonneg _ (by omega), Int.emod_lt_of_pos _ h⟩
theorem set_map {cs : List Int} {k : Nat} {v : Int} : (cs.map D.int).set k (.int v) = (cs.set k v).map D.int := by
  rw [List.map_set]
theorem next_ok (T : Tab) (cs : List Int) (st ix cap : Int) (rest : List Cell) (h1 : 1 ≤ cap) (h2 : cap < 1073741824) (h3 : cs.length < lim) (h4 : 0 ≤ ix) :
    ∃ v cs' st' ix', 0 ≤ v ∧ v < cap ∧ cs'.length = cs.length ∧ 0 ≤ ix' ∧ runCode T cNext [.res 1, .int cap] (Hs cs st ix rest) = .ok (.fz (.int v)) (Hs cs' st' ix' rest) := by
  unfold cNext Hs
  obtain ⟨c, hc, hc2⟩ := pick_cell cs h4
  have l0 : (cs.map D.int).length + 1 ≤ lim := by
    rw [List.length_map]
    exact h3
  have lm : ((cs.map D.int).length : Int) = (cs.length : Int) := by rw [List.length_map]
  have p0 : 0 < cap := by omega
  walk_at "go"
  simp only [if_pos l0, lm, mx_int]
  walk_at "go"
  have m1 : 0 < ((max 1 cs.length : Nat) : Int) := by omega
  simp only [lm, mx_int, if_pos m1]
  walk_at "go"
  simp only [hc]
  walk_at "go"
  by_cases hb : 1000000000000000000 ≤ c
  · have n0 := hc2 hb
    have n1 : 0 < (cs.length : Int) := by omega
    simp only [decide_eq_true hb]
    walk_at "go"
    obtain ⟨k, hk⟩ := Int.eq_ofNat_of_zero_le (mods (a := ix) n1).1
    have kl : k < cs.length := by
      have := (mods (a := ix) n1).2
      rw [hk] at this
      exact Int.ofNat_lt.mp this
    have hx : L2.ixN (cs.map D.int).length (ix % (cs.length : Int)) = some k := by
      rw [hk, List.length_map]
      exact ixn_nat kl
    simp only [if_pos (And.intro p0 h2)]
    walk_at "go"
    simp only [lm, if_pos n1]
    walk_at "go"
    simp only [hx]
    walk_at "go"
    simp only [if_pos p0]
    walk_at "go"
    exact ⟨c % cap, cs.set k (c / cap), st, ix, (mods p0).1, (mods p0).2, by rw [List.length_set], h4, by rw [set_map]⟩
  · simp only [decide_eq_false hb]
    walk_at "go"
    have q1 : (0 : Int) < 2147483647 := by decide
    have q2 : (0 : Int) < 7 ∧ (7 : Int) < 1073741824 := by decide
    try simp only [if_pos q1, if_pos q2, if_pos p0]
    walk_at "go"
    try simp only [if_pos q1, if_pos q2, if_pos p0]
    walk_at "go"
    try simp only [if_pos q1, if_pos q2, if_pos p0]
    walk_at "go"
    exact ⟨_, cs, _, _, (mods p0).1, (mods p0).2, rfl, by omega, rfl⟩
end Pm
namespace Pm
open PySem (Str PyData)
local macro_rules | `(tactic| walk_at "go") => `(tactic| try simp only [or_true, true_or, bind_ok, bind_exc, bind_bad, rf_none, rf_some, d_fz, d_lst, d_dct, lk_res, lk_lst, lk_tup, lk_dct, lk_kdc, lk_scr, lk_int, lk_str, lk_bl, lk_slot, look_l, look_d, con_l, con_d, cd_l, cd_d, of_some, of_none, so_var, l_var, so_cst, m_cst, l_cst, so_glob, m_glob, l_glob, so_star, m_star, so_tup, m_tup, l_tup, so_lst, m_lst, l_lst, so_dct0, m_dct0, l_dct0, so_dctOver, m_dctOver, l_dctOver, so_bin, m_bin, l_bin, so_addL, m_addL, l_addL, so_neg, m_neg, l_neg, so_not_, m_not_, l_not_, so_cmp, m_cmp, l_cmp, so_has, m_has, l_has, so_isN, m_isN, l_isN, so_isnN, m_isnN, l_isnN, so_chain, m_chain, l_chain, so_and_, m_and_, l_and_, so_or_, m_or_, l_or_, so_ife, m_ife, l_ife, so_ix, m_ix, l_ix, so_sl, m_sl, l_sl, so_get, m_get, l_get, so_fld, m_fld, l_fld, so_xfld, m_xfld, l_xfld, so_xis, m_xis, l_xis, so_prop, m_prop, l_prop, so_call, m_call, l_call, so_new, m_new, l_new, so_oeq, m_oeq, l_oeq, so_meth, m_meth, l_meth, so_p1, m_p1, l_p1, so_p2, m_p2, l_p2, so_isi, m_isi, l_isi, so_place, m_place, l_place, so_pop, m_pop, l_pop, so_popK, m_popK, l_popK, so_lc, m_lc, l_lc, so_dc, m_dc, l_dc, at_ok, at_exc, at_bad, get_ok, evL_nil, evO_none, evO_some, evT_none, evT_some, evR_eq, evI_eq, evM_var, evS_nil, evS_cons, exL_nil, exL_cons, ex_expr, ex_asg, ex_asgT, ex_par, ex_setIx, ex_setF, ex_app, ex_ite, ex_for, ex_ret, ex_raise, ex_try, ex_pass, cl_slot, cl_res, c_nil, c_cons, wp_mk, wp_nil, wp_cons, ov_mk, bk_nil, bk_cons, cal_ok, cal_bad, gd0, gd1, pt_loc, pt_res, set_lst, bt_var, bt_tup, bts_nil, bts_cons, cm_int, cm_lt, cm_gt, bi_add, bi_sub, bi_mod, bi_fdiv, bi_mul, bi_lst, ad_lst, ix_lst, ix_tup, pr_len, pr_lenT, pr_int, pr_scr, pr_max, it_rng, it_lst, it_tup, it_scr, it_zip, it_zipK,
  v_var, v_cst, v_glob, v_tup, v_lst, v_dct0, v_dctOver, v_bin, v_addL, v_neg, v_not_, v_cmp, v_has, v_isN, v_isnN, v_chain, v_and_, v_or_, v_ife, v_ix, v_sl, v_get, v_fld, v_xfld, v_xis, v_prop, v_call, v_new, v_oeq, v_meth, v_p1, v_p2, v_isi, v_place, v_pop, v_popK, v_lc,
  Ik.two, List.getElem?_cons_zero, List.getElem?_cons_succ, List.set_cons_zero, List.set_cons_succ, List.length_cons, List.length_nil, List.map_cons, List.map_nil, List.cons_append, List.nil_append, Option.map_some, Option.bind_some, Option.map_none, Option.bind_none, eq_self, lm0, lm1, lm2, lm3, lm4, lm5, lm6, lm7, lm8, lm9, lm10, lm11, lm12, lm13, lm14, lm15, lm16, lm17, lm18, lm19, lm20, Nat.reduceAdd, Nat.zero_add, Nat.reduceSub, true_and, and_true, Int.reduceLT, Int.reduceLE, Int.reduceNeg, Int.reducePow, if_true, if_false, decide_true, decide_false, Bool.false_eq_true, at0, at1, at2, at3, at4, at5, at6, ixn0, ixn1, ixn2, fin_nx, fin_ret, fin_exc, run0, run1, run2, run3, run4, run5, rp1, rp2, rp3, rp4, rp11])
def Hg (rest res : List Cell) : Prop := ∃ cs st ix, res = Hs cs st ix rest ∧ cs.length < lim ∧ 0 ≤ ix
def NextF (f : FS) : Prop := ∀ rest res cap, Hg rest res → 1 ≤ cap → cap < 1073741824 → ∃ v res', Hg rest res' ∧ 0 ≤ v ∧ v < cap ∧ f [.res 1, .int cap] res = .ok (.fz (.int v)) res'
theorem next_f (T : Tab) : NextF (runCode T cNext) := by
  rintro rest res cap ⟨cs, st, ix, rfl, h3, h4⟩ h1 h2
  obtain ⟨v, cs', st', ix', a, b, c, d, e⟩ := next_ok T cs st ix cap rest h1 h2 h3 h4
  exact ⟨v, _, ⟨cs', st', ix', rfl, by rw [c]; exact h3, d⟩, a, b, e⟩
def cPick (nx : Nat) : Code := ⟨2, 2, [.ret (.ix (.var 1) (.call nx [.var 0, .p1 .len (.var 1)]))]⟩
def PickF (f : FS) : Prop := ∀ rest res l, Hg rest res → 0 < l.length → l.length < 1073741824 → ∃ d res', Hg rest res' ∧ d ∈ l ∧ f [.res 1, .lst l] res = .ok (.fz d) res'
theorem pick_f {T : Tab} {nx : Nat} (hn : NextF (T.fn nx)) : PickF (runCode T (cPick nx)) := by
  intro rest res l hg h1 h2
  obtain ⟨v, res', hg', v0, v1, e⟩ := hn rest res l.length hg (by omega) (by omega)
  obtain ⟨k, rfl⟩ := Int.eq_ofNat_of_zero_le v0
  have kl : k < l.length := Int.ofNat_lt.mp v1
  refine ⟨l[k], res', hg', List.getElem_mem kl, ?_⟩
  unfold cPick
  walk_at "go"
  simp only [e]
  walk_at "go"
  have ea : L2.atI l (k : Int) = some l[k] := at_nat (List.getElem?_eq_getElem kl)
  simp only [ea]
  walk_at "go"
def cMix : Code := ⟨4, 2, [.asg (.var 2) (.var 1), .forI (.var 3) .seq (.var 0) (.cst .non) [.asg (.var 2) (.bin .mod (.p1 .int (.bin .add (.bin .add (.bin .mul (.var 2) (.cst (.int 48271))) (.bin .mod (.p1 .int (.var 3)) (.cst (.int 2147483629)))) (.cst (.int 1)))) (.cst (.int 2147483647)))], .ret (.lst [.var 2, .place (.p1 .list (.var 0)), .cst (.int 0)])]⟩
theorem mix_loop (T : Tab) {a b : Option Sl} : ∀ (l : List Int) (st : Int) (x : Option Sl), ∃ st' x', forGo (.var 3) (fun s => exL T [.asg (.var 2) (.bin .mod (.p1 .int (.bin .add (.bin .add (.bin .mul (.var 2) (.cst (.int 48271))) (.bin .mod (.p1 .int (.var 3)) (.cst (.int 2147483629)))) (.cst (.int 1)))) (.cst (.int 2147483647)))] s) (l.map D.int) (S.mk [a, b, some (.fz (.int st)), x] []) = .ok .nx (S.mk [a, b, some (.fz (.int st')), x'] [])
  | [], st, x => ⟨st, x, rfl⟩
  | n :: l, st, x => by
    obtain ⟨st', x', e⟩ := mix_loop T (a := a) (b := b) l ((st * 48271 + n % 2147483629 + 1) % 2147483647) (some (.fz (.int n)))
    refine ⟨st', x', ?_⟩
    rw [← e, List.map_cons, for_cons]
    have q1 : (0 : Int) < 2147483647 := by decide
    have q2 : (0 : Int) < 2147483629 := by decide
    walk_at "go"
    try simp only [if_pos q1, if_pos q2]
    walk_at "go"
    try simp only [if_pos q1, if_pos q2]
    walk_at "go"
theorem mix_ok (T : Tab) (ns : List Int) (seed : Int) : ∃ st, runCode T cMix [.scr ns, .int seed] [] = .ok (.ow (.lst [.int st, .res 0, .int 0])) [.lst (ns.map D.int)] := by
  obtain ⟨st, x, e⟩ := mix_loop T (a := some (.fz (.scr ns))) (b := some (.fz (.int seed))) ns seed none
  refine ⟨st, ?_⟩
  unfold cMix
  walk_at "go"
  simp only [e]
  walk_at "go"
def sTop : Str := ⟨#[116,111,112]⟩
def sMeasure : Str := ⟨#[109,101,97,115,117,114,101]⟩
def sCut : Str := ⟨#[99,117,116]⟩
def sLeast : Str := ⟨#[108,101,97,115,116]⟩
def sAges : Str := ⟨#[97,103,101,115]⟩
def sStruck : Str := ⟨#[115,116,114,117,99,107]⟩
def sKeeping : Str := ⟨#[107,101,101,112,105,110,103]⟩
def wMean : D := .str ⟨#[109,101,97,110]⟩
def wBest : D := .str ⟨#[98,101,115,116]⟩
def wCount : D := .str ⟨#[99,111,117,110,116]⟩
def wExact : D := .str ⟨#[101,120,97,99,116]⟩
def wHalf : D := .str ⟨#[104,97,108,102]⟩
def wWhole : D := .str ⟨#[119,104,111,108,101]⟩
def wSame : D := .str ⟨#[115,97,109,101]⟩
def wLess : D := .str ⟨#[108,101,115,115]⟩
def wGone : D := .str ⟨#[103,111,110,101]⟩
def wStay : D := .str ⟨#[115,116,97,121]⟩
def wAnew : D := .str ⟨#[97,110,101,119]⟩
def wShown : D := .str ⟨#[115,104,111,119,110]⟩
def parts7 : List (Str × List D) := [(sTop, [.int 2, .int 3]), (sMeasure, [wMean, wBest, wCount]), (sCut, [wExact, wHalf, wWhole]), (sLeast, [.int 1, .int 2]), (sAges, [wSame, wLess]), (sStruck, [wGone, wStay]), (sKeeping, [wAnew, wShown])]
def partsD : List D := parts7.map fun p => .tup [.str p.1, .lst p.2]
def PartsF (f : FS) : Prop := ∀ res, f [] res = .ok (.ow (.lst partsD)) res
def cWords (pk pa nx : Nat) : Code := ⟨4, 1, [.asg (.var 1) (.lc [2, 3] (.call pk [.var 0, .var 3]) (.tup [.var 2, .var 3]) .seq (.call pa []) (.cst .non) none), .ite (.cmp .eq (.call nx [.var 0, .cst (.int 2)]) (.cst (.int 0))) [.setIx (.var 1) (.cst (.int 1)) wMeanE] [], .ret (.var 1)]⟩
where wMeanE : E := .cst (.str ⟨#[109,101,97,110]⟩)
def Rule7 (ws : List D) : Prop := ∃ a b c d e f g, ws = [a, b, c, d, e, f, g] ∧ a ∈ [D.int 2, .int 3] ∧ b ∈ [wMean, wBest, wCount] ∧ c ∈ [wExact, wHalf, wWhole] ∧ d ∈ [D.int 1, .int 2] ∧ e ∈ [wSame, wLess] ∧ f ∈ [wGone, wStay] ∧ g ∈ [wAnew, wShown]
def WordsF (f : FS) : Prop := ∀ rest res, Hg rest res → ∃ ws res', Hg rest res' ∧ Rule7 ws ∧ f [.res 1] res = .ok (.ow (.lst ws)) res'
theorem eq_int {i j : Int} : cmpD .eq (.int i) (.int j) = some (i == j) := by
  show (eqD (.int i) (.int j)) = _
  rfl
theorem words_f {T : Tab} {pk pa nx : Nat} (hp : PickF (T.fn pk)) (ha : PartsF (T.fn pa)) (hn : NextF (T.fn nx)) : WordsF (runCode T (cWords pk pa nx)) := by
  intro rest r0 hg
  unfold cWords
  walk_at "go"
  simp only [ha r0]
  walk_at "go"
  unfold partsD parts7
  walk_at "go"
  obtain ⟨a, r1, hg, ma, e⟩ := hp rest r0 [.int 2, .int 3] hg (by decide) (by decide)
  simp only [e]
  walk_at "go"
  obtain ⟨b, r2, hg, mb, e⟩ := hp rest r1 [wMean, wBest, wCount] hg (by decide) (by decide)
  simp only [e]
  walk_at "go"
  obtain ⟨c, r3, hg, mc, e⟩ := hp rest r2 [wExact, wHalf, wWhole] hg (by decide) (by decide)
  simp only [e]
  walk_at "go"
  obtain ⟨d, r4, hg, md, e⟩ := hp rest r3 [.int 1, .int 2] hg (by decide) (by decide)
  simp only [e]
  walk_at "go"
  obtain ⟨f, r5, hg, mf, e⟩ := hp rest r4 [wSame, wLess] hg (by decide) (by decide)
  simp only [e]
  walk_at "go"
  obtain ⟨g, r6, hg, mg, e⟩ := hp rest r5 [wGone, wStay] hg (by decide) (by decide)
  simp only [e]
  walk_at "go"
  obtain ⟨h, r7, hg, mh, e⟩ := hp rest r6 [wAnew, wShown] hg (by decide) (by decide)
  simp only [e]
  walk_at "go"
  obtain ⟨v, r8, hg, v0, v1, e⟩ := hn rest r7 2 hg (by decide) (by decide)
  simp only [e]
  walk_at "go"
  simp only [eq_int]
  walk_at "go"
  by_cases hv : v = 0
  · subst hv
    simp only [beq_self_eq_true]
    walk_at "go"
    exact ⟨_, r8, hg, ⟨a, wMean, c, d, f, g, h, rfl, ma, by simp, mc, md, mf, mg, mh⟩, rfl⟩
  · simp only [beq_eq_false_iff_ne.mpr hv]
    walk_at "go"
    exact ⟨_, r8, hg, ⟨a, b, c, d, f, g, h, rfl, ma, mb, mc, md, mf, mg, mh⟩, rfl⟩
end Pm
namespace Pm
open PySem (Str PyData)
local macro_rules | `(tactic| walk_at "go") => `(tactic| try simp only [or_true, true_or, bind_ok, bind_exc, bind_bad, rf_none, rf_some, d_fz, d_lst, d_dct, lk_res, lk_lst, lk_tup, lk_dct, lk_kdc, lk_scr, lk_int, lk_str, lk_bl, lk_slot, look_l, look_d, con_l, con_d, cd_l, cd_d, of_some, of_none, so_var, l_var, so_cst, m_cst, l_cst, so_glob, m_glob, l_glob, so_star, m_star, so_tup, m_tup, l_tup, so_lst, m_lst, l_lst, so_dct0, m_dct0, l_dct0, so_dctOver, m_dctOver, l_dctOver, so_bin, m_bin, l_bin, so_addL, m_addL, l_addL, so_neg, m_neg, l_neg, so_not_, m_not_, l_not_, so_cmp, m_cmp, l_cmp, so_has, m_has, l_has, so_isN, m_isN, l_isN, so_isnN, m_isnN, l_isnN, so_chain, m_chain, l_chain, so_and_, m_and_, l_and_, so_or_, m_or_, l_or_, so_ife, m_ife, l_ife, so_ix, m_ix, l_ix, so_sl, m_sl, l_sl, so_get, m_get, l_get, so_fld, m_fld, l_fld, so_xfld, m_xfld, l_xfld, so_xis, m_xis, l_xis, so_prop, m_prop, l_prop, so_call, m_call, l_call, so_new, m_new, l_new, so_oeq, m_oeq, l_oeq, so_meth, m_meth, l_meth, so_p1, m_p1, l_p1, so_p2, m_p2, l_p2, so_isi, m_isi, l_isi, so_place, m_place, l_place, so_pop, m_pop, l_pop, so_popK, m_popK, l_popK, so_lc, m_lc, l_lc, so_dc, m_dc, l_dc, at_ok, at_exc, at_bad, get_ok, evL_nil, evO_none, evO_some, evT_none, evT_some, evR_eq, evI_eq, evM_var, evS_nil, evS_cons, exL_nil, exL_cons, ex_expr, ex_asg, ex_asgT, ex_par, ex_setIx, ex_setF, ex_app, ex_ite, ex_for, ex_ret, ex_raise, ex_try, ex_pass, cl_slot, cl_res, c_nil, c_cons, wp_mk, wp_nil, wp_cons, ov_mk, bk_nil, bk_cons, cal_ok, cal_bad, gd0, gd1, pt_loc, pt_res, set_lst, bt_var, bt_tup, bts_nil, bts_cons, cm_int, cm_lt, cm_gt, bi_add, bi_sub, bi_mod, bi_fdiv, bi_mul, bi_lst, ad_lst, ix_lst, ix_tup, pr_len, pr_lenT, pr_int, pr_scr, pr_max, it_rng, it_lst, it_tup, it_scr, it_zip, it_zipK,
  v_var, v_cst, v_glob, v_tup, v_lst, v_dct0, v_dctOver, v_bin, v_addL, v_neg, v_not_, v_cmp, v_has, v_isN, v_isnN, v_chain, v_and_, v_or_, v_ife, v_ix, v_sl, v_get, v_fld, v_xfld, v_xis, v_prop, v_call, v_new, v_oeq, v_meth, v_p1, v_p2, v_isi, v_place, v_pop, v_popK, v_lc,
  Ik.two, List.getElem?_cons_zero, List.getElem?_cons_succ, List.set_cons_zero, List.set_cons_succ, List.length_cons, List.length_nil, List.map_cons, List.map_nil, List.cons_append, List.nil_append, Option.map_some, Option.bind_some, Option.map_none, Option.bind_none, eq_self, lm0, lm1, lm2, lm3, lm4, lm5, lm6, lm7, lm8, lm9, lm10, lm11, lm12, lm13, lm14, lm15, lm16, lm17, lm18, lm19, lm20, Nat.reduceAdd, Nat.zero_add, Nat.reduceSub, true_and, and_true, Int.reduceLT, Int.reduceLE, Int.reduceNeg, Int.reducePow, if_true, if_false, decide_true, decide_false, Bool.false_eq_true, at0, at1, at2, at3, at4, at5, at6, ixn0, ixn1, ixn2, fin_nx, fin_ret, fin_exc, run0, run1, run2, run3, run4, run5, rp1, rp2, rp3, rp4, rp11])
def AllP {α : Type} (P : α → Prop) : List α → Prop
  | [] => True
  | a :: r => P a ∧ AllP P r
theorem AllP.nil {α : Type} {P : α → Prop} : AllP P [] := trivial
theorem AllP.cons {α : Type} {P : α → Prop} {a : α} {r : List α} (h : P a) (t : AllP P r) : AllP P (a :: r) := ⟨h, t⟩
theorem AllP.at {α : Type} {P : α → Prop} : ∀ {l : List α}, AllP P l → ∀ {a : α}, a ∈ l → P a
  | [], _, _, h => by cases h
  | _ :: _, h, _, m => by
    rcases List.mem_cons.mp m with rfl | m
    · exact h.1
    · exact h.2.at m
def U : List D := [wMean, wHalf, wAnew, wGone, .str ⟨#[]⟩, .str ⟨#[77,101,97,110]⟩, .non, .int 0, .int 4, .bl true, .str ⟨#[50]⟩, .lst [.str ⟨#[115,97,109,101]⟩], .int 1, .int 2, .int 3, wShown, wLess, wBest, wCount, wExact, wWhole, wSame, wStay]
def isB : D → Bool
  | .bl _ => true
  | _ => false
def inB (l : List D) (w : D) : Bool := l.any fun x => flatEq x w
def okW (l : List D) (w : D) : Bool := !isB w && inB l w
def IswF (f : FS) : Prop := AllP (fun p : Str × List D => AllP (fun w => ∀ res, f [.str p.1, w] res = .ok (.fz (.bl (okW p.2 w))) res) U) parts7
theorem u_nores : AllP (fun w => D.nores w = true) U := by
  unfold U
  repeat' (first | exact AllP.nil | apply AllP.cons | rfl)
theorem u_has : AllP (fun p : Str × List D => AllP (fun w => (∀ o, isiD w .bool o = some (isB w)) ∧ hasD w (.lst p.2) = some (inB p.2 w)) U) parts7 := by
  unfold U parts7
  repeat' (first | exact AllP.nil | apply AllP.cons | exact ⟨fun _ => rfl, by kernel_rfl⟩)
theorem u_ok : AllP (fun p : Str × List D => AllP (fun w => okW p.2 w = true → w ∈ p.2) U) parts7 := by
  unfold U parts7
  repeat' (first | exact AllP.nil | apply AllP.cons | (intro h; first | (exact absurd h (by decide)) | simp))
theorem u_sub : ∀ p ∈ parts7, ∀ w ∈ p.2, w ∈ U ∧ okW p.2 w = true := by
  unfold U parts7
  simp only [List.mem_cons, List.not_mem_nil, or_false]
  rintro p (rfl | rfl | rfl | rfl | rfl | rfl | rfl) <;> simp only [List.mem_cons, List.not_mem_nil, or_false]
  · rintro w (rfl | rfl) <;> exact ⟨by simp, by decide⟩
  · rintro w (rfl | rfl | rfl) <;> exact ⟨by simp, by decide⟩
  · rintro w (rfl | rfl | rfl) <;> exact ⟨by simp, by decide⟩
  · rintro w (rfl | rfl) <;> exact ⟨by simp, by decide⟩
  · rintro w (rfl | rfl) <;> exact ⟨by simp, by decide⟩
  · rintro w (rfl | rfl) <;> exact ⟨by simp, by decide⟩
  · rintro w (rfl | rfl) <;> exact ⟨by simp, by decide⟩
def firstBad : List (Str × List D) → List D → Option Str
  | (p, l) :: ps, w :: ws => if okW l w then firstBad ps ws else some p
  | _, _ => none
def partsK : List (D × D) := parts7.map fun p => (.str p.1, .tup p.2)
def wordsD (ws : List D) : List (D × D) := (parts7.map fun p => D.str p.1).zip ws
def ruleD (c fw : Nat) (ws : List D) : D := .obj c [(fw, .dct (wordsD ws))]
def cInit (gp isw xr fw : Nat) : Code := ⟨11, 8, [.asg (.var 8) (.tup [.var 1, .var 2, .var 3, .var 4, .var 5, .var 6, .var 7]), .forI (.tup [.var 9, .var 10]) .zipK (.glob gp) (.var 8) [.ite (.not_ (.call isw [.var 9, .var 10])) [.raise xr [.var 9]] []], .setF (.var 0) fw (.p2 .zipDict (.glob gp) (.var 8))]⟩
def U7 (ws : List D) : Prop := ∃ a b c d e f g, ws = [a, b, c, d, e, f, g] ∧ a ∈ U ∧ b ∈ U ∧ c ∈ U ∧ d ∈ U ∧ e ∈ U ∧ f ∈ U ∧ g ∈ U
theorem rule_u {ws : List D} (h : Rule7 ws) : U7 ws := by
  obtain ⟨a, b, c, d, e, f, g, rfl, ha, hb, hc, hd, he, hf, hg⟩ := h
  exact ⟨a, b, c, d, e, f, g, rfl, (u_sub (sTop, _) (by simp [parts7]) a ha).1, (u_sub (sMeasure, _) (by simp [parts7]) b hb).1, (u_sub (sCut, _) (by simp [parts7]) c hc).1, (u_sub (sLeast, _) (by simp [parts7]) d hd).1, (u_sub (sAges, _) (by simp [parts7]) e he).1, (u_sub (sStruck, _) (by simp [parts7]) f hf).1, (u_sub (sKeeping, _) (by simp [parts7]) g hg).1⟩
def InitF (xr fp c fw : Nat) (f : FS) : Prop := ∀ ws, U7 ws → f (.res 0 :: ws) [.ins c []] = (match firstBad parts7 ws with
  | some p => .exc xr [(fp, .str p)] [.ins c []]
  | none => .ok (.fz .non) [.ins c [(fw, .dct (wordsD ws))]])
theorem run8 {T : Tab} {n : Nat} {b : List St} {rs : List Cell} {x0 x1 x2 x3 x4 x5 x6 x7 : D} : runCode T ⟨n, 8, b⟩ [x0, x1, x2, x3, x4, x5, x6, x7] rs = fin (exL T b (S.mk (some (.fz x0) :: some (.fz x1) :: some (.fz x2) :: some (.fz x3) :: some (.fz x4) :: some (.fz x5) :: some (.fz x6) :: some (.fz x7) :: List.replicate (n - 8) none) rs)) := rfl
theorem zipL_cons {a b : D} {l m : List D} : zipL (a :: l) (b :: m) = .tup [a, b] :: zipL l m := rfl
theorem zipL_nil {l : List D} : zipL [] l = [] := rfl
theorem zipL_nil2 {l : List D} : zipL l [] = [] := by cases l <;> rfl
theorem init_f {T : Tab} {gp isw xr fw fp c : Nat} (hg : T.glob gp = some (.kdc partsK)) (hi : IswF (T.fn isw)) (hx : T.exf xr = [fp]) (hf : (T.flds c).contains fw = true) : InitF xr fp c fw (runCode T (cInit gp isw xr fw)) := by
  rintro ws ⟨a0, a1, a2, a3, a4, a5, a6, rfl, m0, m1, m2, m3, m4, m5, m6⟩
  have e0 := fun res => ((hi.at (a := (sTop, [.int 2, .int 3])) (by simp [parts7])).at m0) res
  have e1 := fun res => ((hi.at (a := (sMeasure, [wMean, wBest, wCount])) (by simp [parts7])).at m1) res
  have e2 := fun res => ((hi.at (a := (sCut, [wExact, wHalf, wWhole])) (by simp [parts7])).at m2) res
  have e3 := fun res => ((hi.at (a := (sLeast, [.int 1, .int 2])) (by simp [parts7])).at m3) res
  have e4 := fun res => ((hi.at (a := (sAges, [wSame, wLess])) (by simp [parts7])).at m4) res
  have e5 := fun res => ((hi.at (a := (sStruck, [wGone, wStay])) (by simp [parts7])).at m5) res
  have e6 := fun res => ((hi.at (a := (sKeeping, [wAnew, wShown])) (by simp [parts7])).at m6) res
  unfold cInit
  rw [run8]
  simp only [Nat.reduceSub, rp3]
  walk_at "go"
  simp only [hg]
  walk_at "go"
  unfold partsK parts7
  simp only [List.map_cons, List.map_nil, zipL_cons, zipL_nil, for_cons, firstBad]
  walk_at "go"
  simp only [e0]
  walk_at "go"
  cases q0 : okW [.int 2, .int 3] a0 with
  | false =>
    walk_at "go"
    simp only [Bool.not_false]
    walk_at "go"
    simp only [hx]
    walk_at "go"
    simp only [List.zip_cons_cons, List.zip_nil_right]
    walk_at "go"
  | true =>
    walk_at "go"
    simp only [Bool.not_true]
    walk_at "go"
    simp only [for_cons]
    walk_at "go"
    simp only [e1]
    walk_at "go"
    cases q1 : okW [wMean, wBest, wCount] a1 with
    | false =>
      walk_at "go"
      simp only [Bool.not_false]
      walk_at "go"
      simp only [hx]
      walk_at "go"
      simp only [List.zip_cons_cons, List.zip_nil_right]
      walk_at "go"
    | true =>
      walk_at "go"
      simp only [Bool.not_true]
      walk_at "go"
      simp only [for_cons]
      walk_at "go"
      simp only [e2]
      walk_at "go"
      cases q2 : okW [wExact, wHalf, wWhole] a2 with
      | false =>
        walk_at "go"
        simp only [Bool.not_false]
        walk_at "go"
        simp only [hx]
        walk_at "go"
        simp only [List.zip_cons_cons, List.zip_nil_right]
        walk_at "go"
      | true =>
        walk_at "go"
        simp only [Bool.not_true]
        walk_at "go"
        simp only [for_cons]
        walk_at "go"
        simp only [e3]
        walk_at "go"
        cases q3 : okW [.int 1, .int 2] a3 with
        | false =>
          walk_at "go"
          simp only [Bool.not_false]
          walk_at "go"
          simp only [hx]
          walk_at "go"
          simp only [List.zip_cons_cons, List.zip_nil_right]
          walk_at "go"
        | true =>
          walk_at "go"
          simp only [Bool.not_true]
          walk_at "go"
          simp only [for_cons]
          walk_at "go"
          simp only [e4]
          walk_at "go"
          cases q4 : okW [wSame, wLess] a4 with
          | false =>
            walk_at "go"
            simp only [Bool.not_false]
            walk_at "go"
            simp only [hx]
            walk_at "go"
            simp only [List.zip_cons_cons, List.zip_nil_right]
            walk_at "go"
          | true =>
            walk_at "go"
            simp only [Bool.not_true]
            walk_at "go"
            simp only [for_cons]
            walk_at "go"
            simp only [e5]
            walk_at "go"
            cases q5 : okW [wGone, wStay] a5 with
            | false =>
              walk_at "go"
              simp only [Bool.not_false]
              walk_at "go"
              simp only [hx]
              walk_at "go"
              simp only [List.zip_cons_cons, List.zip_nil_right]
              walk_at "go"
            | true =>
              walk_at "go"
              simp only [Bool.not_true]
              walk_at "go"
              simp only [for_cons]
              walk_at "go"
              simp only [e6]
              walk_at "go"
              cases q6 : okW [wAnew, wShown] a6 with
              | false =>
                walk_at "go"
                simp only [Bool.not_false]
                walk_at "go"
                simp only [hx]
                walk_at "go"
                simp only [List.zip_cons_cons, List.zip_nil_right]
                walk_at "go"
              | true =>
                walk_at "go"
                simp only [Bool.not_true]
                walk_at "go"
                simp only [for_nil]
                walk_at "go"
                simp only [hg]
                walk_at "go"
                have hz : prim2 .zipDict (.kdc partsK) (.tup [a0, a1, a2, a3, a4, a5, a6]) = some (.ow (.dct (wordsD [a0, a1, a2, a3, a4, a5, a6]))) := by kernel_rfl
                have hz2 : prim2 .zipDict (.kdc (partsK)) (.tup [a0, a1, a2, a3, a4, a5, a6]) = _ := hz
                simp only [hz]
                walk_at "go"
                simp only [hf, Nat.reduceLT, putF]
                walk_at "go"
end Pm
namespace Pm
open PySem (Str PyData)
local macro_rules | `(tactic| walk_at "go") => `(tactic| try simp only [or_true, true_or, bind_ok, bind_exc, bind_bad, rf_none, rf_some, d_fz, d_lst, d_dct, lk_res, lk_lst, lk_tup, lk_dct, lk_kdc, lk_scr, lk_int, lk_str, lk_bl, lk_slot, look_l, look_d, con_l, con_d, cd_l, cd_d, of_some, of_none, so_var, l_var, so_cst, m_cst, l_cst, so_glob, m_glob, l_glob, so_star, m_star, so_tup, m_tup, l_tup, so_lst, m_lst, l_lst, so_dct0, m_dct0, l_dct0, so_dctOver, m_dctOver, l_dctOver, so_bin, m_bin, l_bin, so_addL, m_addL, l_addL, so_neg, m_neg, l_neg, so_not_, m_not_, l_not_, so_cmp, m_cmp, l_cmp, so_has, m_has, l_has, so_isN, m_isN, l_isN, so_isnN, m_isnN, l_isnN, so_chain, m_chain, l_chain, so_and_, m_and_, l_and_, so_or_, m_or_, l_or_, so_ife, m_ife, l_ife, so_ix, m_ix, l_ix, so_sl, m_sl, l_sl, so_get, m_get, l_get, so_fld, m_fld, l_fld, so_xfld, m_xfld, l_xfld, so_xis, m_xis, l_xis, so_prop, m_prop, l_prop, so_call, m_call, l_call, so_new, m_new, l_new, so_oeq, m_oeq, l_oeq, so_meth, m_meth, l_meth, so_p1, m_p1, l_p1, so_p2, m_p2, l_p2, so_isi, m_isi, l_isi, so_place, m_place, l_place, so_pop, m_pop, l_pop, so_popK, m_popK, l_popK, so_lc, m_lc, l_lc, so_dc, m_dc, l_dc, at_ok, at_exc, at_bad, get_ok, evL_nil, evO_none, evO_some, evT_none, evT_some, evR_eq, evI_eq, evM_var, evS_nil, evS_cons, exL_nil, exL_cons, ex_expr, ex_asg, ex_asgT, ex_par, ex_setIx, ex_setF, ex_app, ex_ite, ex_for, ex_ret, ex_raise, ex_try, ex_pass, cl_slot, cl_res, c_nil, c_cons, wp_mk, wp_nil, wp_cons, ov_mk, bk_nil, bk_cons, cal_ok, cal_bad, gd0, gd1, pt_loc, pt_res, set_lst, bt_var, bt_tup, bts_nil, bts_cons, cm_int, cm_lt, cm_gt, bi_add, bi_sub, bi_mod, bi_fdiv, bi_mul, bi_lst, ad_lst, ix_lst, ix_tup, pr_len, pr_lenT, pr_int, pr_scr, pr_max, it_rng, it_lst, it_tup, it_scr, it_zip, it_zipK,
  v_var, v_cst, v_glob, v_tup, v_lst, v_dct0, v_dctOver, v_bin, v_addL, v_neg, v_not_, v_cmp, v_has, v_isN, v_isnN, v_chain, v_and_, v_or_, v_ife, v_ix, v_sl, v_get, v_fld, v_xfld, v_xis, v_prop, v_call, v_new, v_oeq, v_meth, v_p1, v_p2, v_isi, v_place, v_pop, v_popK, v_lc,
  Ik.two, List.getElem?_cons_zero, List.getElem?_cons_succ, List.set_cons_zero, List.set_cons_succ, List.length_cons, List.length_nil, List.map_cons, List.map_nil, List.cons_append, List.nil_append, Option.map_some, Option.bind_some, Option.map_none, Option.bind_none, eq_self, lm0, lm1, lm2, lm3, lm4, lm5, lm6, lm7, lm8, lm9, lm10, lm11, lm12, lm13, lm14, lm15, lm16, lm17, lm18, lm19, lm20, Nat.reduceAdd, Nat.zero_add, Nat.reduceSub, true_and, and_true, Int.reduceLT, Int.reduceLE, Int.reduceNeg, Int.reducePow, if_true, if_false, decide_true, decide_false, Bool.false_eq_true, at0, at1, at2, at3, at4, at5, at6, ixn0, ixn1, ixn2, fin_nx, fin_ret, fin_exc, run0, run1, run2, run3, run4, run5, rp1, rp2, rp3, rp4, rp11])
theorem dw0 {a0 a1 a2 a3 a4 a5 a6 : D} : ixD (.dct (wordsD [a0, a1, a2, a3, a4, a5, a6])) (.str sTop) = some a0 := by kernel_rfl
theorem dw1 {a0 a1 a2 a3 a4 a5 a6 : D} : ixD (.dct (wordsD [a0, a1, a2, a3, a4, a5, a6])) (.str sMeasure) = some a1 := by kernel_rfl
theorem dw2 {a0 a1 a2 a3 a4 a5 a6 : D} : ixD (.dct (wordsD [a0, a1, a2, a3, a4, a5, a6])) (.str sCut) = some a2 := by kernel_rfl
theorem dw3 {a0 a1 a2 a3 a4 a5 a6 : D} : ixD (.dct (wordsD [a0, a1, a2, a3, a4, a5, a6])) (.str sLeast) = some a3 := by kernel_rfl
theorem dw4 {a0 a1 a2 a3 a4 a5 a6 : D} : ixD (.dct (wordsD [a0, a1, a2, a3, a4, a5, a6])) (.str sAges) = some a4 := by kernel_rfl
theorem dw5 {a0 a1 a2 a3 a4 a5 a6 : D} : ixD (.dct (wordsD [a0, a1, a2, a3, a4, a5, a6])) (.str sStruck) = some a5 := by kernel_rfl
theorem dw6 {a0 a1 a2 a3 a4 a5 a6 : D} : ixD (.dct (wordsD [a0, a1, a2, a3, a4, a5, a6])) (.str sKeeping) = some a6 := by kernel_rfl
theorem u7_nores {ws : List D} (h : U7 ws) : noresL ws = true ∧ noresD (wordsD ws) = true := by
  obtain ⟨a0, a1, a2, a3, a4, a5, a6, rfl, m0, m1, m2, m3, m4, m5, m6⟩ := h
  have e0 := u_nores.at m0
  have e1 := u_nores.at m1
  have e2 := u_nores.at m2
  have e3 := u_nores.at m3
  have e4 := u_nores.at m4
  have e5 := u_nores.at m5
  have e6 := u_nores.at m6
  constructor
  · simp only [noresL, e0, e1, e2, e3, e4, e5, e6, Bool.and_self]
  · unfold wordsD parts7
    simp only [List.map_cons, List.map_nil, List.zip_cons_cons, List.zip_nil_right, noresD, e0, e1, e2, e3, e4, e5, e6, Bool.and_self]
theorem nv_exc {s : S} {e : Nat} {fs : List (Nat × D)} {r : List Cell} : newVal s (.exc e fs r) = if noresF fs then .exc e fs s else .bad := rfl
theorem nv_ok {s : S} {c : Nat} {fs : List (Nat × D)} : newVal s (.ok (.fz .non) [.ins c fs]) = if noresF fs then .ok (.fz (.obj c fs)) s else .bad := rfl
def MadeF (xr fp c fw : Nat) (f : FS) : Prop := ∀ ws, U7 ws → ∀ res, f [.lst ws] res = (match firstBad parts7 ws with
  | some p => .exc xr [(fp, .str p)] res
  | none => .ok (.fz (ruleD c fw ws)) res)
theorem new_f {T : Tab} {xr fp c fw ini : Nat} (hf : InitF xr fp c fw (T.fn ini)) {ws : List D} (hu : U7 ws) (s : S) : newVal s (T.fn ini (.res 0 :: ws) [Cell.ins c []]) = (match firstBad parts7 ws with
    | some p => .exc xr [(fp, .str p)] s
    | none => .ok (.fz (ruleD c fw ws)) s) := by
  obtain ⟨n1, n2⟩ := u7_nores hu
  rw [hf ws hu]
  cases firstBad parts7 ws with
  | some p =>
    show newVal s (.exc xr [(fp, .str p)] [.ins c []]) = _
    rw [nv_exc]
    rfl
  | none =>
    show newVal s (.ok (.fz .non) [.ins c [(fw, .dct (wordsD ws))]]) = _
    rw [nv_ok]
    have e : noresF [(fw, D.dct (wordsD ws))] = true := by
      simp only [noresF, D.nores, n2, Bool.and_self]
    rw [if_pos e]
    rfl
def cBuilt (c : Nat) : Code := ⟨1, 1, [.ret (.new c [.ix (.var 0) (.cst (.int 0)), .ix (.var 0) (.cst (.int 1)), .ix (.var 0) (.cst (.int 2)), .ix (.var 0) (.cst (.int 3)), .ix (.var 0) (.cst (.int 4)), .ix (.var 0) (.cst (.int 5)), .ix (.var 0) (.cst (.int 6))])]⟩
theorem made_f {T : Tab} {xr fp c fw ini : Nat} (hi : T.init c = some ini) (hv : T.val c = true) (hf : InitF xr fp c fw (T.fn ini)) : MadeF xr fp c fw (runCode T (cBuilt c)) := by
  intro ws hu res
  have hn := fun s => new_f hf hu s
  have n1 := (u7_nores hu).1
  obtain ⟨a0, a1, a2, a3, a4, a5, a6, rfl, _⟩ := hu
  unfold cBuilt
  walk_at "go"
  simp only [hi, hv, if_true, n1, hn]
  cases firstBad parts7 [a0, a1, a2, a3, a4, a5, a6] <;> walk_at "go"
def cRuleOf (c : Nat) : Code := ⟨1, 1, [.ret (.new c [.ix (.var 0) (.cst (.str sTop)), .ix (.var 0) (.cst (.str sMeasure)), .ix (.var 0) (.cst (.str sCut)), .ix (.var 0) (.cst (.str sLeast)), .ix (.var 0) (.cst (.str sAges)), .ix (.var 0) (.cst (.str sStruck)), .ix (.var 0) (.cst (.str sKeeping))])]⟩
theorem of_f {T : Tab} {xr fp c fw ini : Nat} (hi : T.init c = some ini) (hv : T.val c = true) (hf : InitF xr fp c fw (T.fn ini)) {ws : List D} (hu : U7 ws) (res : List Cell) : runCode T (cRuleOf c) [.dct (wordsD ws)] res = (match firstBad parts7 ws with
    | some p => .exc xr [(fp, .str p)] res
    | none => .ok (.fz (ruleD c fw ws)) res) := by
  have hn := fun s => new_f hf hu s
  have n1 := (u7_nores hu).1
  obtain ⟨a0, a1, a2, a3, a4, a5, a6, rfl, _⟩ := hu
  unfold cRuleOf
  walk_at "go"
  simp only [dw0, dw1, dw2, dw3, dw4, dw5, dw6]
  walk_at "go"
  simp only [dw0, dw1, dw2, dw3, dw4, dw5, dw6]
  walk_at "go"
  simp only [dw0, dw1, dw2, dw3, dw4, dw5, dw6]
  walk_at "go"
  simp only [dw0, dw1, dw2, dw3, dw4, dw5, dw6]
  walk_at "go"
  simp only [dw0, dw1, dw2, dw3, dw4, dw5, dw6]
  walk_at "go"
  simp only [dw0, dw1, dw2, dw3, dw4, dw5, dw6]
  walk_at "go"
  simp only [dw0, dw1, dw2, dw3, dw4, dw5, dw6]
  walk_at "go"
  simp only [hi, hv, if_true, n1, hn]
  cases firstBad parts7 [a0, a1, a2, a3, a4, a5, a6] <;> walk_at "go"
def cFault (pa : Nat) : Code := ⟨4, 1, [.forI (.tup [.tup [.var 1, .var 2], .var 3]) .zip (.call pa []) (.var 0) [.ite (.or_ (.isi (.var 3) .bool) (.has true (.var 3) (.var 2))) [.ret (.var 1)] []], .ret (.cst .non)]⟩
def optS : Option Str → D
  | some p => .str p
  | none => .non
def FaultF (f : FS) : Prop := ∀ ws, U7 ws → ∀ res, f [.lst ws] res = .ok (.fz (optS (firstBad parts7 ws))) res
theorem fault_f {T : Tab} {pa : Nat} (hp : PartsF (T.fn pa)) : FaultF (runCode T (cFault pa)) := by
  rintro ws ⟨a0, a1, a2, a3, a4, a5, a6, rfl, m0, m1, m2, m3, m4, m5, m6⟩ res
  obtain ⟨i0, h0⟩ := (u_has.at (a := (sTop, [.int 2, .int 3])) (by simp [parts7])).at m0
  obtain ⟨i1, h1⟩ := (u_has.at (a := (sMeasure, [wMean, wBest, wCount])) (by simp [parts7])).at m1
  obtain ⟨i2, h2⟩ := (u_has.at (a := (sCut, [wExact, wHalf, wWhole])) (by simp [parts7])).at m2
  obtain ⟨i3, h3⟩ := (u_has.at (a := (sLeast, [.int 1, .int 2])) (by simp [parts7])).at m3
  obtain ⟨i4, h4⟩ := (u_has.at (a := (sAges, [wSame, wLess])) (by simp [parts7])).at m4
  obtain ⟨i5, h5⟩ := (u_has.at (a := (sStruck, [wGone, wStay])) (by simp [parts7])).at m5
  obtain ⟨i6, h6⟩ := (u_has.at (a := (sKeeping, [wAnew, wShown])) (by simp [parts7])).at m6
  unfold cFault
  walk_at "go"
  simp only [hp res]
  walk_at "go"
  unfold partsD parts7
  simp only [List.map_cons, List.map_nil, zipL_cons, zipL_nil, for_cons, firstBad]
  walk_at "go"
  simp only [i0]
  walk_at "go"
  cases q0 : isB a0 with
  | true =>
    have ok : okW [.int 2, .int 3] a0 = false := by
      unfold okW
      rw [q0]
      rfl
    simp only [ok]
    walk_at "go"
    simp only [optS]
  | false =>
    walk_at "go"
    simp only [h0]
    walk_at "go"
    cases p0 : inB [.int 2, .int 3] a0 with
    | false =>
      have ok : okW [.int 2, .int 3] a0 = false := by
        unfold okW
        rw [q0, p0]
        rfl
      simp only [ok, Bool.false_bne]
      walk_at "go"
      simp only [optS]
    | true =>
      have ok : okW [.int 2, .int 3] a0 = true := by
        unfold okW
        rw [q0, p0]
        rfl
      simp only [ok, Bool.true_bne, Bool.not_true]
      walk_at "go"
      simp only [for_cons]
      walk_at "go"
      simp only [i1]
      walk_at "go"
      cases q1 : isB a1 with
      | true =>
        have ok : okW [wMean, wBest, wCount] a1 = false := by
          unfold okW
          rw [q1]
          rfl
        simp only [ok]
        walk_at "go"
        simp only [optS]
      | false =>
        walk_at "go"
        simp only [h1]
        walk_at "go"
        cases p1 : inB [wMean, wBest, wCount] a1 with
        | false =>
          have ok : okW [wMean, wBest, wCount] a1 = false := by
            unfold okW
            rw [q1, p1]
            rfl
          simp only [ok, Bool.false_bne]
          walk_at "go"
          simp only [optS]
        | true =>
          have ok : okW [wMean, wBest, wCount] a1 = true := by
            unfold okW
            rw [q1, p1]
            rfl
          simp only [ok, Bool.true_bne, Bool.not_true]
          walk_at "go"
          simp only [for_cons]
          walk_at "go"
          simp only [i2]
          walk_at "go"
          cases q2 : isB a2 with
          | true =>
            have ok : okW [wExact, wHalf, wWhole] a2 = false := by
              unfold okW
              rw [q2]
              rfl
            simp only [ok]
            walk_at "go"
            simp only [optS]
          | false =>
            walk_at "go"
            simp only [h2]
            walk_at "go"
            cases p2 : inB [wExact, wHalf, wWhole] a2 with
            | false =>
              have ok : okW [wExact, wHalf, wWhole] a2 = false := by
                unfold okW
                rw [q2, p2]
                rfl
              simp only [ok, Bool.false_bne]
              walk_at "go"
              simp only [optS]
            | true =>
              have ok : okW [wExact, wHalf, wWhole] a2 = true := by
                unfold okW
                rw [q2, p2]
                rfl
              simp only [ok, Bool.true_bne, Bool.not_true]
              walk_at "go"
              simp only [for_cons]
              walk_at "go"
              simp only [i3]
              walk_at "go"
              cases q3 : isB a3 with
              | true =>
                have ok : okW [.int 1, .int 2] a3 = false := by
                  unfold okW
                  rw [q3]
                  rfl
                simp only [ok]
                walk_at "go"
                simp only [optS]
              | false =>
                walk_at "go"
                simp only [h3]
                walk_at "go"
                cases p3 : inB [.int 1, .int 2] a3 with
                | false =>
                  have ok : okW [.int 1, .int 2] a3 = false := by
                    unfold okW
                    rw [q3, p3]
                    rfl
                  simp only [ok, Bool.false_bne]
                  walk_at "go"
                  simp only [optS]
                | true =>
                  have ok : okW [.int 1, .int 2] a3 = true := by
                    unfold okW
                    rw [q3, p3]
                    rfl
                  simp only [ok, Bool.true_bne, Bool.not_true]
                  walk_at "go"
                  simp only [for_cons]
                  walk_at "go"
                  simp only [i4]
                  walk_at "go"
                  cases q4 : isB a4 with
                  | true =>
                    have ok : okW [wSame, wLess] a4 = false := by
                      unfold okW
                      rw [q4]
                      rfl
                    simp only [ok]
                    walk_at "go"
                    simp only [optS]
                  | false =>
                    walk_at "go"
                    simp only [h4]
                    walk_at "go"
                    cases p4 : inB [wSame, wLess] a4 with
                    | false =>
                      have ok : okW [wSame, wLess] a4 = false := by
                        unfold okW
                        rw [q4, p4]
                        rfl
                      simp only [ok, Bool.false_bne]
                      walk_at "go"
                      simp only [optS]
                    | true =>
                      have ok : okW [wSame, wLess] a4 = true := by
                        unfold okW
                        rw [q4, p4]
                        rfl
                      simp only [ok, Bool.true_bne, Bool.not_true]
                      walk_at "go"
                      simp only [for_cons]
                      walk_at "go"
                      simp only [i5]
                      walk_at "go"
                      cases q5 : isB a5 with
                      | true =>
                        have ok : okW [wGone, wStay] a5 = false := by
                          unfold okW
                          rw [q5]
                          rfl
                        simp only [ok]
                        walk_at "go"
                        simp only [optS]
                      | false =>
                        walk_at "go"
                        simp only [h5]
                        walk_at "go"
                        cases p5 : inB [wGone, wStay] a5 with
                        | false =>
                          have ok : okW [wGone, wStay] a5 = false := by
                            unfold okW
                            rw [q5, p5]
                            rfl
                          simp only [ok, Bool.false_bne]
                          walk_at "go"
                          simp only [optS]
                        | true =>
                          have ok : okW [wGone, wStay] a5 = true := by
                            unfold okW
                            rw [q5, p5]
                            rfl
                          simp only [ok, Bool.true_bne, Bool.not_true]
                          walk_at "go"
                          simp only [for_cons]
                          walk_at "go"
                          simp only [i6]
                          walk_at "go"
                          cases q6 : isB a6 with
                          | true =>
                            have ok : okW [wAnew, wShown] a6 = false := by
                              unfold okW
                              rw [q6]
                              rfl
                            simp only [ok]
                            walk_at "go"
                            simp only [optS]
                          | false =>
                            walk_at "go"
                            simp only [h6]
                            walk_at "go"
                            cases p6 : inB [wAnew, wShown] a6 with
                            | false =>
                              have ok : okW [wAnew, wShown] a6 = false := by
                                unfold okW
                                rw [q6, p6]
                                rfl
                              simp only [ok, Bool.false_bne]
                              walk_at "go"
                              simp only [optS]
                            | true =>
                              have ok : okW [wAnew, wShown] a6 = true := by
                                unfold okW
                                rw [q6, p6]
                                rfl
                              simp only [ok, Bool.true_bne, Bool.not_true]
                              walk_at "go"
                              simp only [for_nil]
                              walk_at "go"
                              simp only [optS]
end Pm
namespace Pm
open PySem (Str PyData)
local macro_rules | `(tactic| walk_at "go") => `(tactic| try simp only [or_true, true_or, bind_ok, bind_exc, bind_bad, rf_none, rf_some, d_fz, d_lst, d_dct, lk_res, lk_lst, lk_tup, lk_dct, lk_kdc, lk_scr, lk_int, lk_str, lk_bl, lk_slot, look_l, look_d, con_l, con_d, cd_l, cd_d, of_some, of_none, so_var, l_var, so_cst, m_cst, l_cst, so_glob, m_glob, l_glob, so_star, m_star, so_tup, m_tup, l_tup, so_lst, m_lst, l_lst, so_dct0, m_dct0, l_dct0, so_dctOver, m_dctOver, l_dctOver, so_bin, m_bin, l_bin, so_addL, m_addL, l_addL, so_neg, m_neg, l_neg, so_not_, m_not_, l_not_, so_cmp, m_cmp, l_cmp, so_has, m_has, l_has, so_isN, m_isN, l_isN, so_isnN, m_isnN, l_isnN, so_chain, m_chain, l_chain, so_and_, m_and_, l_and_, so_or_, m_or_, l_or_, so_ife, m_ife, l_ife, so_ix, m_ix, l_ix, so_sl, m_sl, l_sl, so_get, m_get, l_get, so_fld, m_fld, l_fld, so_xfld, m_xfld, l_xfld, so_xis, m_xis, l_xis, so_prop, m_prop, l_prop, so_call, m_call, l_call, so_new, m_new, l_new, so_oeq, m_oeq, l_oeq, so_meth, m_meth, l_meth, so_p1, m_p1, l_p1, so_p2, m_p2, l_p2, so_isi, m_isi, l_isi, so_place, m_place, l_place, so_pop, m_pop, l_pop, so_popK, m_popK, l_popK, so_lc, m_lc, l_lc, so_dc, m_dc, l_dc, at_ok, at_exc, at_bad, get_ok, evL_nil, evO_none, evO_some, evT_none, evT_some, evR_eq, evI_eq, evM_var, evS_nil, evS_cons, exL_nil, exL_cons, ex_expr, ex_asg, ex_asgT, ex_par, ex_setIx, ex_setF, ex_app, ex_ite, ex_for, ex_ret, ex_raise, ex_try, ex_pass, cl_slot, cl_res, c_nil, c_cons, wp_mk, wp_nil, wp_cons, ov_mk, bk_nil, bk_cons, cal_ok, cal_bad, gd0, gd1, pt_loc, pt_res, set_lst, bt_var, bt_tup, bts_nil, bts_cons, cm_int, cm_lt, cm_gt, bi_add, bi_sub, bi_mod, bi_fdiv, bi_mul, bi_lst, ad_lst, ix_lst, ix_tup, pr_len, pr_lenT, pr_int, pr_scr, pr_max, it_rng, it_lst, it_tup, it_scr, it_zip, it_zipK,
  v_var, v_cst, v_glob, v_tup, v_lst, v_dct0, v_dctOver, v_bin, v_addL, v_neg, v_not_, v_cmp, v_has, v_isN, v_isnN, v_chain, v_and_, v_or_, v_ife, v_ix, v_sl, v_get, v_fld, v_xfld, v_xis, v_prop, v_call, v_new, v_oeq, v_meth, v_p1, v_p2, v_isi, v_place, v_pop, v_popK, v_lc,
  Ik.two, List.getElem?_cons_zero, List.getElem?_cons_succ, List.set_cons_zero, List.set_cons_succ, List.length_cons, List.length_nil, List.map_cons, List.map_nil, List.cons_append, List.nil_append, Option.map_some, Option.bind_some, Option.map_none, Option.bind_none, eq_self, lm0, lm1, lm2, lm3, lm4, lm5, lm6, lm7, lm8, lm9, lm10, lm11, lm12, lm13, lm14, lm15, lm16, lm17, lm18, lm19, lm20, Nat.reduceAdd, Nat.zero_add, Nat.reduceSub, true_and, and_true, Int.reduceLT, Int.reduceLE, Int.reduceNeg, Int.reducePow, if_true, if_false, decide_true, decide_false, Bool.false_eq_true, at0, at1, at2, at3, at4, at5, at6, ixn0, ixn1, ixn2, fin_nx, fin_ret, fin_exc, run0, run1, run2, run3, run4, run5, rp1, rp2, rp3, rp4, rp11])
theorem cls_obj {c : Nat} {fs : List (Nat × D)} {r : List Cell} : clsD (.obj c fs) r = some c := rfl
theorem fd_obj {fl : Nat → List Nat} {c f : Nat} {fs : List (Nat × D)} {r : List Cell} : fieldD fl (.obj c fs) f r = if (fl c).contains f then fs.lookup f else none := rfl
theorem lk_self {k : Nat} {v : D} {l : List (Nat × D)} : List.lookup k ((k, v) :: l) = some v := by simp [List.lookup]
theorem isi_obj {c : Nat} {fs : List (Nat × D)} {t : Ty} {o : Nat → Ty → Option Bool} : isiD (.obj c fs) t o = o c t := rfl
theorem isi_lst {l : List D} {t : Ty} {o : Nat → Ty → Option Bool} : isiD (.lst l) t o = some (match t with | .lst => true | .tupOrLst => true | _ => false) := rfl
theorem isi_tup {l : List D} {t : Ty} {o : Nat → Ty → Option Bool} : isiD (.tup l) t o = some (match t with | .tup => true | .tupOrLst => true | _ => false) := rfl
theorem isi_str {l : Str} {t : Ty} {o : Nat → Ty → Option Bool} : isiD (.str l) t o = some (match t with | .str => true | _ => false) := rfl
theorem isi_int {l : Int} {t : Ty} {o : Nat → Ty → Option Bool} : isiD (.int l) t o = some (match t with | .int => true | _ => false) := rfl
theorem isi_non {t : Ty} {o : Nat → Ty → Option Bool} : isiD .non t o = some false := rfl
theorem xh_as {T : Tab} {lc : List (Option Sl)} {rs : List Cell} {h i c : Nat} {b : List St} {r : List (Nat × Option Nat × List St)} {fs : List (Nat × D)} : exH T ((h, some i, b) :: r) c fs (S.mk lc rs) = if T.sub c h then ((exL T b (S.mk (lc.set i (some (.xc c fs))) rs)).calm.bind fun f s => if (s.loc.set i none).all Sl.noxc then .ok f (S.mk (s.loc.set i none) s.res) else .bad) else exH T r c fs (S.mk lc rs) := rfl
theorem nx_none : Sl.noxc none = true := rfl
theorem nx_fz {d : D} : Sl.noxc (some (.fz d)) = true := rfl
theorem nx_ow {c : Cell} : Sl.noxc (some (.ow c)) = true := rfl
def cGet (fw : Nat) (s : Str) : Code := ⟨1, 1, [.ret (.ix (.fld (.var 0) fw) (.cst (.str s)))]⟩
theorem get_f {T : Tab} {c fw : Nat} {s : Str} {ws : List D} {x : D} (hf : (T.flds c).contains fw = true) (h : ixD (.dct (wordsD ws)) (.str s) = some x) (res : List Cell) : runCode T (cGet fw s) [ruleD c fw ws] res = .ok (.fz x) res := by
  unfold cGet ruleD
  walk_at "go"
  simp only [fd_obj, hf, if_true, lk_self]
  walk_at "go"
  simp only [h]
  walk_at "go"
def cTold : Code := ⟨1, 1, [.ret (.lst [.prop (.var 0) 0, .prop (.var 0) 1, .prop (.var 0) 2, .prop (.var 0) 3, .prop (.var 0) 4, .prop (.var 0) 5, .prop (.var 0) 6])]⟩
def ToldF (c fw : Nat) (f : FS) : Prop := ∀ a0 a1 a2 a3 a4 a5 a6 res, f [ruleD c fw [a0, a1, a2, a3, a4, a5, a6]] res = .ok (.ow (.lst [a0, a1, a2, a3, a4, a5, a6])) res
theorem told_f {T : Tab} {c fw g0 g1 g2 g3 g4 g5 g6 : Nat} (p0 : T.prop c 0 = some g0) (p1 : T.prop c 1 = some g1) (p2 : T.prop c 2 = some g2) (p3 : T.prop c 3 = some g3) (p4 : T.prop c 4 = some g4) (p5 : T.prop c 5 = some g5) (p6 : T.prop c 6 = some g6) {T' : Tab} (hf : (T'.flds c).contains fw = true)
    (k0 : T.fn g0 = runCode T' (cGet fw sTop)) (k1 : T.fn g1 = runCode T' (cGet fw sMeasure)) (k2 : T.fn g2 = runCode T' (cGet fw sCut)) (k3 : T.fn g3 = runCode T' (cGet fw sLeast)) (k4 : T.fn g4 = runCode T' (cGet fw sAges)) (k5 : T.fn g5 = runCode T' (cGet fw sStruck)) (k6 : T.fn g6 = runCode T' (cGet fw sKeeping)) : ToldF c fw (runCode T cTold) := by
  intro a0 a1 a2 a3 a4 a5 a6 res
  have e0 := fun res => get_f hf (dw0 (a0 := a0) (a1 := a1) (a2 := a2) (a3 := a3) (a4 := a4) (a5 := a5) (a6 := a6)) res
  have e1 := fun res => get_f hf (dw1 (a0 := a0) (a1 := a1) (a2 := a2) (a3 := a3) (a4 := a4) (a5 := a5) (a6 := a6)) res
  have e2 := fun res => get_f hf (dw2 (a0 := a0) (a1 := a1) (a2 := a2) (a3 := a3) (a4 := a4) (a5 := a5) (a6 := a6)) res
  have e3 := fun res => get_f hf (dw3 (a0 := a0) (a1 := a1) (a2 := a2) (a3 := a3) (a4 := a4) (a5 := a5) (a6 := a6)) res
  have e4 := fun res => get_f hf (dw4 (a0 := a0) (a1 := a1) (a2 := a2) (a3 := a3) (a4 := a4) (a5 := a5) (a6 := a6)) res
  have e5 := fun res => get_f hf (dw5 (a0 := a0) (a1 := a1) (a2 := a2) (a3 := a3) (a4 := a4) (a5 := a5) (a6 := a6)) res
  have e6 := fun res => get_f hf (dw6 (a0 := a0) (a1 := a1) (a2 := a2) (a3 := a3) (a4 := a4) (a5 := a5) (a6 := a6)) res
  rw [← k0] at e0
  rw [← k1] at e1
  rw [← k2] at e2
  rw [← k3] at e3
  rw [← k4] at e4
  rw [← k5] at e5
  rw [← k6] at e6
  have hc : ∀ r, clsD (ruleD c fw [a0, a1, a2, a3, a4, a5, a6]) r = some c := fun _ => rfl
  unfold cTold
  walk_at "go"
  simp only [hc, Option.bind_some, p0, e0]
  walk_at "go"
  simp only [hc, Option.bind_some, p1, e1]
  walk_at "go"
  simp only [hc, Option.bind_some, p2, e2]
  walk_at "go"
  simp only [hc, Option.bind_some, p3, e3]
  walk_at "go"
  simp only [hc, Option.bind_some, p4, e4]
  walk_at "go"
  simp only [hc, Option.bind_some, p5, e5]
  walk_at "go"
  simp only [hc, Option.bind_some, p6, e6]
  walk_at "go"
def cEq (c fw : Nat) : Code := ⟨2, 2, [.ret (.and_ (.isi (.var 1) (.cls c)) (.cmp .eq (.fld (.var 0) fw) (.fld (.var 1) fw)))]⟩
theorem eq_lst {T : Tab} {c fw : Nat} {x : D} {l : List D} {res : List Cell} : runCode T (cEq c fw) [x, .lst l] res = .ok (.fz (.bl false)) res := by
  unfold cEq
  walk_at "go"
  simp only [isi_lst]
  walk_at "go"
theorem u_flat : ∀ p ∈ parts7, ∀ w ∈ p.2, w.flat = true ∧ flatEq w w = true := by
  unfold parts7
  simp only [List.mem_cons, List.not_mem_nil, or_false]
  rintro p (rfl | rfl | rfl | rfl | rfl | rfl | rfl) <;> simp only [List.mem_cons, List.not_mem_nil, or_false]
  · rintro w (rfl | rfl) <;> exact ⟨rfl, by decide⟩
  · rintro w (rfl | rfl | rfl) <;> exact ⟨rfl, by decide⟩
  · rintro w (rfl | rfl | rfl) <;> exact ⟨rfl, by decide⟩
  · rintro w (rfl | rfl) <;> exact ⟨rfl, by decide⟩
  · rintro w (rfl | rfl) <;> exact ⟨rfl, by decide⟩
  · rintro w (rfl | rfl) <;> exact ⟨rfl, by decide⟩
  · rintro w (rfl | rfl) <;> exact ⟨rfl, by decide⟩
theorem dg0 {a0 a1 a2 a3 a4 a5 a6 : D} : dget (wordsD [a0, a1, a2, a3, a4, a5, a6]) (.str sTop) = some a0 := by kernel_rfl
theorem dg1 {a0 a1 a2 a3 a4 a5 a6 : D} : dget (wordsD [a0, a1, a2, a3, a4, a5, a6]) (.str sMeasure) = some a1 := by kernel_rfl
theorem dg2 {a0 a1 a2 a3 a4 a5 a6 : D} : dget (wordsD [a0, a1, a2, a3, a4, a5, a6]) (.str sCut) = some a2 := by kernel_rfl
theorem dg3 {a0 a1 a2 a3 a4 a5 a6 : D} : dget (wordsD [a0, a1, a2, a3, a4, a5, a6]) (.str sLeast) = some a3 := by kernel_rfl
theorem dg4 {a0 a1 a2 a3 a4 a5 a6 : D} : dget (wordsD [a0, a1, a2, a3, a4, a5, a6]) (.str sAges) = some a4 := by kernel_rfl
theorem dg5 {a0 a1 a2 a3 a4 a5 a6 : D} : dget (wordsD [a0, a1, a2, a3, a4, a5, a6]) (.str sStruck) = some a5 := by kernel_rfl
theorem dg6 {a0 a1 a2 a3 a4 a5 a6 : D} : dget (wordsD [a0, a1, a2, a3, a4, a5, a6]) (.str sKeeping) = some a6 := by kernel_rfl
theorem wordsD_eq {a0 a1 a2 a3 a4 a5 a6 : D} : wordsD [a0, a1, a2, a3, a4, a5, a6] = [(.str sTop, a0), (.str sMeasure, a1), (.str sCut, a2), (.str sLeast, a3), (.str sAges, a4), (.str sStruck, a5), (.str sKeeping, a6)] := rfl
theorem eqF_words {a0 a1 a2 a3 a4 a5 a6 b0 b1 b2 b3 b4 b5 b6 : D} (f0 : a0.flat = true) (f1 : a1.flat = true) (f2 : a2.flat = true) (f3 : a3.flat = true) (f4 : a4.flat = true) (f5 : a5.flat = true) (f6 : a6.flat = true)
    (g0 : b0.flat = true) (g1 : b1.flat = true) (g2 : b2.flat = true) (g3 : b3.flat = true) (g4 : b4.flat = true) (g5 : b5.flat = true) (g6 : b6.flat = true) :
    eqF (wordsD [a0, a1, a2, a3, a4, a5, a6]) (wordsD [b0, b1, b2, b3, b4, b5, b6]) = some (flatEq a0 b0 && (flatEq a1 b1 && (flatEq a2 b2 && (flatEq a3 b3 && (flatEq a4 b4 && (flatEq a5 b5 && flatEq a6 b6)))))) := by
  have e0 := dg0 (a0 := a0) (a1 := a1) (a2 := a2) (a3 := a3) (a4 := a4) (a5 := a5) (a6 := a6)
  have e1 := dg1 (a0 := a0) (a1 := a1) (a2 := a2) (a3 := a3) (a4 := a4) (a5 := a5) (a6 := a6)
  have e2 := dg2 (a0 := a0) (a1 := a1) (a2 := a2) (a3 := a3) (a4 := a4) (a5 := a5) (a6 := a6)
  have e3 := dg3 (a0 := a0) (a1 := a1) (a2 := a2) (a3 := a3) (a4 := a4) (a5 := a5) (a6 := a6)
  have e4 := dg4 (a0 := a0) (a1 := a1) (a2 := a2) (a3 := a3) (a4 := a4) (a5 := a5) (a6 := a6)
  have e5 := dg5 (a0 := a0) (a1 := a1) (a2 := a2) (a3 := a3) (a4 := a4) (a5 := a5) (a6 := a6)
  have e6 := dg6 (a0 := a0) (a1 := a1) (a2 := a2) (a3 := a3) (a4 := a4) (a5 := a5) (a6 := a6)
  have h0 := dg0 (a0 := b0) (a1 := b1) (a2 := b2) (a3 := b3) (a4 := b4) (a5 := b5) (a6 := b6)
  have h1 := dg1 (a0 := b0) (a1 := b1) (a2 := b2) (a3 := b3) (a4 := b4) (a5 := b5) (a6 := b6)
  have h2 := dg2 (a0 := b0) (a1 := b1) (a2 := b2) (a3 := b3) (a4 := b4) (a5 := b5) (a6 := b6)
  have h3 := dg3 (a0 := b0) (a1 := b1) (a2 := b2) (a3 := b3) (a4 := b4) (a5 := b5) (a6 := b6)
  have h4 := dg4 (a0 := b0) (a1 := b1) (a2 := b2) (a3 := b3) (a4 := b4) (a5 := b5) (a6 := b6)
  have h5 := dg5 (a0 := b0) (a1 := b1) (a2 := b2) (a3 := b3) (a4 := b4) (a5 := b5) (a6 := b6)
  have h6 := dg6 (a0 := b0) (a1 := b1) (a2 := b2) (a3 := b3) (a4 := b4) (a5 := b5) (a6 := b6)
  rw [wordsD_eq] at e0 e1 e2 e3 e4 e5 e6 h0 h1 h2 h3 h4 h5 h6
  rw [wordsD_eq, wordsD_eq]
  unfold eqF
  have c1 : (([(.str sTop, a0), (.str sMeasure, a1), (.str sCut, a2), (.str sLeast, a3), (.str sAges, a4), (.str sStruck, a5), (.str sKeeping, a6)] : List (D × D)).all fun p => p.1.isKey && p.2.flat) = true := by
    simp only [List.all_cons, List.all_nil, D.isKey, f0, f1, f2, f3, f4, f5, f6, Bool.and_self]
  have c2 : (([(.str sTop, b0), (.str sMeasure, b1), (.str sCut, b2), (.str sLeast, b3), (.str sAges, b4), (.str sStruck, b5), (.str sKeeping, b6)] : List (D × D)).all fun p => p.1.isKey && p.2.flat) = true := by
    simp only [List.all_cons, List.all_nil, D.isKey, g0, g1, g2, g3, g4, g5, g6, Bool.and_self]
  rw [c1, c2]
  simp only [Bool.and_self, if_true, List.length_cons, List.length_nil, beq_self_eq_true, Bool.true_and, List.all_cons, List.all_nil, e0, e1, e2, e3, e4, e5, e6, h0, h1, h2, h3, h4, h5, h6, Bool.and_true]
theorem cm_dct {l m : List (D × D)} : cmpD .eq (.dct l) (.dct m) = eqF l m := rfl
theorem eq_rule {T : Tab} {c fw : Nat} {ws vs : List D} {b : Bool} {res : List Cell} (hf : (T.flds c).contains fw = true) (hs : T.isic c (.cls c) = some true) (h : eqF (wordsD ws) (wordsD vs) = some b) : runCode T (cEq c fw) [ruleD c fw ws, ruleD c fw vs] res = .ok (.fz (.bl b)) res := by
  unfold cEq ruleD
  walk_at "go"
  simp only [isi_obj, hs]
  walk_at "go"
  simp only [fd_obj, hf, if_true, lk_self]
  walk_at "go"
  simp only [fd_obj, hf, if_true, lk_self]
  walk_at "go"
  simp only [cm_dct, h]
  walk_at "go"
def cChg (gp xu ro fw : Nat) : Code := ⟨3, 3, [.ite (.or_ (.not_ (.isi (.var 1) .str)) (.has true (.var 1) (.glob gp))) [.raise xu [.var 1]] [], .ret (.call ro [.dctOver (.fld (.var 0) fw) (.var 1) (.var 2)])]⟩
theorem chg_x {T : Tab} {gp xu ro fw fp : Nat} {r v w : D} {res : List Cell} (hg : T.glob gp = some (.kdc partsK)) (hx : T.exf xu = [fp]) (hv : isiD v .str T.isic = some false ∨ (isiD v .str T.isic = some true ∧ hasD v (.kdc partsK) = some false)) : runCode T (cChg gp xu ro fw) [r, v, w] res = .exc xu [(fp, v)] res := by
  unfold cChg
  walk_at "go"
  rcases hv with h | ⟨h, h2⟩
  · simp only [h]
    walk_at "go"
    simp only [Bool.not_false]
    walk_at "go"
    simp only [hx]
    walk_at "go"
    simp only [List.zip_cons_cons, List.zip_nil_right]
  · simp only [h]
    walk_at "go"
    simp only [Bool.not_true]
    walk_at "go"
    simp only [hg]
    walk_at "go"
    simp only [h2]
    walk_at "go"
    simp only [Bool.false_bne]
    walk_at "go"
    simp only [hx]
    walk_at "go"
    simp only [List.zip_cons_cons, List.zip_nil_right]
theorem chg_p {T : Tab} {gp xu ro fw c : Nat} {ws vs : List D} {p : Str} {w : D} {res : List Cell} (hg : T.glob gp = some (.kdc partsK)) (hf : (T.flds c).contains fw = true) (hp : hasD (.str p) (.kdc partsK) = some true) (hw : dput (wordsD ws) (.str p) w = wordsD vs) (hl : (wordsD ws).length ≤ 7) :
    runCode T (cChg gp xu ro fw) [ruleD c fw ws, .str p, w] res = (match T.fn ro [.dct (wordsD vs)] res with
      | .ok a r => .ok a r
      | .exc c fs r => .exc c fs r
      | .bad => .bad) := by
  unfold cChg
  have hl2 : (wordsD ws).length < lim := Nat.lt_of_le_of_lt hl (by decide)
  have hfd : ∀ r, fieldD T.flds (ruleD c fw ws) fw r = some (.dct (wordsD ws)) := fun r => by
    unfold ruleD
    rw [fd_obj, hf, if_pos rfl, lk_self]
  walk_at "go"
  simp only [isi_str]
  walk_at "go"
  simp only [Bool.not_true]
  walk_at "go"
  simp only [hg]
  walk_at "go"
  simp only [hp]
  walk_at "go"
  simp only [bne_self_eq_false]
  walk_at "go"
  simp only [hfd]
  walk_at "go"
  simp only [if_pos hl2]
  walk_at "go"
  simp only [D.isKey]
  walk_at "go"
  simp only [hw]
  walk_at "go"
  cases T.fn ro [.dct (wordsD vs)] res with
  | ok a r => walk_at "go"
  | exc c fs r => walk_at "go"
  | bad => rfl
def cTried (bu m xr xu sh fp : Nat) : Code := ⟨6, 4, [.asg (.var 4) (.cst .non), .tryX [.asg (.var 4) (.ife (.isN (.var 0)) (.call bu [.var 1]) (.meth (.var 0) m [.var 2, .var 3]))] [(xr, some 5, [.asg (.var 4) (.ife (.xis 5 sh) (.tup [.cst (.str ⟨#[114,117,108,101]⟩), .xfld 5 fp]) (.cst .non))]), (xu, some 5, [.asg (.var 4) (.tup [.cst (.str ⟨#[112,97,114,116]⟩), .xfld 5 fp])])], .ret (.var 4)]⟩
def sRule : Str := ⟨#[114,117,108,101]⟩
def sPart : Str := ⟨#[112,97,114,116]⟩
structure TrK (T : Tab) (xr xu sh fp : Nat) : Prop where
  rr : T.sub xr xr = true
  rs : T.sub xr sh = true
  ur : T.sub xu xr = false
  uu : T.sub xu xu = true
  er : T.exf xr = [fp]
  eu : T.exf xu = [fp]
theorem ctf {fp : Nat} : ([fp] : List Nat).contains fp = true := by simp
theorem tried_non {T : Tab} {bu m xr xu sh fp : Nat} (K : TrK T xr xu sh fp) {ws : D} {res : List Cell} {o : Option Str} {r : D} (h : T.fn bu [ws] res = (match o with
    | some p => .exc xr [(fp, .str p)] res
    | none => .ok (.fz r) res)) : runCode T (cTried bu m xr xu sh fp) [.non, ws, .non, .non] res = .ok (.fz (match o with
    | some p => .tup [.str sRule, .str p]
    | none => r)) res := by
  unfold cTried
  walk_at "go"
  simp only [h]
  cases o with
  | none => walk_at "go"
  | some p =>
    walk_at "go"
    simp only [xh_as, K.rr, if_true]
    walk_at "go"
    simp only [K.rr, K.rs, if_true]
    walk_at "go"
    simp only [K.er, ctf, if_true, lk_self]
    walk_at "go"
    simp only [List.all_cons, List.all_nil, nx_none, nx_fz, Bool.and_self, if_true]
    walk_at "go"
    rfl
theorem tried_m {T : Tab} {bu m xr xu sh fp c ch : Nat} (K : TrK T xr xu sh fp) (hm : T.meth c m = some ch) {fs : List (Nat × D)} {l x w : D} {res : List Cell} {R0 : D} (h : (T.fn ch [.obj c fs, x, w] res = .ok (.fz R0) res) ∨ (∃ v, T.fn ch [.obj c fs, x, w] res = .exc xr [(fp, v)] res ∧ R0 = .tup [.str sRule, v]) ∨ ∃ v, T.fn ch [.obj c fs, x, w] res = .exc xu [(fp, v)] res ∧ R0 = .tup [.str sPart, v]) :
    runCode T (cTried bu m xr xu sh fp) [.obj c fs, l, x, w] res = .ok (.fz R0) res := by
  unfold cTried
  walk_at "go"
  simp only [cls_obj, Option.bind_some, hm]
  walk_at "go"
  rcases h with h | ⟨v, h, rfl⟩ | ⟨v, h, rfl⟩
  · simp only [h]
    walk_at "go"
  · simp only [h]
    walk_at "go"
    simp only [xh_as, K.rr, if_true]
    walk_at "go"
    simp only [K.rr, K.rs, if_true]
    walk_at "go"
    simp only [K.er, ctf, if_true, lk_self]
    walk_at "go"
    simp only [List.all_cons, List.all_nil, nx_none, nx_fz, Bool.and_self, if_true]
    walk_at "go"
    rfl
  · simp only [h]
    walk_at "go"
    simp only [xh_as, K.ur, K.uu]
    walk_at "go"
    simp only [K.eu, ctf, if_true, lk_self]
    walk_at "go"
    simp only [List.all_cons, List.all_nil, nx_none, nx_fz, Bool.and_self, if_true]
    walk_at "go"
    rfl
end Pm
namespace Pm
open PySem (Str PyData)
local macro_rules | `(tactic| walk_at "go") => `(tactic| try simp only [or_true, true_or, bind_ok, bind_exc, bind_bad, rf_none, rf_some, d_fz, d_lst, d_dct, lk_res, lk_lst, lk_tup, lk_dct, lk_kdc, lk_scr, lk_int, lk_str, lk_bl, lk_slot, look_l, look_d, con_l, con_d, cd_l, cd_d, of_some, of_none, so_var, l_var, so_cst, m_cst, l_cst, so_glob, m_glob, l_glob, so_star, m_star, so_tup, m_tup, l_tup, so_lst, m_lst, l_lst, so_dct0, m_dct0, l_dct0, so_dctOver, m_dctOver, l_dctOver, so_bin, m_bin, l_bin, so_addL, m_addL, l_addL, so_neg, m_neg, l_neg, so_not_, m_not_, l_not_, so_cmp, m_cmp, l_cmp, so_has, m_has, l_has, so_isN, m_isN, l_isN, so_isnN, m_isnN, l_isnN, so_chain, m_chain, l_chain, so_and_, m_and_, l_and_, so_or_, m_or_, l_or_, so_ife, m_ife, l_ife, so_ix, m_ix, l_ix, so_sl, m_sl, l_sl, so_get, m_get, l_get, so_fld, m_fld, l_fld, so_xfld, m_xfld, l_xfld, so_xis, m_xis, l_xis, so_prop, m_prop, l_prop, so_call, m_call, l_call, so_new, m_new, l_new, so_oeq, m_oeq, l_oeq, so_meth, m_meth, l_meth, so_p1, m_p1, l_p1, so_p2, m_p2, l_p2, so_isi, m_isi, l_isi, so_place, m_place, l_place, so_pop, m_pop, l_pop, so_popK, m_popK, l_popK, so_lc, m_lc, l_lc, so_dc, m_dc, l_dc, at_ok, at_exc, at_bad, get_ok, evL_nil, evO_none, evO_some, evT_none, evT_some, evR_eq, evI_eq, evM_var, evS_nil, evS_cons, exL_nil, exL_cons, ex_expr, ex_asg, ex_asgT, ex_par, ex_setIx, ex_setF, ex_app, ex_ite, ex_for, ex_ret, ex_raise, ex_try, ex_pass, cl_slot, cl_res, c_nil, c_cons, wp_mk, wp_nil, wp_cons, ov_mk, bk_nil, bk_cons, cal_ok, cal_bad, gd0, gd1, pt_loc, pt_res, set_lst, bt_var, bt_tup, bts_nil, bts_cons, cm_int, cm_lt, cm_gt, bi_add, bi_sub, bi_mod, bi_fdiv, bi_mul, bi_lst, ad_lst, ix_lst, ix_tup, pr_len, pr_lenT, pr_int, pr_scr, pr_max, it_rng, it_lst, it_tup, it_scr, it_zip, it_zipK,
  v_var, v_cst, v_glob, v_tup, v_lst, v_dct0, v_dctOver, v_bin, v_addL, v_neg, v_not_, v_cmp, v_has, v_isN, v_isnN, v_chain, v_and_, v_or_, v_ife, v_ix, v_sl, v_get, v_fld, v_xfld, v_xis, v_prop, v_call, v_new, v_oeq, v_meth, v_p1, v_p2, v_isi, v_place, v_pop, v_popK, v_lc,
  Ik.two, List.getElem?_cons_zero, List.getElem?_cons_succ, List.set_cons_zero, List.set_cons_succ, List.length_cons, List.length_nil, List.map_cons, List.map_nil, List.cons_append, List.nil_append, Option.map_some, Option.bind_some, Option.map_none, Option.bind_none, eq_self, lm0, lm1, lm2, lm3, lm4, lm5, lm6, lm7, lm8, lm9, lm10, lm11, lm12, lm13, lm14, lm15, lm16, lm17, lm18, lm19, lm20, Nat.reduceAdd, Nat.zero_add, Nat.reduceSub, true_and, and_true, Int.reduceLT, Int.reduceLE, Int.reduceNeg, Int.reducePow, if_true, if_false, decide_true, decide_false, Bool.false_eq_true, at0, at1, at2, at3, at4, at5, at6, ixn0, ixn1, ixn2, fin_nx, fin_ret, fin_exc, run0, run1, run2, run3, run4, run5, rp1, rp2, rp3, rp4, rp11])
def oddD : List D := [wMean, wHalf, wAnew, wGone, .str ⟨#[]⟩, .str ⟨#[77,101,97,110]⟩, .non, .int 0, .int 4, .bl true, .str ⟨#[50]⟩, .lst [.str ⟨#[115,97,109,101]⟩], .int 1, .int 2, .int 3, wShown, wLess]
def odd8 : List D := [.str ⟨#[]⟩, .str ⟨#[77,101,97,110]⟩, .non, .int 0, .int 4, .bl true, .str ⟨#[50]⟩, .lst [.str ⟨#[115,97,109,101]⟩]]
def noParts : List D := [.str ⟨#[84,111,112]⟩, .non, .int 5, .str ⟨#[]⟩, .lst [.str ⟨#[99,117,116]⟩], .str ⟨#[119,111,114,100,115]⟩]
theorem odd_u : ∀ w ∈ oddD, w ∈ U := by
  unfold oddD U
  simp only [List.mem_cons, List.not_mem_nil, or_false]
  rintro w (rfl | rfl | rfl | rfl | rfl | rfl | rfl | rfl | rfl | rfl | rfl | rfl | rfl | rfl | rfl | rfl | rfl) <;> simp
theorem odd8_odd : ∀ w ∈ odd8, w ∈ oddD := by
  unfold oddD odd8
  simp only [List.mem_cons, List.not_mem_nil, or_false]
  rintro w (rfl | rfl | rfl | rfl | rfl | rfl | rfl | rfl) <;> simp
theorem odd_sl : slD (.lst oddD) (some 4) (some 12) = some (.ow (.lst odd8)) := by kernel_rfl
def allRules : List (List D) := [D.int 2, .int 3].flatMap fun a => [wMean, wBest, wCount].flatMap fun b => [wExact, wHalf, wWhole].flatMap fun c => [D.int 1, .int 2].flatMap fun d => [wSame, wLess].flatMap fun e => [wGone, wStay].flatMap fun f => [wAnew, wShown].map fun g => [a, b, c, d, e, f, g]
theorem rule_all {ws : List D} (h : Rule7 ws) : ws ∈ allRules := by
  obtain ⟨a, b, c, d, e, f, g, rfl, ha, hb, hc, hd, he, hf, hg⟩ := h
  unfold allRules
  exact List.mem_flatMap.mpr ⟨a, ha, List.mem_flatMap.mpr ⟨b, hb, List.mem_flatMap.mpr ⟨c, hc, List.mem_flatMap.mpr ⟨d, hd, List.mem_flatMap.mpr ⟨e, he, List.mem_flatMap.mpr ⟨f, hf, List.mem_map.mpr ⟨g, hg, rfl⟩⟩⟩⟩⟩⟩⟩
def isF : Option Bool → Bool
  | some false => true
  | _ => false
theorem isF_ok {o : Option Bool} (h : isF o = true) : o = some false := by
  cases o with
  | none => cases h
  | some b => cases b with
    | false => rfl
    | true => cases h
theorem ne_rules : (allRules.all fun ws => isF (cmpD .ne (.lst ws) (.lst ws))) = true := by decide +kernel
theorem ne_rule {ws : List D} (h : Rule7 ws) : cmpD .ne (.lst ws) (.lst ws) = some false := isF_ok (List.all_eq_true.mp ne_rules ws (rule_all h))
def eqB : Option Bool → Bool → Bool
  | some a, b => a == b
  | _, _ => false
theorem eqB_ok {o : Option Bool} {b : Bool} (h : eqB o b = true) : o = some b := by
  cases o with
  | none => cases h
  | some a => rw [eq_of_beq (show (a == b) = true from h)]
theorem eq_pairs : (parts7.all fun p => p.2.all fun w => p.2.all fun a => eqB (cmpD .eq w a) (flatEq w a)) = true := by decide +kernel
theorem eq_pair {p : Str × List D} (hp : p ∈ parts7) {w a : D} (hw : w ∈ p.2) (ha : a ∈ p.2) : cmpD .eq w a = some (flatEq w a) := eqB_ok (List.all_eq_true.mp (List.all_eq_true.mp (List.all_eq_true.mp eq_pairs p hp) w hw) a ha)
theorem ne_names : (parts7.all fun p => isF (cmpD .ne (.tup [.str sRule, .str p.1]) (.tup [.str sRule, .str p.1]))) = true := by decide +kernel
theorem ne_name {p : Str × List D} (hp : p ∈ parts7) : cmpD .ne (.tup [.str sRule, .str p.1]) (.tup [.str sRule, .str p.1]) = some false := isF_ok (List.all_eq_true.mp ne_names p hp)
theorem ne_bb {b : Bool} : cmpD .ne (.bl b) (.bl b) = some false := by cases b <;> kernel_rfl
theorem bad_mem : ∀ {ps : List (Str × List D)} {ws : List D} {p : Str}, firstBad ps ws = some p → ∃ q ∈ ps, q.1 = p
  | [], ws, p, h => by cases ws <;> cases h
  | (q, l) :: ps, [], p, h => by cases h
  | (q, l) :: ps, w :: ws, p, h => by
    unfold firstBad at h
    split at h
    · obtain ⟨r, hr, e⟩ := bad_mem h
      exact ⟨r, List.mem_cons_of_mem _ hr, e⟩
    · cases h
      exact ⟨_, List.mem_cons_self, rfl⟩
theorem none_rule {ws : List D} (hu : U7 ws) (h : firstBad parts7 ws = none) : Rule7 ws := by
  obtain ⟨a0, a1, a2, a3, a4, a5, a6, rfl, m0, m1, m2, m3, m4, m5, m6⟩ := hu
  unfold parts7 at h
  simp only [firstBad] at h
  have z : ∀ {b : Bool} {x : Option Str} {s : Str}, (if b = true then x else some s) = none → b = true ∧ x = none := fun {b x s} h => by
    cases b with
    | true => exact ⟨rfl, by simpa using h⟩
    | false => cases h
  obtain ⟨h0, h⟩ := z h
  obtain ⟨h1, h⟩ := z h
  obtain ⟨h2, h⟩ := z h
  obtain ⟨h3, h⟩ := z h
  obtain ⟨h4, h⟩ := z h
  obtain ⟨h5, h⟩ := z h
  obtain ⟨h6, h⟩ := z h
  exact ⟨a0, a1, a2, a3, a4, a5, a6, rfl, (u_ok.at (a := (sTop, [.int 2, .int 3])) (by simp [parts7])).at m0 h0, (u_ok.at (a := (sMeasure, [wMean, wBest, wCount])) (by simp [parts7])).at m1 h1, (u_ok.at (a := (sCut, [wExact, wHalf, wWhole])) (by simp [parts7])).at m2 h2, (u_ok.at (a := (sLeast, [.int 1, .int 2])) (by simp [parts7])).at m3 h3, (u_ok.at (a := (sAges, [wSame, wLess])) (by simp [parts7])).at m4 h4, (u_ok.at (a := (sStruck, [wGone, wStay])) (by simp [parts7])).at m5 h5, (u_ok.at (a := (sKeeping, [wAnew, wShown])) (by simp [parts7])).at m6 h6⟩
theorem rule_ok {a0 a1 a2 a3 a4 a5 a6 : D} (h : Rule7 [a0, a1, a2, a3, a4, a5, a6]) : okW [.int 2, .int 3] a0 = true ∧ okW [wMean, wBest, wCount] a1 = true ∧ okW [wExact, wHalf, wWhole] a2 = true ∧ okW [.int 1, .int 2] a3 = true ∧ okW [wSame, wLess] a4 = true ∧ okW [wGone, wStay] a5 = true ∧ okW [wAnew, wShown] a6 = true := by
  obtain ⟨_, _, _, _, _, _, _, e, m0, m1, m2, m3, m4, m5, m6⟩ := h
  cases e
  exact ⟨(u_sub (sTop, _) (by simp [parts7]) _ m0).2, (u_sub (sMeasure, _) (by simp [parts7]) _ m1).2, (u_sub (sCut, _) (by simp [parts7]) _ m2).2, (u_sub (sLeast, _) (by simp [parts7]) _ m3).2, (u_sub (sAges, _) (by simp [parts7]) _ m4).2, (u_sub (sStruck, _) (by simp [parts7]) _ m5).2, (u_sub (sKeeping, _) (by simp [parts7]) _ m6).2⟩
theorem u7_set {ws : List D} (hu : U7 ws) {k : Nat} {w : D} (hk : k < 7) (hw : w ∈ U) : U7 (ws.set k w) := by
  obtain ⟨a0, a1, a2, a3, a4, a5, a6, rfl, m0, m1, m2, m3, m4, m5, m6⟩ := hu
  have e : k = 0 ∨ k = 1 ∨ k = 2 ∨ k = 3 ∨ k = 4 ∨ k = 5 ∨ k = 6 := by omega
  rcases e with rfl | rfl | rfl | rfl | rfl | rfl | rfl
  · exact ⟨w, a1, a2, a3, a4, a5, a6, rfl, hw, m1, m2, m3, m4, m5, m6⟩
  · exact ⟨a0, w, a2, a3, a4, a5, a6, rfl, m0, hw, m2, m3, m4, m5, m6⟩
  · exact ⟨a0, a1, w, a3, a4, a5, a6, rfl, m0, m1, hw, m3, m4, m5, m6⟩
  · exact ⟨a0, a1, a2, w, a4, a5, a6, rfl, m0, m1, m2, hw, m4, m5, m6⟩
  · exact ⟨a0, a1, a2, a3, w, a5, a6, rfl, m0, m1, m2, m3, hw, m5, m6⟩
  · exact ⟨a0, a1, a2, a3, a4, w, a6, rfl, m0, m1, m2, m3, m4, hw, m6⟩
  · exact ⟨a0, a1, a2, a3, a4, a5, w, rfl, m0, m1, m2, m3, m4, m5, hw⟩
theorem u7_len {ws : List D} (hu : U7 ws) : ws.length = 7 := by
  obtain ⟨a0, a1, a2, a3, a4, a5, a6, rfl, _⟩ := hu
  rfl
structure LawK (T : Tab) : Prop where
  mix : T.fn 1 = T.fn 1
  words : WordsF (T.fn 2)
  next : NextF (T.fn 3)
  pick : PickF (T.fn 4)
  parts : PartsF (T.fn 11)
  fault : FaultF (T.fn 6)
  built : MadeF 1 0 0 1 (T.fn 8)
  told : ToldF 0 1 (T.fn 10)
  tried0 : ∀ ws, U7 ws → ∀ res, T.fn 5 [.non, .lst ws, .non, .non] res = .ok (.fz (match firstBad parts7 ws with
    | some p => .tup [.str sRule, .str p]
    | none => ruleD 0 1 ws)) res
  triedP : ∀ (k : Nat) (p : Str × List D), parts7[k]? = some p → ∀ ws, U7 ws → ∀ w ∈ U, ∀ res, T.fn 5 [ruleD 0 1 ws, .non, .str p.1, w] res = .ok (.fz (match firstBad parts7 (ws.set k w) with
    | some p => .tup [.str sRule, .str p]
    | none => ruleD 0 1 (ws.set k w))) res
  triedX : ∀ v ∈ noParts, ∀ ws w res, T.fn 5 [ruleD 0 1 ws, .non, v, w] res = .ok (.fz (.tup [.str sPart, v])) res
  oeq : T.oeq 0 = some 7
  ini : T.init 0 = some 13
  eqL : ∀ x l res, T.fn 7 [x, .lst l] res = .ok (.fz (.bl false)) res
  eqR : ∀ ws vs b res, eqF (wordsD ws) (wordsD vs) = some b → T.fn 7 [ruleD 0 1 ws, ruleD 0 1 vs] res = .ok (.fz (.bl b)) res
  alikeL : ∀ ws, Rule7 ws → ∀ res, T.fn 9 [.lst ws, .lst ws] res = .ok (.fz (.bl true)) res
  alikeX : ∀ v ∈ noParts, ∀ res, T.fn 9 [.tup [.str sPart, v], .tup [.str sPart, v]] res = .ok (.fz (.bl true)) res
def chgB : List St := [.setIx (.var 4) (.call 3 [.var 1, .cst (.int 7)]) (.call 4 [.var 1, .var 2])]
def Odd (y : Option Sl) : Prop := y = some (.ow (.lst oddD)) ∨ y = some (.fz (.lst oddD))
theorem chg_loop {T : Tab} (K : LawK T) {x0 x6 x7 x8 x9 x10 x11 : Option Sl} {x3 : Option Sl} : ∀ (items ws : List D) (y x5 : Option Sl) (res : List Cell), U7 ws → Odd y → Hg [] res → ∃ ws' y' x5' res', U7 ws' ∧ Odd y' ∧ Hg [] res' ∧
    forGo (.var 5) (fun s => exL T chgB s) items (S.mk [x0, some (.fz (.res 1)), y, x3, some (.ow (.lst ws)), x5, x6, x7, x8, x9, x10, x11] res) = .ok .nx (S.mk [x0, some (.fz (.res 1)), y', x3, some (.ow (.lst ws')), x5', x6, x7, x8, x9, x10, x11] res')
  | [], ws, y, x5, res, hu, ho, hg => ⟨ws, y, x5, res, hu, ho, hg, rfl⟩
  | i :: items, ws, y, x5, res, hu, ho, hg => by
    obtain ⟨d, r1, hg1, md, e1⟩ := K.pick [] res oddD hg (by decide) (by decide)
    obtain ⟨v, r2, hg2, v0, v1, e2⟩ := K.next [] r1 7 hg1 (by decide) (by decide)
    obtain ⟨k, rfl⟩ := Int.eq_ofNat_of_zero_le v0
    have hk : k < 7 := by omega
    have hx : L2.ixN ws.length (k : Int) = some k := ixn_nat (by rw [u7_len hu]; exact hk)
    have hu2 := u7_set hu hk (odd_u d md)
    obtain ⟨ws', y', x5', r', hu', ho', hg', e⟩ := chg_loop K (x0 := x0) (x3 := x3) (x6 := x6) (x7 := x7) (x8 := x8) (x9 := x9) (x10 := x10) (x11 := x11) items (ws.set k d) (some (.fz (.lst oddD))) (some (.fz i)) r2 hu2 (.inr rfl) hg2
    refine ⟨ws', y', x5', r', hu', ho', hg', ?_⟩
    rw [← e, for_cons]
    rcases ho with rfl | rfl
    all_goals
      conv => lhs; unfold chgB
      walk_at "go"
      simp only [e1]
      walk_at "go"
      simp only [e2]
      walk_at "go"
      simp only [hx]
      walk_at "go"
      rfl
end Pm
namespace PmK03
open PySem PySem.Spec PyProof.Rows L2 RZ Pm
open PySem.W (Frag)
def c0 : Pm.Code := ⟨11, 1, [.asg (.var 1) (.place (.call 1 [.var 0, .cst (.int 3)])), .asg (.var 2) (.new 0 [.call 3 [.call 4 [.var 1]]]), .expr (.meth (.var 2) 0 [.cst (.str ⟨#[97,110,110]⟩), .cst (.str ⟨#[105,110,110]⟩), .cst (.int 1)]), .asg (.var 3) (.lst [.cst (.str ⟨#[]⟩), .cst (.str ⟨#[65,110,110]⟩), .cst (.str ⟨#[116,111,111,108,111,110,103,115]⟩), .cst (.str ⟨#[97,49]⟩), .cst .non, .cst (.int 5), .cst (.bl true), .lst [.cst (.str ⟨#[97,110,110]⟩)], .tup [.cst (.str ⟨#[97,110,110]⟩)], .cst (.str ⟨#[97,32,98]⟩), .cst (.str ⟨#[97,110,110,97,98,101,108,108]⟩)]), .forI (.var 4) .rng1 (.cst (.int 6)) (.cst .non) [.par [(5, .call 6 [.var 1, .var 3]), (6, .call 6 [.var 1, .var 3])], .forI (.var 7) .rng1 (.cst (.int 6)) (.cst .non) [.asg (.var 8) (.cmp .lt (.var 7) (.cst (.int 4))), .asg (.var 9) (.ife (.var 8) (.var 5) (.var 6)), .ite (.not_ (.call 7 [.call 8 [.var 2, .var 7, .var 5, .var 6, .cst (.int 9)], .lst [.var 9]])) [.ret (.cst (.bl false))] [], .ite (.and_ (.cmp .lt (.var 7) (.cst (.int 3))) (.not_ (.call 7 [.call 8 [.var 2, .var 7, .cst (.str ⟨#[97,110,110]⟩), .var 6, .cst .non], .lst [.var 6]]))) [.ret (.cst (.bl false))] []]], .ite (.cmp .ne (.lc [10] (.call 8 [.var 2, .cst (.int 0), .cst (.str ⟨#[97,110,110]⟩), .cst (.str ⟨#[105,110,110]⟩), .var 10]) (.var 10) .seq (.lst [.cst (.int 0), .cst (.int 4), .cst .non, .cst (.bl true), .cst (.str ⟨#[49]⟩), .neg (.cst (.int 1))]) (.cst .non) none) (.bin .mul (.lst [.cst (.str ⟨#[109,97,114,107]⟩)]) (.cst (.int 6)))) [.ret (.cst (.bl false))] [], .ret (.and_ (.cmp .eq (.olen (.var 2) 3) (.cst (.int 1))) (.and_ (.cmp .eq (.meth (.var 2) 2 []) (.lst [.cst (.str ⟨#[97,110,110]⟩)])) (.cmp .eq (.meth (.var 2) 1 []) (.lst [.cst (.str ⟨#[105,110,110]⟩)]))))]⟩
def c1 : Pm.Code := ⟨4, 2, [.asg (.var 2) (.var 1), .forI (.var 3) .seq (.var 0) (.cst .non) [.asg (.var 2) (.bin .mod (.p1 .int (.bin .add (.bin .add (.bin .mul (.var 2) (.cst (.int 48271))) (.bin .mod (.p1 .int (.var 3)) (.cst (.int 2147483629)))) (.cst (.int 1)))) (.cst (.int 2147483647)))], .ret (.lst [.var 2, .place (.p1 .list (.var 0)), .cst (.int 0)])]⟩
def c2 : Pm.Code := ⟨2, 2, [.setF (.var 0) 0 (.var 1), .setF (.var 0) 1 (.place (.lst [.tup [.new 1 [.dct0, .dct0], .cst .non]])), .setF (.var 0) 2 (.lst [])]⟩
def c3 : Pm.Code := ⟨1, 1, [.ret (.new 2 [.ix (.var 0) (.cst (.int 0)), .ix (.var 0) (.cst (.int 1)), .ix (.var 0) (.cst (.int 2)), .ix (.var 0) (.cst (.int 3)), .ix (.var 0) (.cst (.int 4)), .ix (.var 0) (.cst (.int 5)), .ix (.var 0) (.cst (.int 6))])]⟩
def c4 : Pm.Code := ⟨4, 1, [.asg (.var 1) (.lc [2, 3] (.call 6 [.var 0, .var 3]) (.tup [.var 2, .var 3]) .seq (.call 14 []) (.cst .non) none), .ite (.cmp .eq (.call 15 [.var 0, .cst (.int 2)]) (.cst (.int 0))) [.setIx (.var 1) (.cst (.int 1)) (.cst (.str ⟨#[109,101,97,110]⟩))] [], .ret (.var 1)]⟩
def c5 : Pm.Code := ⟨5, 4, [.expr (.call 16 [.var 1]), .expr (.call 16 [.var 2]), .ite (.not_ (.call 17 [.var 3, .cst (.int 1), .ix (.fld (.fld (.var 0) 0) 3) (.cst (.str ⟨#[116,111,112]⟩))])) [.raise 3 []] [], .expr (.meth (.var 0) 4 [.var 1]), .asg (.var 4) (.call 19 [.fld (.var 0) 0, .meth (.var 0) 5 [.var 2], .var 1, .var 3]), .ret (.meth (.var 0) 6 [.var 1, .var 2, .var 4, .tup [.cst (.str ⟨#[103,105,118,101]⟩), .var 1, .var 2, .var 3]])]⟩
def c6 : Pm.Code := ⟨2, 2, [.ret (.ix (.var 1) (.call 15 [.var 0, .p1 .len (.var 1)]))]⟩
def c7 : Pm.Code := ⟨3, 2, [.ite (.isi (.var 1) .dct) [.ret (.and_ (.isi (.var 0) .dct) (.and_ (.call 7 [.p1 .list (.var 0), .p1 .list (.var 1)]) (.cmp .eq (.var 0) (.var 1))))] [], .ite (.isi (.var 1) .tupOrLst) [.ite (.or_ (.not_ (.isi (.var 0) .tupOrLst)) (.cmp .ne (.isi (.var 0) .lst) (.isi (.var 1) .lst))) [.ret (.cst (.bl false))] [], .ite (.cmp .ne (.p1 .len (.var 0)) (.p1 .len (.var 1))) [.ret (.cst (.bl false))] [], .ret (.cmp .eq (.lc [2] (.var 2) (.var 2) .rng1 (.p1 .len (.var 1)) (.cst .non) (some (.not_ (.call 7 [.ix (.var 0) (.var 2), .ix (.var 1) (.var 2)])))) (.lst []))] [], .ite (.or_ (.isN (.var 1)) (.isi (.var 1) .str)) [.ret (.and_ (.cmp .eq (.var 0) (.var 1)) (.cmp .eq (.isi (.var 0) .str) (.isi (.var 1) .str)))] [], .ret (.and_ (.isi (.var 0) .int) (.and_ (.cmp .eq (.isi (.var 0) .bool) (.isi (.var 1) .bool)) (.cmp .eq (.var 0) (.var 1))))]⟩
def c8 : Pm.Code := ⟨7, 5, [.asg (.var 5) (.cst .non), .tryX [.expr (.call 22 [.var 0, .var 1, .var 2, .var 3, .var 4])] [(4, some 6, [.asg (.var 5) (.ife (.xis 6 5) (.lst [.xfld 6 4]) (.cst .non))]), (3, none, [.asg (.var 5) (.cst (.str ⟨#[109,97,114,107]⟩))])], .ret (.var 5)]⟩
def c9 : Pm.Code := ⟨1, 1, [.ret (.p1 .sorted (.fld (.meth (.var 0) 7 []) 5))]⟩
def c10 : Pm.Code := ⟨1, 1, [.ret (.p1 .sorted (.fld (.meth (.var 0) 7 []) 6))]⟩
def c11 : Pm.Code := ⟨1, 1, [.ret (.p1 .len (.sl (.fld (.var 0) 1) (some (.cst (.int 1))) none))]⟩
def c12 : Pm.Code := ⟨3, 3, [.setF (.var 0) 5 (.var 1), .setF (.var 0) 6 (.var 2)]⟩
def c13 : Pm.Code := ⟨11, 8, [.asg (.var 8) (.tup [.var 1, .var 2, .var 3, .var 4, .var 5, .var 6, .var 7]), .forI (.tup [.var 9, .var 10]) .zipK (.glob 0) (.var 8) [.ite (.not_ (.call 24 [.var 9, .var 10])) [.raise 6 [.var 9]] []], .setF (.var 0) 3 (.p2 .zipDict (.glob 0) (.var 8))]⟩
def c14 : Pm.Code := ⟨1, 0, [.asg (.var 0) (.lst [.tup [.cst (.str ⟨#[116,111,112]⟩), .lst [.cst (.int 2), .cst (.int 3)]], .tup [.cst (.str ⟨#[109,101,97,115,117,114,101]⟩), .lst [.cst (.str ⟨#[109,101,97,110]⟩), .cst (.str ⟨#[98,101,115,116]⟩), .cst (.str ⟨#[99,111,117,110,116]⟩)]], .tup [.cst (.str ⟨#[99,117,116]⟩), .lst [.cst (.str ⟨#[101,120,97,99,116]⟩), .cst (.str ⟨#[104,97,108,102]⟩), .cst (.str ⟨#[119,104,111,108,101]⟩)]]]), .asg (.var 0) (.bin .add (.var 0) (.lst [.tup [.cst (.str ⟨#[108,101,97,115,116]⟩), .lst [.cst (.int 1), .cst (.int 2)]], .tup [.cst (.str ⟨#[97,103,101,115]⟩), .lst [.cst (.str ⟨#[115,97,109,101]⟩), .cst (.str ⟨#[108,101,115,115]⟩)]], .tup [.cst (.str ⟨#[115,116,114,117,99,107]⟩), .lst [.cst (.str ⟨#[103,111,110,101]⟩), .cst (.str ⟨#[115,116,97,121]⟩)]]])), .ret (.bin .add (.var 0) (.lst [.tup [.cst (.str ⟨#[107,101,101,112,105,110,103]⟩), .lst [.cst (.str ⟨#[97,110,101,119]⟩), .cst (.str ⟨#[115,104,111,119,110]⟩)]]]))]⟩
def c15 : Pm.Code := ⟨3, 2, [.asg (.var 2) (.ix (.addL (.ix (.var 0) (.cst (.int 1))) (.lst [.cst (.int 0)])) (.bin .mod (.p1 .int (.ix (.var 0) (.cst (.int 2)))) (.p2 .max (.cst (.int 1)) (.p1 .len (.ix (.var 0) (.cst (.int 1))))))), .ite (.cmp .ge (.var 2) (.cst (.int 1000000000000000000))) [.setIx (.ix (.var 0) (.cst (.int 1))) (.bin .mod (.p1 .int (.ix (.var 0) (.cst (.int 2)))) (.p1 .len (.ix (.var 0) (.cst (.int 1))))) (.bin .fdiv (.var 2) (.var 1)), .ret (.bin .mod (.p1 .int (.var 2)) (.var 1))] [], .setIx (.var 0) (.cst (.int 0)) (.bin .mod (.p1 .int (.bin .add (.bin .add (.bin .mul (.ix (.var 0) (.cst (.int 0))) (.cst (.int 48271))) (.bin .mul (.var 2) (.cst (.int 69621)))) (.cst (.int 11)))) (.cst (.int 2147483647))), .setIx (.var 0) (.cst (.int 2)) (.bin .add (.ix (.var 0) (.cst (.int 2))) (.cst (.int 1))), .ret (.bin .mod (.p1 .int (.bin .fdiv (.ix (.var 0) (.cst (.int 0))) (.cst (.int 7)))) (.var 1))]⟩
def c16 : Pm.Code := ⟨2, 1, [.ite (.or_ (.not_ (.isi (.var 0) .str)) (.not_ (.chain (.cst (.int 1)) (.p1 .len (.var 0)) (.glob 1)))) [.raise 4 [.var 0]] [], .ite (.not_ (.p1 .all (.lc [1] (.has false (.var 1) (.glob 2)) (.var 1) .seq (.var 0) (.cst .non) none))) [.raise 4 [.var 0]] []]⟩
def c17 : Pm.Code := ⟨3, 3, [.ret (.and_ (.isi (.var 0) .int) (.and_ (.not_ (.isi (.var 0) .bool)) (.chain (.var 1) (.var 0) (.var 2))))]⟩
def c18 : Pm.Code := ⟨2, 2, [.ite (.get (.fld (.meth (.var 0) 7 []) 6) (.var 1) (.cst (.bl false))) [.raise 7 [.var 1]] []]⟩
def c19 : Pm.Code := ⟨5, 4, [.asg (.var 4) (.call 25 [.var 0, .var 1, .call 26 [.var 1, .var 2], .var 3]), .ret (.new 8 [.dctOver (.fld (.var 1) 7) (.var 2) (.tup [.var 3, .cst (.bl false), .cst (.bl false)]), .var 4])]⟩
def c20 : Pm.Code := ⟨2, 2, [.ret (.get (.fld (.meth (.var 0) 7 []) 5) (.var 1) (.new 8 [.dct0, .cst .non]))]⟩
def c21 : Pm.Code := ⟨6, 5, [.asg (.var 5) (.meth (.var 0) 7 []), .ret (.meth (.var 0) 8 [.dctOver (.fld (.var 5) 5) (.var 2) (.var 3), .dctOver (.fld (.var 5) 6) (.var 1) (.cst (.bl false)), .var 4])]⟩
def c22 : Pm.Code := ⟨5, 5, [.ite (.cmp .eq (.var 1) (.cst (.int 0))) [.ret (.meth (.var 0) 0 [.var 2, .var 3, .var 4])] [], .ite (.cmp .eq (.var 1) (.cst (.int 1))) [.ret (.meth (.var 0) 9 [.var 2, .var 3])] [], .ite (.cmp .eq (.var 1) (.cst (.int 2))) [.ret (.meth (.var 0) 10 [.var 2, .var 3])] [], .ite (.cmp .eq (.var 1) (.cst (.int 3))) [.ret (.meth (.var 0) 11 [.var 2])] [], .ret (.ife (.cmp .eq (.var 1) (.cst (.int 4))) (.meth (.var 0) 12 [.var 3]) (.meth (.var 0) 13 [.var 3]))]⟩
def c23 : Pm.Code := ⟨1, 1, [.ret (.ix (.ix (.fld (.var 0) 1) (.neg (.cst (.int 1)))) (.cst (.int 0)))]⟩
def c24 : Pm.Code := ⟨2, 2, [.ite (.has false (.var 0) (.glob 3)) [.ret (.and_ (.call 17 [.var 1, .cst (.int 1), .cst (.int 3)]) (.has false (.var 1) (.ix (.glob 0) (.var 0))))] [], .ret (.and_ (.isi (.var 1) .str) (.has false (.var 1) (.ix (.glob 0) (.var 0))))]⟩
def c25 : Pm.Code := ⟨4, 4, [.ite (.cmp .eq (.ix (.fld (.var 0) 3) (.cst (.str ⟨#[107,101,101,112,105,110,103]⟩))) (.cst (.str ⟨#[97,110,101,119]⟩))) [.ret (.cst .non)] [], .ret (.call 34 [.var 0, .fld (.var 1) 8, .p1 .len (.call 35 [.var 1]), .var 2, .var 3])]⟩
def c26 : Pm.Code := ⟨3, 2, [.asg (.var 2) (.get (.fld (.var 0) 7) (.var 1) (.cst .non)), .ret (.ife (.or_ (.isN (.var 2)) (.or_ (.cmp .eq (.var 2) (.glob 4)) (.ix (.var 2) (.cst (.int 2))))) (.cst .non) (.ix (.var 2) (.cst (.int 0))))]⟩
def c27 : Pm.Code := ⟨3, 3, [.setF (.var 0) 7 (.var 1), .setF (.var 0) 8 (.var 2)]⟩
def c28 : Pm.Code := ⟨8, 4, [.asg (.var 4) (.dc [5] (.var 5) (.call 36 [.fld (.var 0) 0, .meth (.var 0) 5 [.var 5]]) (.var 5) .seq (.var 1) (.cst .non) none), .app (.fld (.var 0) 1) (.tup [.new 1 [.var 1, .var 2], .var 3]), .setF (.var 0) 2 (.lst []), .asg (.var 6) (.dc [5, 7] (.var 5) (.call 36 [.fld (.var 0) 0, .var 7]) (.tup [.var 5, .var 7]) .items (.var 1) (.cst .non) none), .ret (.p1 .sorted (.lc [5] (.var 5) (.var 5) .seq (.var 1) (.cst .non) (some (.cmp .ne (.ix (.var 4) (.var 5)) (.ix (.var 6) (.var 5))))))]⟩
def c29 : Pm.Code := ⟨4, 3, [.expr (.call 16 [.var 1]), .expr (.call 16 [.var 2]), .expr (.meth (.var 0) 4 [.var 1]), .ite (.isN (.call 26 [.meth (.var 0) 5 [.var 2], .var 1])) [.raise 9 []] [], .asg (.var 3) (.call 37 [.fld (.var 0) 0, .meth (.var 0) 5 [.var 2], .var 1]), .ret (.meth (.var 0) 6 [.var 1, .var 2, .var 3, .tup [.cst (.str ⟨#[98,97,99,107]⟩), .var 1, .var 2]])]⟩
def c30 : Pm.Code := ⟨3, 3, [.expr (.call 16 [.var 1]), .expr (.call 16 [.var 2]), .ret (.call 26 [.meth (.var 0) 5 [.var 2], .var 1])]⟩
def c31 : Pm.Code := ⟨7, 2, [.expr (.call 16 [.var 1]), .expr (.meth (.var 0) 4 [.var 1]), .par [(2, .meth (.var 0) 7 []), (3, .dct0)], .forI (.tup [.var 4, .var 5]) .items (.fld (.var 2) 5) (.cst .non) [.asg (.var 6) (.isnN (.call 26 [.var 5, .var 1])), .setIx (.var 3) (.var 4) (.ife (.var 6) (.call 38 [.fld (.var 0) 0, .var 5, .var 1]) (.var 5))], .ret (.meth (.var 0) 8 [.var 3, .dctOver (.fld (.var 2) 6) (.var 1) (.cst (.bl true)), .tup [.cst (.str ⟨#[115,116,114,105,107,101]⟩), .var 1]])]⟩
def c32 : Pm.Code := ⟨2, 2, [.expr (.call 16 [.var 1]), .ret (.call 36 [.fld (.var 0) 0, .meth (.var 0) 5 [.var 1]])]⟩
def c33 : Pm.Code := ⟨2, 2, [.expr (.call 16 [.var 1]), .ret (.call 39 [.fld (.var 0) 0, .meth (.var 0) 5 [.var 1]])]⟩
def c34 : Pm.Code := ⟨8, 5, [.asg (.var 5) (.bin .add (.bin .sub (.var 2) (.p1 .int (.isnN (.var 3)))) (.p1 .int (.isnN (.var 4)))), .ite (.cmp .eq (.var 5) (.cst (.int 0))) [.ret (.cst .non)] [], .ite (.cmp .eq (.ix (.fld (.var 0) 3) (.cst (.str ⟨#[109,101,97,115,117,114,101]⟩))) (.cst (.str ⟨#[99,111,117,110,116]⟩))) [.ret (.tup [.var 5, .cst (.int 1)])] [], .ite (.cmp .eq (.ix (.fld (.var 0) 3) (.cst (.str ⟨#[109,101,97,115,117,114,101]⟩))) (.cst (.str ⟨#[98,101,115,116]⟩))) [.ite (.or_ (.isN (.var 4)) (.and_ (.isnN (.var 1)) (.cmp .ge (.ix (.var 1) (.cst (.int 0))) (.bin .mul (.var 4) (.ix (.var 1) (.cst (.int 1))))))) [.ret (.var 1)] [], .ret (.tup [.var 4, .cst (.int 1)])] [], .asg (.var 6) (.ife (.isN (.var 1)) (.tup [.cst (.int 0), .cst (.int 1)]) (.var 1)), .asg (.var 7) (.bin .sub (.ife (.isN (.var 4)) (.cst (.int 0)) (.var 4)) (.ife (.isN (.var 3)) (.cst (.int 0)) (.var 3))), .ret (.call 40 [.var 0, .call 41 [.var 0, .bin .add (.bin .mul (.ix (.var 6) (.cst (.int 0))) (.var 2)) (.bin .mul (.var 7) (.ix (.var 6) (.cst (.int 1)))), .bin .mul (.ix (.var 6) (.cst (.int 1))) (.var 5)]])]⟩
def c35 : Pm.Code := ⟨2, 1, [.ret (.lc [1] (.var 1) (.var 1) .values (.fld (.var 0) 7) (.cst .non) (some (.cmp .ne (.var 1) (.glob 4))))]⟩
def c36 : Pm.Code := ⟨4, 2, [.asg (.var 2) (.lc [3] (.sl (.var 3) none (some (.cst (.int 2)))) (.var 3) .seq (.call 35 [.var 1]) (.cst .non) none), .ite (.cmp .eq (.ix (.fld (.var 0) 3) (.cst (.str ⟨#[107,101,101,112,105,110,103]⟩))) (.cst (.str ⟨#[97,110,101,119]⟩))) [.ret (.call 42 [.var 0, .var 2])] [], .ret (.ife (.cmp .ge (.p1 .len (.var 2)) (.ix (.fld (.var 0) 3) (.cst (.str ⟨#[108,101,97,115,116]⟩)))) (.fld (.var 1) 8) (.cst .non))]⟩
def c37 : Pm.Code := ⟨4, 3, [.asg (.var 3) (.call 25 [.var 0, .var 1, .call 26 [.var 1, .var 2], .cst .non]), .ret (.new 8 [.call 43 [.fld (.var 1) 7, .var 2], .var 3])]⟩
def c38 : Pm.Code := ⟨4, 3, [.asg (.var 3) (.call 26 [.var 1, .var 2]), .ite (.isN (.var 3)) [.ret (.new 8 [.dctOver (.fld (.var 1) 7) (.var 2) (.glob 4), .fld (.var 1) 8])] [], .ite (.cmp .eq (.ix (.fld (.var 0) 3) (.cst (.str ⟨#[115,116,114,117,99,107]⟩))) (.cst (.str ⟨#[115,116,97,121]⟩))) [.ret (.new 8 [.dctOver (.fld (.var 1) 7) (.var 2) (.tup [.var 3, .ix (.ix (.fld (.var 1) 7) (.var 2)) (.cst (.int 1)), .cst (.bl true)]), .fld (.var 1) 8])] [], .ret (.new 8 [.dctOver (.fld (.var 1) 7) (.var 2) (.glob 4), .call 25 [.var 0, .var 1, .var 3, .cst .non]])]⟩
def c39 : Pm.Code := ⟨3, 2, [.ret (.call 42 [.var 0, .lc [2] (.sl (.var 2) none (some (.cst (.int 2)))) (.var 2) .seq (.call 35 [.var 1]) (.cst .non) (some (.not_ (.ix (.var 2) (.cst (.int 2)))))])]⟩
def c40 : Pm.Code := ⟨2, 2, [.ite (.cmp .lt (.ix (.var 1) (.cst (.int 0))) (.ix (.var 1) (.cst (.int 1)))) [.ret (.tup [.cst (.int 1), .cst (.int 1)])] [], .ret (.ife (.cmp .gt (.ix (.var 1) (.cst (.int 0))) (.bin .mul (.ix (.fld (.var 0) 3) (.cst (.str ⟨#[116,111,112]⟩))) (.ix (.var 1) (.cst (.int 1))))) (.tup [.ix (.fld (.var 0) 3) (.cst (.str ⟨#[116,111,112]⟩)), .cst (.int 1)]) (.var 1))]⟩
def c41 : Pm.Code := ⟨4, 3, [.asg (.var 3) (.ix (.fld (.var 0) 3) (.cst (.str ⟨#[99,117,116]⟩))), .ite (.cmp .eq (.var 3) (.cst (.str ⟨#[101,120,97,99,116]⟩))) [.ret (.call 44 [.var 1, .var 2])] [], .ret (.call 44 [.bin .fdiv (.bin .mul (.ix (.glob 5) (.var 3)) (.var 1)) (.var 2), .ix (.glob 5) (.var 3)])]⟩
def c42 : Pm.Code := ⟨4, 2, [.ite (.cmp .lt (.p1 .len (.var 1)) (.ix (.fld (.var 0) 3) (.cst (.str ⟨#[108,101,97,115,116]⟩)))) [.ret (.cst .non)] [], .ite (.cmp .eq (.ix (.fld (.var 0) 3) (.cst (.str ⟨#[109,101,97,115,117,114,101]⟩))) (.cst (.str ⟨#[99,111,117,110,116]⟩))) [.ret (.tup [.p1 .len (.var 1), .cst (.int 1)])] [], .ite (.cmp .eq (.ix (.fld (.var 0) 3) (.cst (.str ⟨#[109,101,97,115,117,114,101]⟩))) (.cst (.str ⟨#[98,101,115,116]⟩))) [.ret (.tup [.p1 .max (.lc [2, 3] (.var 2) (.tup [.var 2, .var 3]) .seq (.var 1) (.cst .non) none), .cst (.int 1)])] [], .ret (.call 45 [.var 0, .var 1])]⟩
def c43 : Pm.Code := ⟨4, 2, [.ret (.dc [2, 3] (.var 2) (.var 3) (.tup [.var 2, .var 3]) .items (.var 0) (.cst .non) (some (.cmp .ne (.var 2) (.var 1))))]⟩
def c44 : Pm.Code := ⟨3, 2, [.asg (.var 2) (.call 46 [.var 0, .var 1]), .ret (.tup [.bin .fdiv (.var 0) (.var 2), .bin .fdiv (.var 1) (.var 2)])]⟩
def c45 : Pm.Code := ⟨7, 2, [.asg (.var 2) (.lc [3, 4] (.call 47 [.var 0, .var 4]) (.tup [.var 3, .var 4]) .seq (.var 1) (.cst .non) none), .asg (.var 5) (.p1 .sum (.lc [3, 4, 6] (.bin .mul (.var 3) (.var 6)) (.tup [.tup [.var 3, .var 4], .var 6]) .zip (.var 1) (.var 2) none)), .ret (.call 41 [.var 0, .var 5, .p1 .sum (.var 2)])]⟩
def c46 : Pm.Code := ⟨2, 2, [.whil (.cmp .ne (.var 1) (.cst (.int 0))) [.par [(0, .var 1), (1, .bin .mod (.var 0) (.var 1))]], .ret (.var 0)]⟩
def c47 : Pm.Code := ⟨2, 2, [.ret (.ife (.and_ (.var 1) (.cmp .eq (.ix (.fld (.var 0) 3) (.cst (.str ⟨#[97,103,101,115]⟩))) (.cst (.str ⟨#[108,101,115,115]⟩)))) (.cst (.int 1)) (.cst (.int 2)))]⟩
def f0 : Pm.Fd := { at_ := ("law", none), pr := false, qual := "law", ps := ["_law_script"], N := ["_law_script", "_law_h", "_law_board", "_law_odd", "_law_turn", "_law_wrong", "_law_other", "_law_kind", "_law_first", "_law_due", "_law_mark"], code := c0 }
def f1 : Pm.Fd := { at_ := ("_law_mix", none), pr := false, qual := "_law_mix", ps := ["_law_script", "_law_seed"], N := ["_law_script", "_law_seed", "_law_state", "_law_cell"], code := c1 }
def f2 : Pm.Fd := { at_ := ("Board", some "__init__"), pr := false, qual := "Board.__init__", ps := ["self", "rule"], N := ["self", "rule"], code := c2 }
def f3 : Pm.Fd := { at_ := ("_law_built", none), pr := false, qual := "_law_built", ps := ["_law_words_here"], N := ["_law_words_here"], code := c3 }
def f4 : Pm.Fd := { at_ := ("_law_words", none), pr := false, qual := "_law_words", ps := ["_law_h"], N := ["_law_h", "_law_found", "_law_part", "_law_words_here"], code := c4 }
def f5 : Pm.Fd := { at_ := ("Board", some "give"), pr := false, qual := "Board.give", ps := ["self", "person", "thing", "mark"], N := ["self", "person", "thing", "mark", "later"], code := c5 }
def f6 : Pm.Fd := { at_ := ("_law_pick", none), pr := false, qual := "_law_pick", ps := ["_law_h", "_law_things"], N := ["_law_h", "_law_things"], code := c6 }
def f7 : Pm.Fd := { at_ := ("_law_alike", none), pr := false, qual := "_law_alike", ps := ["_law_found", "_law_due"], N := ["_law_found", "_law_due", "_law_k"], code := c7 }
def f8 : Pm.Fd := { at_ := ("_law_refused", none), pr := false, qual := "_law_refused", ps := ["_law_board", "_law_kind", "_law_person", "_law_thing", "_law_mark"], N := ["_law_board", "_law_kind", "_law_person", "_law_thing", "_law_mark", "_law_found", "error"], code := c8 }
def f9 : Pm.Fd := { at_ := ("Board", some "things"), pr := false, qual := "Board.things", ps := ["self"], N := ["self"], code := c9 }
def f10 : Pm.Fd := { at_ := ("Board", some "people"), pr := false, qual := "Board.people", ps := ["self"], N := ["self"], code := c10 }
def f11 : Pm.Fd := { at_ := ("Board", some "__len__"), pr := false, qual := "Board.__len__", ps := ["self"], N := ["self"], code := c11 }
def f12 : Pm.Fd := { at_ := ("Moment", some "__init__"), pr := false, qual := "Moment.__init__", ps := ["self", "by_thing", "crowd"], N := ["self", "by_thing", "crowd"], code := c12 }
def f13 : Pm.Fd := { at_ := ("Rule", some "__init__"), pr := false, qual := "Rule.__init__", ps := ["self", "top", "measure", "cut", "least", "ages", "struck", "keeping"], N := ["self", "top", "measure", "cut", "least", "ages", "struck", "keeping", "given", "part", "word"], code := c13 }
def f14 : Pm.Fd := { at_ := ("_law_parts", none), pr := false, qual := "_law_parts", ps := [], N := ["_law_found"], code := c14 }
def f15 : Pm.Fd := { at_ := ("_law_next", none), pr := false, qual := "_law_next", ps := ["_law_h", "_law_cap"], N := ["_law_h", "_law_cap", "_law_cell"], code := c15 }
def f16 : Pm.Fd := { at_ := ("check_name", none), pr := false, qual := "check_name", ps := ["name"], N := ["name", "letter"], code := c16 }
def f17 : Pm.Fd := { at_ := ("is_integer", none), pr := false, qual := "is_integer", ps := ["thing", "low", "high"], N := ["thing", "low", "high"], code := c17 }
def f18 : Pm.Fd := { at_ := ("Board", some "check_person"), pr := false, qual := "Board.check_person", ps := ["self", "person"], N := ["self", "person"], code := c18 }
def f19 : Pm.Fd := { at_ := ("marked", none), pr := false, qual := "marked", ps := ["rule", "standing", "person", "mark"], N := ["rule", "standing", "person", "mark", "kept"], code := c19 }
def f20 : Pm.Fd := { at_ := ("Board", some "standing_of"), pr := false, qual := "Board.standing_of", ps := ["self", "thing"], N := ["self", "thing"], code := c20 }
def f21 : Pm.Fd := { at_ := ("Board", some "with_thing"), pr := false, qual := "Board.with_thing", ps := ["self", "person", "thing", "standing", "deed"], N := ["self", "person", "thing", "standing", "deed", "now"], code := c21 }
def f22 : Pm.Fd := { at_ := ("_law_ask", none), pr := false, qual := "_law_ask", ps := ["_law_board", "_law_kind", "_law_person", "_law_thing", "_law_mark"], N := ["_law_board", "_law_kind", "_law_person", "_law_thing", "_law_mark"], code := c22 }
def f23 : Pm.Fd := { at_ := ("Board", some "now"), pr := false, qual := "Board.now", ps := ["self"], N := ["self"], code := c23 }
def f24 : Pm.Fd := { at_ := ("is_word", none), pr := false, qual := "is_word", ps := ["part", "thing"], N := ["part", "thing"], code := c24 }
def f25 : Pm.Fd := { at_ := ("kept_by", none), pr := false, qual := "kept_by", ps := ["rule", "standing", "elder", "mark"], N := ["rule", "standing", "elder", "mark"], code := c25 }
def f26 : Pm.Fd := { at_ := ("mark_of", none), pr := false, qual := "mark_of", ps := ["standing", "person"], N := ["standing", "person", "row"], code := c26 }
def f27 : Pm.Fd := { at_ := ("Standing", some "__init__"), pr := false, qual := "Standing.__init__", ps := ["self", "rows", "kept"], N := ["self", "rows", "kept"], code := c27 }
def f28 : Pm.Fd := { at_ := ("Board", some "go_to"), pr := false, qual := "Board.go_to", ps := ["self", "by_thing", "crowd", "deed"], N := ["self", "by_thing", "crowd", "deed", "before", "thing", "after", "standing"], code := c28 }
def f29 : Pm.Fd := { at_ := ("Board", some "take_back"), pr := false, qual := "Board.take_back", ps := ["self", "person", "thing"], N := ["self", "person", "thing", "later"], code := c29 }
def f30 : Pm.Fd := { at_ := ("Board", some "mark"), pr := false, qual := "Board.mark", ps := ["self", "person", "thing"], N := ["self", "person", "thing"], code := c30 }
def f31 : Pm.Fd := { at_ := ("Board", some "strike"), pr := false, qual := "Board.strike", ps := ["self", "person"], N := ["self", "person", "now", "by_thing", "thing", "standing", "is_there"], code := c31 }
def f32 : Pm.Fd := { at_ := ("Board", some "shown"), pr := false, qual := "Board.shown", ps := ["self", "thing"], N := ["self", "thing"], code := c32 }
def f33 : Pm.Fd := { at_ := ("Board", some "due"), pr := false, qual := "Board.due", ps := ["self", "thing"], N := ["self", "thing"], code := c33 }
def f34 : Pm.Fd := { at_ := ("worked_on", none), pr := false, qual := "worked_on", ps := ["rule", "kept", "many", "elder", "mark"], N := ["rule", "kept", "many", "elder", "mark", "left", "before", "change"], code := c34 }
def f35 : Pm.Fd := { at_ := ("counted_rows", none), pr := false, qual := "counted_rows", ps := ["standing"], N := ["standing", "row"], code := c35 }
def f36 : Pm.Fd := { at_ := ("shown_by", none), pr := false, qual := "shown_by", ps := ["rule", "standing"], N := ["rule", "standing", "rows", "row"], code := c36 }
def f37 : Pm.Fd := { at_ := ("taken_back", none), pr := false, qual := "taken_back", ps := ["rule", "standing", "person"], N := ["rule", "standing", "person", "kept"], code := c37 }
def f38 : Pm.Fd := { at_ := ("struck_one", none), pr := false, qual := "struck_one", ps := ["rule", "standing", "person"], N := ["rule", "standing", "person", "mark"], code := c38 }
def f39 : Pm.Fd := { at_ := ("due_by", none), pr := false, qual := "due_by", ps := ["rule", "standing"], N := ["rule", "standing", "row"], code := c39 }
def f40 : Pm.Fd := { at_ := ("bounded", none), pr := false, qual := "bounded", ps := ["rule", "number"], N := ["rule", "number"], code := c40 }
def f41 : Pm.Fd := { at_ := ("cut_down", none), pr := false, qual := "cut_down", ps := ["rule", "numerator", "denominator"], N := ["rule", "numerator", "denominator", "word"], code := c41 }
def f42 : Pm.Fd := { at_ := ("number_for", none), pr := false, qual := "number_for", ps := ["rule", "rows"], N := ["rule", "rows", "mark", "is_old"], code := c42 }
def f43 : Pm.Fd := { at_ := ("without", none), pr := false, qual := "without", ps := ["rows", "person"], N := ["rows", "person", "other", "row"], code := c43 }
def f44 : Pm.Fd := { at_ := ("number_of", none), pr := false, qual := "number_of", ps := ["numerator", "denominator"], N := ["numerator", "denominator", "part"], code := c44 }
def f45 : Pm.Fd := { at_ := ("mean_of", none), pr := false, qual := "mean_of", ps := ["rule", "rows"], N := ["rule", "rows", "weights", "mark", "is_old", "total", "weight"], code := c45 }
def f46 : Pm.Fd := { at_ := ("common_part", none), pr := false, qual := "common_part", ps := ["one", "other"], N := ["one", "other"], code := c46 }
def f47 : Pm.Fd := { at_ := ("weight_of", none), pr := false, qual := "weight_of", ps := ["rule", "is_old"], N := ["rule", "is_old"], code := c47 }
def tb : Pm.Tb := { fn := [("law", 0), ("_law_mix", 1), ("_law_built", 3), ("_law_words", 4), ("_law_pick", 6), ("_law_alike", 7), ("_law_refused", 8), ("_law_parts", 14), ("_law_next", 15), ("check_name", 16), ("is_integer", 17), ("marked", 19), ("_law_ask", 22), ("is_word", 24), ("kept_by", 25), ("mark_of", 26), ("worked_on", 34), ("counted_rows", 35), ("shown_by", 36), ("taken_back", 37), ("struck_one", 38), ("due_by", 39), ("bounded", 40), ("cut_down", 41), ("number_for", 42), ("without", 43), ("number_of", 44), ("mean_of", 45), ("common_part", 46), ("weight_of", 47)], cls := [("Board", 0), ("Moment", 1), ("Rule", 2), ("BadMark", 3), ("BadName", 4), ("ShowError", 5), ("InvalidRule", 6), ("Struck", 7), ("Standing", 8), ("NoMark", 9)], glob := [("PARTS", 0), ("MOST_LETTERS", 1), ("LETTERS", 2), ("COUNTED", 3), ("STRUCK", 4), ("UNITS", 5)], free := ["all", "bool", "dict", "int", "isinstance", "len", "list", "max", "range", "sorted", "str", "sum", "tuple", "zip"], fld := ["own_rule", "moments", "undone", "words", "name", "by_thing", "crowd", "rows", "kept", "part", "person"], meth := ["give", "things", "people", "__len__", "check_person", "standing_of", "with_thing", "now", "go_to", "take_back", "mark", "strike", "shown", "due"], prop := [], exf := [(3, []), (4, [4]), (6, [9]), (7, [10]), (9, [])], exc := [3, 4, 5, 6, 7, 9] }
def pr : Pm.Pr := { clsN := ["Board", "Moment", "Rule", "BadMark", "BadName", "ShowError", "InvalidRule", "Struck", "Standing", "NoMark"], fns := [f0, f1, f2, f3, f4, f5, f6, f7, f8, f9, f10, f11, f12, f13, f14, f15, f16, f17, f18, f19, f20, f21, f22, f23, f24, f25, f26, f27, f28, f29, f30, f31, f32, f33, f34, f35, f36, f37, f38, f39, f40, f41, f42, f43, f44, f45, f46, f47], tb := tb, meth := [((0, 0), 5), ((0, 1), 9), ((0, 2), 10), ((0, 3), 11), ((0, 4), 18), ((0, 5), 20), ((0, 6), 21), ((0, 7), 23), ((0, 8), 28), ((0, 9), 29), ((0, 10), 30), ((0, 11), 31), ((0, 12), 32), ((0, 13), 33)], prop := [], oeq := [], init := [(0, 2), (1, 12), (2, 13), (8, 27)], val := [1, 2, 8], flds := [(0, [0, 1, 2]), (1, [5, 6]), (2, [3]), (8, [7, 8])], isic := [((0, 0), false), ((0, 1), false), ((0, 2), false), ((0, 3), false), ((0, 4), false), ((0, 5), false), ((0, 6), false), ((0, 7), true), ((0, 8), false), ((0, 9), false), ((0, 15), false), ((1, 0), false), ((1, 1), false), ((1, 2), false), ((1, 3), false), ((1, 4), false), ((1, 5), false), ((1, 6), false), ((1, 7), false), ((1, 8), true), ((1, 9), false), ((1, 15), false), ((2, 0), false), ((2, 1), false), ((2, 2), false), ((2, 3), false), ((2, 4), false), ((2, 5), false), ((2, 6), false), ((2, 7), false), ((2, 8), false), ((2, 9), true), ((2, 15), false), ((8, 0), false), ((8, 1), false), ((8, 2), false), ((8, 3), false), ((8, 4), false), ((8, 5), false), ((8, 6), false), ((8, 7), false), ((8, 8), false), ((8, 9), false), ((8, 15), true)], sub := [(3, 3), (3, 5), (4, 4), (4, 5), (5, 5), (6, 6), (6, 5), (7, 7), (7, 5), (9, 9), (9, 5)], glob := [(.kdc [((.str ⟨#[116,111,112]⟩), (.tup [(.int 2), (.int 3)])), ((.str ⟨#[109,101,97,115,117,114,101]⟩), (.tup [(.str ⟨#[109,101,97,110]⟩), (.str ⟨#[98,101,115,116]⟩), (.str ⟨#[99,111,117,110,116]⟩)])), ((.str ⟨#[99,117,116]⟩), (.tup [(.str ⟨#[101,120,97,99,116]⟩), (.str ⟨#[104,97,108,102]⟩), (.str ⟨#[119,104,111,108,101]⟩)])), ((.str ⟨#[108,101,97,115,116]⟩), (.tup [(.int 1), (.int 2)])), ((.str ⟨#[97,103,101,115]⟩), (.tup [(.str ⟨#[115,97,109,101]⟩), (.str ⟨#[108,101,115,115]⟩)])), ((.str ⟨#[115,116,114,117,99,107]⟩), (.tup [(.str ⟨#[103,111,110,101]⟩), (.str ⟨#[115,116,97,121]⟩)])), ((.str ⟨#[107,101,101,112,105,110,103]⟩), (.tup [(.str ⟨#[97,110,101,119]⟩), (.str ⟨#[115,104,111,119,110]⟩)]))]), (.int 6), (.str ⟨#[97,98,99,100,101,102,103,104,105,106,107,108,109,110,111,112,113,114,115,116,117,118,119,120,121,122]⟩), (.tup [(.str ⟨#[116,111,112]⟩), (.str ⟨#[108,101,97,115,116]⟩)]), (.str ⟨#[115,116,114,117,99,107]⟩), (.kdc [((.str ⟨#[104,97,108,102]⟩), (.int 2)), ((.str ⟨#[119,104,111,108,101]⟩), (.int 1))])] }
end PmK03
namespace PmK03
open PySem (Str PyData)
open Pm
local macro_rules | `(tactic| walk_at "go") => `(tactic| try simp only [or_true, true_or, bind_ok, bind_exc, bind_bad, rf_none, rf_some, d_fz, d_lst, d_dct, lk_res, lk_lst, lk_tup, lk_dct, lk_kdc, lk_scr, lk_int, lk_str, lk_bl, lk_slot, look_l, look_d, con_l, con_d, cd_l, cd_d, of_some, of_none, so_var, l_var, so_cst, m_cst, l_cst, so_glob, m_glob, l_glob, so_star, m_star, so_tup, m_tup, l_tup, so_lst, m_lst, l_lst, so_dct0, m_dct0, l_dct0, so_dctOver, m_dctOver, l_dctOver, so_bin, m_bin, l_bin, so_addL, m_addL, l_addL, so_neg, m_neg, l_neg, so_not_, m_not_, l_not_, so_cmp, m_cmp, l_cmp, so_has, m_has, l_has, so_isN, m_isN, l_isN, so_isnN, m_isnN, l_isnN, so_chain, m_chain, l_chain, so_and_, m_and_, l_and_, so_or_, m_or_, l_or_, so_ife, m_ife, l_ife, so_ix, m_ix, l_ix, so_sl, m_sl, l_sl, so_get, m_get, l_get, so_fld, m_fld, l_fld, so_xfld, m_xfld, l_xfld, so_xis, m_xis, l_xis, so_prop, m_prop, l_prop, so_call, m_call, l_call, so_new, m_new, l_new, so_oeq, m_oeq, l_oeq, so_meth, m_meth, l_meth, so_olen, m_olen, l_olen, so_p1, m_p1, l_p1, so_p2, m_p2, l_p2, so_isi, m_isi, l_isi, so_place, m_place, l_place, so_pop, m_pop, l_pop, so_popK, m_popK, l_popK, so_lc, m_lc, l_lc, so_dc, m_dc, l_dc, at_ok, at_exc, at_bad, get_ok, evL_nil, evO_none, evO_some, evT_none, evT_some, evR_eq, evI_eq, evM_var, evS_nil, evS_cons, exL_nil, exL_cons, ex_expr, ex_asg, ex_asgT, ex_par, ex_setIx, ex_setF, ex_app, ex_ite, ex_for, ex_ret, ex_raise, ex_try, ex_pass, cl_slot, cl_res, c_nil, c_cons, wp_mk, wp_nil, wp_cons, ov_mk, bk_nil, bk_cons, cal_ok, cal_bad, gd0, gd1, pt_loc, pt_res, set_lst, bt_var, bt_tup, bts_nil, bts_cons, cm_int, cm_lt, cm_gt, bi_add, bi_sub, bi_mod, bi_fdiv, bi_mul, bi_lst, ad_lst, ix_lst, ix_tup, pr_len, pr_lenT, pr_int, pr_scr, pr_max, it_rng, it_lst, it_tup, it_scr, it_zip, it_zipK,
  v_var, v_cst, v_glob, v_tup, v_lst, v_dct0, v_dctOver, v_bin, v_addL, v_neg, v_not_, v_cmp, v_has, v_isN, v_isnN, v_chain, v_and_, v_or_, v_ife, v_ix, v_sl, v_get, v_fld, v_xfld, v_xis, v_prop, v_call, v_new, v_oeq, v_olen, v_meth, v_p1, v_p2, v_isi, v_place, v_pop, v_popK, v_lc,
  Ik.two, List.getElem?_cons_zero, List.getElem?_cons_succ, List.set_cons_zero, List.set_cons_succ, List.length_cons, List.length_nil, List.map_cons, List.map_nil, List.cons_append, List.nil_append, Option.map_some, Option.bind_some, Option.map_none, Option.bind_none, eq_self, lm0, lm1, lm2, lm3, lm4, lm5, lm6, lm7, lm8, lm9, lm10, lm11, lm12, lm13, lm14, lm15, lm16, lm17, lm18, lm19, lm20, Nat.reduceAdd, Nat.zero_add, Nat.reduceSub, true_and, and_true, Int.reduceLT, Int.reduceLE, Int.reduceNeg, Int.reducePow, if_true, if_false, decide_true, decide_false, Bool.false_eq_true, at0, at1, at2, at3, at4, at5, at6, ixn0, ixn1, ixn2, fin_nx, fin_ret, fin_exc, run0, run1, run2, run3, run4, run5, rp1, rp2, rp3, rp4, rp11])
theorem fn_ {m g : Nat} {f : Pm.Fd} (e : pr.fns[g]? = some f) : (tabOf pr (m + 1)).fn g = runCode (tabOf pr m) f.code := by
  funext ds res
  show (match pr.fns[g]? with
    | some f => runCode (tabOf pr m) f.code ds res
    | none => .bad) = _
  rw [e]
def sAnn : Str := ⟨#[97,110,110]⟩
def sInn : Str := ⟨#[105,110,110]⟩
def sMark : Str := ⟨#[109,97,114,107]⟩
def sGive : Str := ⟨#[103,105,118,101]⟩
def odd11 : List D := [.str ⟨#[]⟩, .str ⟨#[65,110,110]⟩, .str ⟨#[116,111,111,108,111,110,103,115]⟩, .str ⟨#[97,49]⟩, .non, .int 5, .bl true, .lst [.str ⟨#[97,110,110]⟩], .tup [.str ⟨#[97,110,110]⟩], .str ⟨#[97,32,98]⟩, .str ⟨#[97,110,110,97,98,101,108,108]⟩]
def mom0 : D := .tup [.obj 1 [(5, .dct []), (6, .dct [])], .non]
def mom1 (kept : D) : D := .tup [.obj 1 [(5, .dct [(.str sInn, .obj 8 [(7, .dct [(.str sAnn, .tup [.int 1, .bl false, .bl false])]), (8, kept)])]), (6, .dct [(.str sAnn, .bl false)])], .tup [.str sGive, .str sAnn, .str sInn, .int 1]]
def bd (r : D) : Cell := .ins 0 [(0, r), (1, .res 3), (2, .lst [])]
theorem board0 (m : Nat) (r : D) (c0 c1 : Cell) : (tabOf pr (m + 4)).fn 2 [.res 2, r] [c0, c1, .ins 0 []] = .ok (.fz .non) [c0, c1, bd r, .lst [mom0]] := by kernel_rfl
theorem give0 (m : Nat) : AllP (fun a => AllP (fun b => AllP (fun c => AllP (fun d : D × List D => AllP (fun g : D × D => ∀ e f c0 c1, (tabOf pr (m + 16)).fn 5 [.res 2, .str sAnn, .str sInn, .int 1] [c0, c1, bd (ruleD 2 3 [a, b, c, d.1, e, f, g.1]), .lst [mom0]] = .ok (.ow (.lst d.2)) [c0, c1, bd (ruleD 2 3 [a, b, c, d.1, e, f, g.1]), .lst [mom0, mom1 g.2]]) [(wAnew, .non), (wShown, .tup [.int 1, .int 1])]) [(.int 1, [.str sInn]), (.int 2, [])]) [wExact, wHalf, wWhole]) [wMean, wBest, wCount]) [D.int 2, .int 3] := by
  repeat' (first | exact AllP.nil | apply AllP.cons | (intro e f c0 c1; kernel_rfl))
theorem refW (m : Nat) : AllP (fun k => AllP (fun w => ∀ o fs c0 c1 c3, (tabOf pr (m + 8)).fn 8 [.res 2, .int k, w, o, .int 9] [c0, c1, .ins 0 fs, c3] = .ok (.ow (.lst [w])) [c0, c1, .ins 0 fs, c3]) odd11) [(0 : Int), 1, 2, 3] := by
  unfold odd11
  repeat' (first | exact AllP.nil | apply AllP.cons | (intro o fs c0 c1 c3; kernel_rfl))
theorem refO (m : Nat) : AllP (fun k => AllP (fun o => ∀ w fs c0 c1 c3, (tabOf pr (m + 8)).fn 8 [.res 2, .int k, w, o, .int 9] [c0, c1, .ins 0 fs, c3] = .ok (.ow (.lst [o])) [c0, c1, .ins 0 fs, c3]) odd11) [(4 : Int), 5] := by
  unfold odd11
  repeat' (first | exact AllP.nil | apply AllP.cons | (intro o fs c0 c1 c3; kernel_rfl))
theorem refA (m : Nat) : AllP (fun k => AllP (fun o => ∀ fs c0 c1 c3, (tabOf pr (m + 8)).fn 8 [.res 2, .int k, .str sAnn, o, .non] [c0, c1, .ins 0 fs, c3] = .ok (.ow (.lst [o])) [c0, c1, .ins 0 fs, c3]) odd11) [(0 : Int), 1, 2] := by
  unfold odd11
  repeat' (first | exact AllP.nil | apply AllP.cons | (intro fs c0 c1 c3; kernel_rfl))
theorem alikO (m : Nat) : AllP (fun w => ∀ res, (tabOf pr (m + 8)).fn 7 [.lst [w], .lst [w]] res = .ok (.fz (.bl true)) res) odd11 := by
  unfold odd11
  repeat' (first | exact AllP.nil | apply AllP.cons | (intro res; kernel_rfl))
theorem markF (m : Nat) : AllP (fun a => AllP (fun k => ∀ b c d e f g c0 c1 c3, (tabOf pr (m + 8)).fn 8 [.res 2, .int 0, .str sAnn, .str sInn, k] [c0, c1, bd (ruleD 2 3 [a, b, c, d, e, f, g]), c3] = .ok (.fz (.str sMark)) [c0, c1, bd (ruleD 2 3 [a, b, c, d, e, f, g]), c3]) [D.int 0, .int 4, .non, .bl true, .str ⟨#[49]⟩, .int (-1)]) [D.int 2, .int 3] := by
  repeat' (first | exact AllP.nil | apply AllP.cons | (intro b c d e f g c0 c1 c3; kernel_rfl))
theorem lenF (m : Nat) (r k : D) (c0 c1 : Cell) : (tabOf pr (m + 8)).fn 11 [.res 2] [c0, c1, bd r, .lst [mom0, mom1 k]] = .ok (.fz (.int 1)) [c0, c1, bd r, .lst [mom0, mom1 k]] := by kernel_rfl
theorem peopleF (m : Nat) (r k : D) (c0 c1 : Cell) : (tabOf pr (m + 8)).fn 10 [.res 2] [c0, c1, bd r, .lst [mom0, mom1 k]] = .ok (.ow (.lst [.str sAnn])) [c0, c1, bd r, .lst [mom0, mom1 k]] := by kernel_rfl
theorem thingsF (m : Nat) (r k : D) (c0 c1 : Cell) : (tabOf pr (m + 8)).fn 9 [.res 2] [c0, c1, bd r, .lst [mom0, mom1 k]] = .ok (.ow (.lst [.str sInn])) [c0, c1, bd r, .lst [mom0, mom1 k]] := by kernel_rfl
theorem ok_first {ws : List D} (h : Rule7 ws) : firstBad parts7 ws = none := by
  obtain ⟨a0, a1, a2, a3, a4, a5, a6, rfl, _⟩ := id h
  obtain ⟨k0, k1, k2, k3, k4, k5, k6⟩ := rule_ok h
  unfold parts7
  simp only [firstBad, k0, k1, k2, k3, k4, k5, k6, if_true]
structure LawK3 (T : Tab) : Prop where
  words : WordsF (T.fn 4)
  pick : PickF (T.fn 6)
  built : ∀ ws, Rule7 ws → ∀ res, T.fn 3 [.lst ws] res = .ok (.fz (ruleD 2 3 ws)) res
  ini : T.init 0 = some 2
  val0 : T.val 0 = false
  board : ∀ r c0 c1, T.fn 2 [.res 2, r] [c0, c1, .ins 0 []] = .ok (.fz .non) [c0, c1, bd r, .lst [mom0]]
  mg : T.meth 0 0 = some 5
  mt : T.meth 0 1 = some 9
  mp : T.meth 0 2 = some 10
  ml : T.meth 0 3 = some 11
  give : ∀ ws, Rule7 ws → ∃ k l, ∀ c0 c1, T.fn 5 [.res 2, .str sAnn, .str sInn, .int 1] [c0, c1, bd (ruleD 2 3 ws), .lst [mom0]] = .ok (.ow (.lst l)) [c0, c1, bd (ruleD 2 3 ws), .lst [mom0, mom1 k]]
  refW : AllP (fun k => AllP (fun w => ∀ o fs c0 c1 c3, T.fn 8 [.res 2, .int k, w, o, .int 9] [c0, c1, .ins 0 fs, c3] = .ok (.ow (.lst [w])) [c0, c1, .ins 0 fs, c3]) odd11) [(0 : Int), 1, 2, 3]
  refO : AllP (fun k => AllP (fun o => ∀ w fs c0 c1 c3, T.fn 8 [.res 2, .int k, w, o, .int 9] [c0, c1, .ins 0 fs, c3] = .ok (.ow (.lst [o])) [c0, c1, .ins 0 fs, c3]) odd11) [(4 : Int), 5]
  refA : AllP (fun k => AllP (fun o => ∀ fs c0 c1 c3, T.fn 8 [.res 2, .int k, .str sAnn, o, .non] [c0, c1, .ins 0 fs, c3] = .ok (.ow (.lst [o])) [c0, c1, .ins 0 fs, c3]) odd11) [(0 : Int), 1, 2]
  alik : AllP (fun w => ∀ res, T.fn 7 [.lst [w], .lst [w]] res = .ok (.fz (.bl true)) res) odd11
  mark : AllP (fun a => AllP (fun k => ∀ b c d e f g c0 c1 c3, T.fn 8 [.res 2, .int 0, .str sAnn, .str sInn, k] [c0, c1, bd (ruleD 2 3 [a, b, c, d, e, f, g]), c3] = .ok (.fz (.str sMark)) [c0, c1, bd (ruleD 2 3 [a, b, c, d, e, f, g]), c3]) [D.int 0, .int 4, .non, .bl true, .str ⟨#[49]⟩, .int (-1)]) [D.int 2, .int 3]
  len : ∀ r k c0 c1, T.fn 11 [.res 2] [c0, c1, bd r, .lst [mom0, mom1 k]] = .ok (.fz (.int 1)) [c0, c1, bd r, .lst [mom0, mom1 k]]
  people : ∀ r k c0 c1, T.fn 10 [.res 2] [c0, c1, bd r, .lst [mom0, mom1 k]] = .ok (.ow (.lst [.str sAnn])) [c0, c1, bd r, .lst [mom0, mom1 k]]
  things : ∀ r k c0 c1, T.fn 9 [.res 2] [c0, c1, bd r, .lst [mom0, mom1 k]] = .ok (.ow (.lst [.str sInn])) [c0, c1, bd r, .lst [mom0, mom1 k]]
theorem rng6 : rngL 0 6 = [.int 0, .int 1, .int 2, .int 3, .int 4, .int 5] := by kernel_rfl
theorem ss_nil {loc : List (Option Sl)} : setS [] [] loc = some loc := rfl
theorem ss_cons {i : Nat} {is : List Nat} {x : Sl} {xs : List Sl} {loc : List (Option Sl)} : setS (i :: is) (x :: xs) loc = setS is xs (loc.set i (some x)) := rfl
theorem cls_b {r : D} {c0 c1 : Cell} {l : List Cell} : clsD (.res 2) (c0 :: c1 :: bd r :: l) = some 0 := rfl
theorem nn_ok {k : Nat} {loc : List (Option Sl)} {res : List Cell} : newEnd k loc (.ok (.fz .non) res) = .ok (.fz (.res k)) (S.mk loc res) := rfl
theorem eq_11 : cmpD .eq (.int 1) (.int 1) = some true := by kernel_rfl
theorem eq_ann : cmpD .eq (.lst [.str sAnn]) (.lst [.str sAnn]) = some true := by kernel_rfl
theorem eq_inn : cmpD .eq (.lst [.str sInn]) (.lst [.str sInn]) = some true := by kernel_rfl
theorem ne_six : cmpD .ne (.lst [.str sMark, .str sMark, .str sMark, .str sMark, .str sMark, .str sMark]) (.lst [.str sMark, .str sMark, .str sMark, .str sMark, .str sMark, .str sMark]) = some false := by kernel_rfl
theorem mul6 : binD .mul (.lst [.str sMark]) (.int 6) = some (.ow (.lst [.str sMark, .str sMark, .str sMark, .str sMark, .str sMark, .str sMark])) := by kernel_rfl
theorem le_i {i : Int} {s : S} {res : List Cell} (h : 0 ≤ i ∧ i < 2 ^ 63) : lenEnd s (.ok (.fz (.int i)) res) = .ok (.fz (.int i)) ⟨s.loc, res⟩ := by
  show (if 0 ≤ i ∧ i < 2 ^ 63 then _ else _) = _
  rw [if_pos h]
def kindB : List St := [.asg (.var 8) (.cmp .lt (.var 7) (.cst (.int 4))), .asg (.var 9) (.ife (.var 8) (.var 5) (.var 6)), .ite (.not_ (.call 7 [.call 8 [.var 2, .var 7, .var 5, .var 6, .cst (.int 9)], .lst [.var 9]])) [.ret (.cst (.bl false))] [], .ite (.and_ (.cmp .lt (.var 7) (.cst (.int 3))) (.not_ (.call 7 [.call 8 [.var 2, .var 7, .cst (.str sAnn), .var 6, .cst .non], .lst [.var 6]]))) [.ret (.cst (.bl false))] []]
theorem kind_lo {T : Tab} (K : LawK3 T) {k : Int} (hk : k ∈ [(0 : Int), 1, 2]) {x0 x3 x4 x8 x9 x10 : Option Sl} {w o : D} (hw : w ∈ odd11) (ho : o ∈ odd11) {fs : List (Nat × D)} {c0 c1 c3 : Cell} :
    exL T kindB (S.mk [x0, some (.fz (.res 1)), some (.fz (.res 2)), x3, x4, some (.fz w), some (.fz o), some (.fz (.int k)), x8, x9, x10] [c0, c1, .ins 0 fs, c3]) = .ok .nx (S.mk [x0, some (.fz (.res 1)), some (.fz (.res 2)), x3, x4, some (.fz w), some (.fz o), some (.fz (.int k)), some (.fz (.bl true)), some (.fz w), x10] [c0, c1, .ins 0 fs, c3]) := by
  have e1 := (K.refW.at (a := k) (by simp only [List.mem_cons, List.not_mem_nil, or_false] at hk ⊢; omega)).at hw o fs c0 c1 c3
  have e2 := K.alik.at hw [c0, c1, .ins 0 fs, c3]
  have e3 := (K.refA.at hk).at ho fs c0 c1 c3
  have e4 := K.alik.at ho [c0, c1, .ins 0 fs, c3]
  have l4 : decide (k < 4) = true := by
    simp only [List.mem_cons, List.not_mem_nil, or_false] at hk
    exact decide_eq_true (by omega)
  have l3 : decide (k < 3) = true := by
    simp only [List.mem_cons, List.not_mem_nil, or_false] at hk
    exact decide_eq_true (by omega)
  unfold kindB
  walk_at "go"
  iterate 10 (try simp only [l4, l3, e1, e2, e3, e4, Bool.not_true]); walk_at "go"
theorem kind_3 {T : Tab} (K : LawK3 T) {x0 x3 x4 x8 x9 x10 : Option Sl} {w o : D} (hw : w ∈ odd11) {fs : List (Nat × D)} {c0 c1 c3 : Cell} :
    exL T kindB (S.mk [x0, some (.fz (.res 1)), some (.fz (.res 2)), x3, x4, some (.fz w), some (.fz o), some (.fz (.int 3)), x8, x9, x10] [c0, c1, .ins 0 fs, c3]) = .ok .nx (S.mk [x0, some (.fz (.res 1)), some (.fz (.res 2)), x3, x4, some (.fz w), some (.fz o), some (.fz (.int 3)), some (.fz (.bl true)), some (.fz w), x10] [c0, c1, .ins 0 fs, c3]) := by
  have e1 := (K.refW.at (a := 3) (by simp)).at hw o fs c0 c1 c3
  have e2 := K.alik.at hw [c0, c1, .ins 0 fs, c3]
  unfold kindB
  walk_at "go"
  iterate 10 (try simp only [e1, e2, Bool.not_true]); walk_at "go"
theorem kind_hi {T : Tab} (K : LawK3 T) {k : Int} (hk : k ∈ [(4 : Int), 5]) {x0 x3 x4 x8 x9 x10 : Option Sl} {w o : D} (ho : o ∈ odd11) {fs : List (Nat × D)} {c0 c1 c3 : Cell} :
    exL T kindB (S.mk [x0, some (.fz (.res 1)), some (.fz (.res 2)), x3, x4, some (.fz w), some (.fz o), some (.fz (.int k)), x8, x9, x10] [c0, c1, .ins 0 fs, c3]) = .ok .nx (S.mk [x0, some (.fz (.res 1)), some (.fz (.res 2)), x3, x4, some (.fz w), some (.fz o), some (.fz (.int k)), some (.fz (.bl false)), some (.fz o), x10] [c0, c1, .ins 0 fs, c3]) := by
  have e1 := (K.refO.at hk).at ho w fs c0 c1 c3
  have e2 := K.alik.at ho [c0, c1, .ins 0 fs, c3]
  have l4 : decide (k < 4) = false := by
    simp only [List.mem_cons, List.not_mem_nil, or_false] at hk
    exact decide_eq_false (by omega)
  have l3 : decide (k < 3) = false := by
    simp only [List.mem_cons, List.not_mem_nil, or_false] at hk
    exact decide_eq_false (by omega)
  unfold kindB
  walk_at "go"
  iterate 10 (try simp only [l4, l3, e1, e2, Bool.not_true]); walk_at "go"
theorem kinds {T : Tab} (K : LawK3 T) {x0 x3 x4 x7 x8 x9 x10 : Option Sl} {w o : D} (hw : w ∈ odd11) (ho : o ∈ odd11) {fs : List (Nat × D)} {c0 c1 c3 : Cell} :
    forGo (.var 7) (fun s => exL T kindB s) (rngL 0 6) (S.mk [x0, some (.fz (.res 1)), some (.fz (.res 2)), x3, x4, some (.fz w), some (.fz o), x7, x8, x9, x10] [c0, c1, .ins 0 fs, c3]) = .ok .nx (S.mk [x0, some (.fz (.res 1)), some (.fz (.res 2)), x3, x4, some (.fz w), some (.fz o), some (.fz (.int 5)), some (.fz (.bl false)), some (.fz o), x10] [c0, c1, .ins 0 fs, c3]) := by
  rw [rng6]
  simp only [for_cons]
  walk_at "go"
  simp only [kind_lo K (k := 0) (by simp) hw ho]
  walk_at "go"
  simp only [for_cons]
  walk_at "go"
  simp only [kind_lo K (k := 1) (by simp) hw ho]
  walk_at "go"
  simp only [for_cons]
  walk_at "go"
  simp only [kind_lo K (k := 2) (by simp) hw ho]
  walk_at "go"
  simp only [for_cons]
  walk_at "go"
  simp only [kind_3 K hw]
  walk_at "go"
  simp only [for_cons]
  walk_at "go"
  simp only [kind_hi K (k := 4) (by simp) ho]
  walk_at "go"
  simp only [for_cons]
  walk_at "go"
  simp only [kind_hi K (k := 5) (by simp) ho]
  walk_at "go"
  simp only [for_nil]
def turnB : List St := [.par [(5, .call 6 [.var 1, .var 3]), (6, .call 6 [.var 1, .var 3])], .forI (.var 7) .rng1 (.cst (.int 6)) (.cst .non) kindB]
def OddY (y : Option Sl) : Prop := y = some (.ow (.lst odd11)) ∨ y = some (.fz (.lst odd11))
theorem turn_ok {T : Tab} (K : LawK3 T) {x0 x4 x5 x6 x7 x8 x9 x10 y : Option Sl} {fs : List (Nat × D)} {c3 : Cell} {res : List Cell} (hy : OddY y) (hg : Hg [.ins 0 fs, c3] res) :
    ∃ z5 z6 z7 z8 z9 res', Hg [.ins 0 fs, c3] res' ∧ exL T turnB (S.mk [x0, some (.fz (.res 1)), some (.fz (.res 2)), y, x4, x5, x6, x7, x8, x9, x10] res) = .ok .nx (S.mk [x0, some (.fz (.res 1)), some (.fz (.res 2)), some (.fz (.lst odd11)), x4, z5, z6, z7, z8, z9, x10] res') := by
  obtain ⟨w, r1, hg1, mw, e1⟩ := K.pick _ res odd11 hg (by decide) (by decide)
  obtain ⟨o, r2, hg2, mo, e2⟩ := K.pick _ r1 odd11 hg1 (by decide) (by decide)
  have hg3 := hg2
  obtain ⟨cs, st, ix, rfl, hl, hi⟩ := hg2
  have e3 := kinds K (x0 := x0) (x3 := some (.fz (.lst odd11))) (x4 := x4) (x7 := x7) (x8 := x8) (x9 := x9) (x10 := x10) mw mo (fs := fs) (c0 := .lst (cs.map D.int)) (c1 := .lst [.int st, .res 0, .int ix]) (c3 := c3)
  have hv : -4611686018427387904 ≤ (6 : Int) ∧ (6 : Int) < 4611686018427387904 := by decide
  refine ⟨some (.fz w), some (.fz o), some (.fz (.int 5)), some (.fz (.bl false)), some (.fz o), _, hg3, ?_⟩
  unfold turnB
  unfold Hs at e2 ⊢
  rcases hy with rfl | rfl
  · walk_at "go"
    iterate 8 (try simp only [e1, e2, if_pos hv, ss_nil, ss_cons, e3]); walk_at "go"
  · walk_at "go"
    iterate 8 (try simp only [e1, e2, if_pos hv, ss_nil, ss_cons, e3]); walk_at "go"
theorem turns {T : Tab} (K : LawK3 T) {x0 x10 : Option Sl} {fs : List (Nat × D)} {c3 : Cell} : ∀ (items : List D) {x4 x5 x6 x7 x8 x9 y : Option Sl} {res : List Cell}, OddY y → Hg [.ins 0 fs, c3] res → ∃ y3 z4 z5 z6 z7 z8 z9 r, Hg [.ins 0 fs, c3] r ∧
    forGo (.var 4) (fun s => exL T turnB s) items (S.mk [x0, some (.fz (.res 1)), some (.fz (.res 2)), y, x4, x5, x6, x7, x8, x9, x10] res) = .ok .nx (S.mk [x0, some (.fz (.res 1)), some (.fz (.res 2)), y3, z4, z5, z6, z7, z8, z9, x10] r)
  | [], x4, x5, x6, x7, x8, x9, y, res, _, hg => ⟨_, _, _, _, _, _, _, _, hg, rfl⟩
  | i :: items, x4, x5, x6, x7, x8, x9, y, res, hy, hg => by
    obtain ⟨z5, z6, z7, z8, z9, r, h1, h3⟩ := turn_ok K (x0 := x0) (x4 := some (.fz i)) (x5 := x5) (x6 := x6) (x7 := x7) (x8 := x8) (x9 := x9) (x10 := x10) hy hg
    obtain ⟨y3, a4, a5, a6, a7, a8, a9, r', h2, e⟩ := turns K (x0 := x0) (x10 := x10) items (x4 := some (.fz i)) (x5 := z5) (x6 := z6) (x7 := z7) (x8 := z8) (x9 := z9) (.inr rfl) h1
    refine ⟨y3, a4, a5, a6, a7, a8, a9, r', h2, ?_⟩
    rw [for_cons]
    walk_at "go"
    simp only [h3]
    walk_at "go"
    exact e
theorem rp10 : List.replicate 10 (none : Option Sl) = [none, none, none, none, none, none, none, none, none, none] := rfl
def cLaw3 : Code := ⟨11, 1, [.asg (.var 1) (.place (.call 1 [.var 0, .cst (.int 3)])), .asg (.var 2) (.new 0 [.call 3 [.call 4 [.var 1]]]), .expr (.meth (.var 2) 0 [.cst (.str sAnn), .cst (.str sInn), .cst (.int 1)]), .asg (.var 3) (.lst [.cst (.str ⟨#[]⟩), .cst (.str ⟨#[65,110,110]⟩), .cst (.str ⟨#[116,111,111,108,111,110,103,115]⟩), .cst (.str ⟨#[97,49]⟩), .cst .non, .cst (.int 5), .cst (.bl true), .lst [.cst (.str ⟨#[97,110,110]⟩)], .tup [.cst (.str ⟨#[97,110,110]⟩)], .cst (.str ⟨#[97,32,98]⟩), .cst (.str ⟨#[97,110,110,97,98,101,108,108]⟩)]), .forI (.var 4) .rng1 (.cst (.int 6)) (.cst .non) turnB, .ite (.cmp .ne (.lc [10] (.call 8 [.var 2, .cst (.int 0), .cst (.str sAnn), .cst (.str sInn), .var 10]) (.var 10) .seq (.lst [.cst (.int 0), .cst (.int 4), .cst .non, .cst (.bl true), .cst (.str ⟨#[49]⟩), .neg (.cst (.int 1))]) (.cst .non) none) (.bin .mul (.lst [.cst (.str sMark)]) (.cst (.int 6)))) [.ret (.cst (.bl false))] [], .ret (.and_ (.cmp .eq (.olen (.var 2) 3) (.cst (.int 1))) (.and_ (.cmp .eq (.meth (.var 2) 2 []) (.lst [.cst (.str sAnn)])) (.cmp .eq (.meth (.var 2) 1 []) (.lst [.cst (.str sInn)]))))]⟩
theorem law_ok {T T' : Tab} (K : LawK3 T) (hm : T.fn 1 = runCode T' cMix) (ns : List Int) (hn : ns.length ≤ 63) : ∃ res, runCode T cLaw3 [.scr ns] [] = .ok (.fz (.bl true)) res := by
  obtain ⟨st, e1⟩ := mix_ok T' ns 3
  rw [← hm] at e1
  have hg : Hg [] [.lst (ns.map D.int), .lst [.int st, .res 0, .int 0]] := ⟨ns, st, 0, rfl, Nat.lt_of_le_of_lt hn (by decide), Int.le_refl 0⟩
  obtain ⟨ws, r1, hg1, hr, e2⟩ := K.words _ _ hg
  obtain ⟨cs, st1, ix1, rfl, hl1, hi1⟩ := hg1
  unfold Hs at e2
  have e3 := K.built ws hr [.lst (cs.map D.int), .lst [.int st1, .res 0, .int ix1]]
  have e4 := K.board (ruleD 2 3 ws) (.lst (cs.map D.int)) (.lst [.int st1, .res 0, .int ix1])
  obtain ⟨kp, lg, eg⟩ := K.give ws hr
  have e5 := eg (.lst (cs.map D.int)) (.lst [.int st1, .res 0, .int ix1])
  have hg2 : Hg [bd (ruleD 2 3 ws), .lst [mom0, mom1 kp]] [.lst (cs.map D.int), .lst [.int st1, .res 0, .int ix1], bd (ruleD 2 3 ws), .lst [mom0, mom1 kp]] := ⟨cs, st1, ix1, rfl, hl1, hi1⟩
  obtain ⟨y3, z4, z5, z6, z7, z8, z9, r2, hg3, e6⟩ := turns K (x0 := some (.fz (.scr ns))) (x10 := none) (rngL 0 6) (x4 := none) (x5 := none) (x6 := none) (x7 := none) (x8 := none) (x9 := none) (y := some (.ow (.lst odd11))) (.inl rfl) hg2
  obtain ⟨cs2, st2, ix2, rfl, _, _⟩ := hg3
  unfold Hs at e6
  rw [show (Cell.ins 0 [(0, ruleD 2 3 ws), (1, D.res 3), (2, D.lst [])]) = bd (ruleD 2 3 ws) from rfl] at e6
  obtain ⟨a0, a1, a2, a3, a4, a5, a6, rfl, m0, _⟩ := hr
  have mk0 := (K.mark.at m0).at (a := .int 0) (by simp) a1 a2 a3 a4 a5 a6 (.lst (cs2.map D.int)) (.lst [.int st2, .res 0, .int ix2]) (.lst [mom0, mom1 kp])
  have mk1 := (K.mark.at m0).at (a := .int 4) (by simp) a1 a2 a3 a4 a5 a6 (.lst (cs2.map D.int)) (.lst [.int st2, .res 0, .int ix2]) (.lst [mom0, mom1 kp])
  have mk2 := (K.mark.at m0).at (a := .non) (by simp) a1 a2 a3 a4 a5 a6 (.lst (cs2.map D.int)) (.lst [.int st2, .res 0, .int ix2]) (.lst [mom0, mom1 kp])
  have mk3 := (K.mark.at m0).at (a := .bl true) (by simp) a1 a2 a3 a4 a5 a6 (.lst (cs2.map D.int)) (.lst [.int st2, .res 0, .int ix2]) (.lst [mom0, mom1 kp])
  have mk4 := (K.mark.at m0).at (a := .str ⟨#[49]⟩) (by simp) a1 a2 a3 a4 a5 a6 (.lst (cs2.map D.int)) (.lst [.int st2, .res 0, .int ix2]) (.lst [mom0, mom1 kp])
  have mk5 := (K.mark.at m0).at (a := .int (-1)) (by simp) a1 a2 a3 a4 a5 a6 (.lst (cs2.map D.int)) (.lst [.int st2, .res 0, .int ix2]) (.lst [mom0, mom1 kp])
  have e8 := K.len (ruleD 2 3 [a0, a1, a2, a3, a4, a5, a6]) kp (.lst (cs2.map D.int)) (.lst [.int st2, .res 0, .int ix2])
  have e9 := K.people (ruleD 2 3 [a0, a1, a2, a3, a4, a5, a6]) kp (.lst (cs2.map D.int)) (.lst [.int st2, .res 0, .int ix2])
  have e10 := K.things (ruleD 2 3 [a0, a1, a2, a3, a4, a5, a6]) kp (.lst (cs2.map D.int)) (.lst [.int st2, .res 0, .int ix2])
  have hv : -4611686018427387904 ≤ (6 : Int) ∧ (6 : Int) < 4611686018427387904 := by decide
  have h1 : (0 : Int) ≤ 1 ∧ (1 : Int) < 2 ^ 63 := by decide
  refine ⟨[.lst (cs2.map D.int), .lst [.int st2, .res 0, .int ix2], bd (ruleD 2 3 [a0, a1, a2, a3, a4, a5, a6]), .lst [mom0, mom1 kp]], ?_⟩
  unfold odd11 at e6
  unfold cLaw3
  walk_at "go"
  simp only [rp10]
  walk_at "go"
  iterate 30 (try simp only [e1, e2, e3, K.ini, K.val0, e4, nn_ok, cls_b, K.mg, e5, if_pos hv, e6, mk0, mk1, mk2, mk3, mk4, mk5, mul6, ne_six, K.ml, e8, le_i h1, eq_11, K.mp, e9, eq_ann, K.mt, e10, eq_inn]); walk_at "go"
theorem lawK3 (m : Nat) : LawK3 (tabOf pr (m + 16)) where
  words := by
    rw [fn_ (f := f4) rfl]
    exact words_f (pk := 6) (pa := 14) (nx := 15) (by rw [fn_ (f := f6) rfl]; exact pick_f (nx := 15) (by rw [fn_ (f := f15) rfl]; exact next_f _)) (fun res => by rw [fn_ (f := f14) rfl]; kernel_rfl) (by rw [fn_ (f := f15) rfl]; exact next_f _)
  pick := by
    rw [fn_ (f := f6) rfl]
    exact pick_f (nx := 15) (by rw [fn_ (f := f15) rfl]; exact next_f _)
  built := fun ws hr res => by
    rw [fn_ (f := f3) rfl]
    refine (made_f (xr := 6) (fp := 9) (c := 2) (fw := 3) (ini := 13) (by rw [tab_init]; rfl) rfl ?_ ws (rule_u hr) res).trans ?_
    · rw [fn_ (f := f13) rfl]
      refine init_f (gp := 0) (isw := 24) (by rw [tab_glob]; rfl) ?_ (by rw [tab_exf]; rfl) (by rw [tab_flds]; rfl)
      unfold IswF U parts7
      repeat' (first | exact AllP.nil | apply AllP.cons | (intro res; kernel_rfl))
    · rw [ok_first hr]
  ini := by rw [tab_init]; rfl
  val0 := rfl
  board := fun r c0 c1 => board0 (m + 12) r c0 c1
  mg := by rw [tab_meth]; rfl
  mt := by rw [tab_meth]; rfl
  mp := by rw [tab_meth]; rfl
  ml := by rw [tab_meth]; rfl
  give := fun ws hr => by
    obtain ⟨a0, a1, a2, a3, a4, a5, a6, rfl, m0, m1, m2, m3, m4, m5, m6⟩ := hr
    have h := (((give0 m).at m0).at m1).at m2
    have h3 : ∃ l, (a3, l) ∈ [(D.int 1, [D.str sInn]), (D.int 2, [])] := by
      simp only [List.mem_cons, List.not_mem_nil, or_false] at m3
      rcases m3 with rfl | rfl
      · exact ⟨[.str sInn], by simp⟩
      · exact ⟨[], by simp⟩
    have h6 : ∃ k, (a6, k) ∈ [(wAnew, D.non), (wShown, D.tup [.int 1, .int 1])] := by
      simp only [List.mem_cons, List.not_mem_nil, or_false] at m6
      rcases m6 with rfl | rfl
      · exact ⟨.non, by simp⟩
      · exact ⟨.tup [.int 1, .int 1], by simp⟩
    obtain ⟨l, hl⟩ := h3
    obtain ⟨k, hk⟩ := h6
    exact ⟨k, l, fun c0 c1 => (h.at hl).at hk a4 a5 c0 c1⟩
  refW := refW (m + 8)
  refO := refO (m + 8)
  refA := refA (m + 8)
  alik := alikO (m + 8)
  mark := markF (m + 8)
  len := lenF (m + 8)
  people := peopleF (m + 8)
  things := thingsF (m + 8)
theorem plain : Plain pr 30 0 := fun ns hn => by
  obtain ⟨res, e⟩ := law_ok (lawK3 13) (T' := tabOf pr 28) (fn_ (f := f1) rfl) ns hn
  refine ⟨res, ?_⟩
  rw [fn_ (f := f0) rfl]
  exact e
end PmK03
namespace PmK03H
open PySem PySem.W PySem.Calls PyProof.Rows
abbrev R : OpenRow := OpenLaw.row PySem.Challenge.rw_meanshown_k03_names_refused
abbrev qv : Program := view R.prog [52]
def names0 : List PySem.Str := ["_wall", "ShowError", "InvalidRule", "BadName", "BadMark", "Struck", "NoMark", "PARTS", "COUNTED", "is_integer", "is_word", "Rule", "UNITS", "common_part", "number_of", "cut_down", "weight_of", "mean_of", "number_for", "bounded", "worked_on", "STRUCK", "Standing", "counted_rows", "shown_by", "due_by", "kept_by", "mark_of", "without", "marked"]
def names1 : List PySem.Str := ["taken_back", "struck_one", "LETTERS", "MOST_LETTERS", "check_name", "Moment", "Board", "_law_mix", "_law_next", "_law_alike", "_law_pick", "_law_parts", "_law_words", "_law_built", "_law_ask", "_law_refused"]
def names : List PySem.Str := names0 ++ names1
abbrev hk : Hook := Pm.hookP 6 PmK03.pr R.prog
def ob (s : SharedT) : Pm.AlP := Pm.obsP 6 PmK03.pr R.prog (HandSHeadRun.getT s)
theorem ob_eq (s : SharedT) : ob s = hk.obs s.abs := Pm.obsP_eq (HandSHeadRun.getT_eq s)
theorem runA (w : World) : HandSHeadRun.RunEq R qv hk ob 20000 names (w.withFollow "special-get-raises" false) := fun os => by kernel_rfl
theorem runB (w : World) : HandSHeadRun.RunEq R qv hk ob 20000 names (w.withFollow "special-get-raises" true) := fun os => by kernel_rfl
theorem run (w : World) : HandSHeadRun.RunEq R qv hk ob 20000 names w :=
  byRow2 "special-get-raises" (P := fun w => HandSHeadRun.RunEq R qv hk ob 20000 names w) runA runB w
end PmK03H
open PySem PySem.W PySem.Calls PyProof.Rows
theorem PySem.Challenge.cw_meanshown_k03_names_refused_holds : PySem.Challenge.rw_meanshown_k03_names_refused.Holds := by
  w_on; o_law
  refine HandSHeadRun.head_any (r := OpenLaw.row PySem.Challenge.rw_meanshown_k03_names_refused) (q := PmK03H.qv) (H := PmK03H.hk) (ob := PmK03H.ob) (M := 20000) (loose := PmK03H.names) (d := HandSHeadRun.topDef (OpenLaw.row PySem.Challenge.rw_meanshown_k03_names_refused).prog 52) (kwd := []) PmK03H.ob_eq (by kernel_rfl) (fun s => by kernel_rfl) PmK03H.run (by kernel_rfl) (by kernel_rfl) (by kernel_rfl) (by rfl) (by first | assumption | decide +kernel) (by decide +kernel) ⟨rfl, rfl, rfl, rfl, rfl, by decide +kernel⟩ ?hw ?hc
  case hw => w_witness2
  case hc =>
    refine Pm.walk_w (l := PySem.Challenge.rw_meanshown_k03_names_refused) (m := 63) (k := 2 * 30) (y := "_law_script") rfl (by decide) (by kernel_rfl) ⟨rfl, by decide, by decide⟩ ?F
    case F =>
      intro w mg fa h Y G hmg0
      obtain ⟨K, KX, c⟩ := Y
      have hmg : mg ("law" : PySem.Str) = some (.ref fa) := by
        have e : (HandSHeadRun.topDef (OpenLaw.row PySem.Challenge.rw_meanshown_k03_names_refused).prog 52).name = ("law" : PySem.Str) := by kernel_rfl
        rw [← e]
        exact hmg0
      obtain ⟨fd, sp, hb, hsp, hF⟩ := Pm.ends (p := PmK03.pr) (prog := (PySem.Challenge.rw_meanshown_k03_names_refused).prog) (w := w) (n := 30) (g := 0) (f := PmK03.f0) rfl rfl (by decide) PmK03.plain c KX G (by decide +kernel) hmg
      exact ⟨K, fd, sp, KX, hb, hsp, hF⟩
