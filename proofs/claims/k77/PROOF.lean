import PyProof.Rows.All
import Wide.All
import OpenK.AllK
import Wide.FinOn
import HandS.HeadEnd
import HandS.HeadHook4
import HandS.Head2
import KE.KExcPX
import HandS.Words
import HandS.ForMost
import HandS.ForExc
import KE.KDictKeyed
import KE.KDictWalk
import HandS.Lambda
import HandS.TupAny
import HandS.Wide
import HandS.TryMany
import HandS.Star
import HandS.Zip
import HandS.Property
import HandS.Codes
import HandS.IsInst
import HandS.RaiseMore
import HandS.TupLen
import HandS.Deep
import HandS.CallSlots
import KE.KxIndex
import HandS.OwnIter
import HandS.More
import HandS.SortInts
import HandS.Sort
import HandS.Defaults
import HandS.ExcOwn
import HandS.WordsExc
import HandS.CallLocal
import HandS.ClsMeth
import HandS.FStr
import HandS.ExcInit
import KE.GoesEnum
import KE.GoesZip
import KE.GoesMore
import KE.KDictZip
import HandS.HeadHook1
import HandS.Style
import KE.KDictDisplayH
import HandS.HeadWalk
import PySem.Challenge.RW_fromparts_k77_errors_of_written_values
/-! # Ev: an executable evaluator for the Python subset of the programs. Pure data (PV), a small heap of mutable objects (Hh).
Nothing here speaks of the model: soundness is another text. -/
set_option autoImplicit false
namespace Ev

/-- built-in types that are named -/
inductive Ty where
  | int | str | bool | tuple | list | dict
  deriving DecidableEq, Repr

/-- pure values: they never change -/
inductive PV where
  | non
  | bl (b : Bool)
  | int (i : Int)
  | str (s : List Nat)
  | tup (xs : List PV)
  | lst (xs : List PV)
  | dic (kvs : List (PV × PV))
  | set (xs : List PV)
  | ins (c : Nat) (fs : List PV)
  | fn (f : Nat)
  | cl (c : Nat)
  | ty (t : Ty)
  | lam (l : Nat) (env : List PV)
  deriving Repr

inductive Val where
  | p (v : PV)
  | r (i : Nat)
  deriving Repr

inductive MO where
  | lst (xs : List Val)
  | dic (kvs : List (PV × Val))
  | ins (c : Nat) (fs : List (Nat × Val))
  | clo (l : Nat) (env : List Val)
  /-- a list, a dict that is gone through: read, not written -/
  | lck (o : MO)
  deriving Repr

abbrev Hh := List (Option MO)
abbrev Sg := List (Option Val)

structure Exc where
  c : Nat
  fs : List (Nat × PV)
  deriving Repr

inductive Res (α : Type) where
  | ok (a : α) (h : Hh)
  | exc (e : Exc) (h : Hh)
  | bad (w : Nat)
  deriving Repr
namespace Res
@[inline] def bind {α β : Type} (r : Res α) (f : α → Hh → Res β) : Res β := match r with
  | .ok a h => f a h
  | .exc e h => .exc e h
  | .bad w => .bad w
end Res

inductive SR where
  | nx (σ : Sg) (h : Hh)
  | rt (v : Val) (h : Hh)
  | bk (σ : Sg) (h : Hh)
  | ct (σ : Sg) (h : Hh)
  | exc (e : Exc) (σ : Sg) (h : Hh)
  | bad (w : Nat)

inductive BOp where
  | add | sub | mul | fdiv | mod | pow
  deriving DecidableEq, Repr
inductive COp where
  | eq | ne | lt | le | gt | ge | inn | nin
  deriving DecidableEq, Repr
/-- built-in functions and classes called by name -/
inductive BF where
  | len | all | any | tuple | list | listM | sorted | sortedLen | set | isi (t : Ty) | isic (c : Nat) | int | str | repr | max2 | min2 | max1 | maxd | min1
  | range | zip | enum | dict | dictM | sum | abs | iter
  deriving DecidableEq, Repr
/-- methods of built-in types -/
inductive BM where
  | append | extend | pop | pop1 | get1 | get2 | items | values | keys | setdefault | dpop2 | join | split | partition | index | count
  deriving DecidableEq, Repr

inductive CE where
  | cst (v : PV)
  | var (i : Nat)
  | bin (o : BOp) (a b : CE)
  | binL (o : BOp) (a b : CE)
  | neg (a : CE)
  | cmp (o : COp) (a b : CE)
  | chn (o p : COp) (a b c : CE)
  | isN (n : Bool) (a : CE)
  | isB (v : Bool) (a : CE)
  | and (a b : CE)
  | or (a b : CE)
  | not (a : CE)
  | ite (t a b : CE)
  | ix (a i : CE)
  | sl (a lo hi : CE)
  | rv (a : CE)
  | tup (as : CE)
  | lst (m : Bool) (as : CE)
  | dic (m : Bool) (as : CE)
  | lc (m : Bool) (own : List Nat) (cl : CE)
  | dc (m : Bool) (own : List Nat) (cl : CE)
  | call (f : Nat) (as : CE)
  | callv (f : CE) (as : CE)
  | new (c : Nat) (as : CE)
  | meth (o : CE) (m : Nat) (as : CE)
  | cm (c m : Nat) (as : CE)
  | fld (o : CE) (f : Nat)
  | bf (b : BF) (as : CE)
  | bm (b : BM) (o : CE) (as : CE)
  | fs (as : CE)
  | lam (m : Bool) (l : Nat) (as : CE)
  | nextg (own : List Nat) (cl : CE) (d : CE)
  | fz (a : CE)
  | met (e : CE)
  | nil
  | cons (a r : CE)
  | star (a r : CE)
  | kv (k v r : CE)
  | cend (e : CE)
  | cendkv (k v : CE)
  | cls (tg : List Nat) (one : Bool) (it ifs r : CE)
  deriving Repr

/-- targets: a chain -/
inductive TG where
  | nil
  | nm (i : Nat) (r : TG)
  | ix (o i : CE) (r : TG)
  | fld (o : CE) (f : Nat) (r : TG)
  deriving Repr

inductive CS where
  | skip
  | seq (a b : CS)
  | asg (t : TG) (e : CE)
  | unp (t : TG) (e : CE)
  | par (t : TG) (as : CE)
  | aug (i : Nat) (o : BOp) (e : CE)
  | augix (o i : CE) (p : BOp) (e : CE)
  | augf (o : CE) (f : Nat) (p : BOp) (e : CE)
  | ex (e : CE)
  | ret (e : CE)
  | ifs (t : CE) (a b : CS)
  | for_ (tg : List Nat) (one : Bool) (it : CE) (b : CS)
  | whl (t : CE) (b : CS)
  | rais (c : Nat) (as : CE)
  | try_ (b hs : CS)
  | hnil
  | hcons (c : Nat) (v : Option Nat) (b r : CS)
  | brk
  | cnt
  deriving Repr

/-- a def: parameters, number of slots, defaults of the last parameters, *rest, whether it keeps objects (never run apart), its body -/
structure Def where
  np : Nat
  n : Nat
  dfl : List PV := []
  star : Bool := false
  keep : Bool := false
  body : CS
/-- a class: fields in order, base classes (exceptions), methods by name, properties by name, class methods by name, whether it is frozen once made; the dunder methods -/
structure Cls where
  fields : List Nat
  bases : List Nat := []
  meths : List (Nat × Nat) := []
  props : List (Nat × Nat) := []
  cms : List (Nat × Nat) := []
  init : Option Nat := none
  imm : Bool := true
  xfs : List Nat := []
  eq : Option Nat := none
  str : Option Nat := none
  len : Option Nat := none
  get : Option Nat := none
  has : Option Nat := none
  itr : Option Nat := none
  ops : List (BOp × Nat) := []
  /-- its instances stand as plain objects -/
  ins : Bool := false
  /-- it is a class of exceptions -/
  xc : Bool := false
structure Prog where
  defs : List Def
  clss : List Cls
  lams : List (Nat × CE)
  /-- the words of the law's own try: by class, whether the error's first field follows -/
  met : List (Nat × List Nat × Bool) := []
  metF : List Nat := []

/-! ### values -/
def PV.num? : PV → Option Int
  | .bl b => some (if b then 1 else 0)
  | .int i => some i
  | _ => none
def PV.isData : PV → Bool
  | .non | .bl _ | .int _ | .str _ | .tup _ | .lst _ => true
  | _ => false
mutual
/-- == of data -/
def eqP : PV → PV → Option Bool
  | .non, b => match b with | .non => some true | .ins .. | .set _ | .fn _ | .cl _ | .ty _ | .lam .. => none | _ => some false
  | .bl a, b => match b with | .bl b => some (a == b) | .int j => some ((if a then 1 else 0) == j) | .ins .. | .set _ | .fn _ | .cl _ | .ty _ | .lam .. => none | _ => some false
  | .int a, b => match b with | .bl b => some (a == (if b then 1 else 0)) | .int j => some (a == j) | .ins .. | .set _ | .fn _ | .cl _ | .ty _ | .lam .. => none | _ => some false
  | .str a, b => match b with | .str b => some (a == b) | .ins .. | .set _ | .fn _ | .cl _ | .ty _ | .lam .. => none | _ => some false
  | .tup a, b => match b with | .tup b => eqPs a b | .ins .. | .set _ | .fn _ | .cl _ | .ty _ | .lam .. => none | _ => some false
  | .lst a, b => match b with | .lst b => eqPs a b | .ins .. | .set _ | .fn _ | .cl _ | .ty _ | .lam .. => none | _ => some false
  | _, _ => none
def eqPs : List PV → List PV → Option Bool
  | [], [] => some true
  | [], _ :: _ => some false
  | _ :: _, [] => some false
  | a :: as, b :: bs => match eqP a b with
    | some true => eqPs as bs
    | some false => some false
    | none => none
end
def flatP : PV → Bool
  | .non | .bl _ | .int _ | .str _ => true
  | _ => false
def okS (s : List Nat) : Bool := s.all fun c => Nat.blt c 1114112
mutual
/-- data of a depth that == can go through -/
def shp : PV → Nat → Bool
  | .non, _ | .bl _, _ | .int _, _ => true
  | .str s, _ => okS s
  | .tup xs, n + 1 => shps xs n
  | .lst xs, n + 1 => shps xs n
  | _, _ => false
def shps : List PV → Nat → Bool
  | [], _ => true
  | x :: xs, n => shp x n && shps xs n
end
/-- == where the model's own rules reach -/
def eqS (a b : PV) : Option Bool := match a, b with
  | .str s, .str t => some (s == t)
  | .int i, .int j => some (i == j)
  | .bl i, .bl j => some (i == j)
  | a, b => match shp a 60 && shp b 60 with
    | true => eqP a b
    | false => none
def memP (x : PV) : List PV → Option Bool
  | [] => some false
  | y :: ys => match eqP y x with
    | some true => some true
    | some false => memP x ys
    | none => none
def inS (a : PV) (xs : List PV) : Option Bool := match flatP a && xs.all flatP with
  | true => memP a xs
  | false => match shp a 60 && shps xs 59 with
    | true => memP a xs
    | false => none
def ltN : List Nat → List Nat → Bool
  | [], [] => false
  | [], _ :: _ => true
  | _ :: _, [] => false
  | a :: as, b :: bs => if a == b then ltN as bs else Nat.blt a b
mutual
/-- < of data -/
def ltP : PV → PV → Option Bool
  | .int a, b => match b with | .int j => some (decide (a < j)) | .bl b => some (decide (a < (if b then 1 else 0))) | _ => none
  | .bl a, b => match b with | .int j => some (decide ((if a then 1 else 0) < j)) | .bl b => some (!a && b) | _ => none
  | .str a, b => match b with | .str b => some (ltN a b) | _ => none
  | .tup a, b => match b with | .tup b => ltPs a b | _ => none
  | _, _ => none
def ltPs : List PV → List PV → Option Bool
  | [], [] => some false
  | [], _ :: _ => some true
  | _ :: _, [] => some false
  | a :: as, b :: bs => match eqP a b with
    | some true => ltPs as bs
    | some false => ltP a b
    | none => none
end
/-- x is put behind all that are not greater (the list is ascending, built from the right) -/
def insP (x : PV) : List PV → Option (List PV)
  | [] => some [x]
  | y :: ys => match ltP y x with
    | some true => match insP x ys with
      | some r => some (y :: r)
      | none => none
    | some false => some (x :: y :: ys)
    | none => none
def sortP : List PV → Option (List PV)
  | [] => some []
  | x :: xs => match sortP xs with
    | some r => insP x r
    | none => none
def intsP : List PV → Option (List Int)
  | [] => some []
  | .int i :: xs => (intsP xs).map (i :: ·)
  | _ :: _ => none
def texts : List PV → Option (List (List Nat))
  | [] => some []
  | .str s :: xs => (texts xs).map (s :: ·)
  | _ :: _ => none
def okLt {α : Type} (n : Nat) (xs : List α) : Bool := Nat.blt xs.length n
/-- intsP, or fewer than 64 texts -/
def sortO (xs : List PV) : Option (List PV) := match intsP xs with
  | some _ => sortP xs
  | none => match texts xs with
    | some _ => if okLt 64 xs then sortP xs else none
    | none => none
mutual
/-- keys that may stand in a set, a dict -/
def keyN : PV → Nat → Bool
  | .non, _ | .bl _, _ | .int _, _ | .str _, _ => true
  | .tup xs, n + 1 => keyNs xs n
  | _, _ => false
def keyNs : List PV → Nat → Bool
  | [], _ => true
  | x :: xs, n => keyN x n && keyNs xs n
end
def isTup : PV → Bool
  | .tup _ => true
  | _ => false
/-- a key that fits to those of the dict -/
def keyK {β : Type} (k : PV) (kvs : List (PV × β)) : Bool := (match k with
  | .int _ | .str _ => true
  | .tup xs => keyNs xs 7
  | _ => false) && kvs.all fun q => isTup q.1 == isTup k
def dedup : List PV → List PV → Option (List PV)
  | [], acc => some acc.reverse
  | x :: xs, acc => if keyN x 8 then match memP x acc with
      | some true => dedup xs acc
      | some false => dedup xs (x :: acc)
      | none => none
    else none
def lookP {β : Type} (k : PV) : List (PV × β) → Option (Option β)
  | [] => some none
  | (x, v) :: r => match eqP x k with
    | some true => some (some v)
    | some false => lookP k r
    | none => none
def putP {β : Type} (k : PV) (v : β) : List (PV × β) → Option (List (PV × β))
  | [] => some [(k, v)]
  | (x, u) :: r => match eqP x k with
    | some true => match lookP k r with
      | some none => some ((x, v) :: r)
      | _ => none
    | some false => match putP k v r with
      | some r => some ((x, u) :: r)
      | none => none
    | none => none
def dropP {β : Type} (k : PV) : List (PV × β) → Option (List (PV × β))
  | [] => some []
  | (x, u) :: r => match eqP x k with
    | some true => some r
    | some false => match dropP k r with
      | some r => some ((x, u) :: r)
      | none => none
    | none => none

def pures : List Val → Option (List PV)
  | [] => some []
  | .p v :: r => match pures r with
    | some vs => some (v :: vs)
    | none => none
  | .r _ :: _ => none
def pureKvs : List (PV × Val) → Option (List (PV × PV))
  | [] => some []
  | (k, .p v) :: r => match pureKvs r with
    | some vs => some ((k, v) :: vs)
    | none => none
  | (_, .r _) :: _ => none
def liftKvs : List (PV × PV) → List (PV × Val)
  | [] => []
  | (k, v) :: r => (k, .p v) :: liftKvs r
def liftP : List PV → List Val
  | [] => []
  | v :: r => .p v :: liftP r
/-- what stands there -/
def getR (h : Hh) (i : Nat) : Option MO := match h[i]? with
  | some o => o
  | none => none
/-- .. to be read -/
def getO (h : Hh) (i : Nat) : Option MO := match getR h i with
  | some (.lck o) => some o
  | o => o
/-- .. to be written -/
def getW (h : Hh) (i : Nat) : Option MO := match getR h i with
  | some (.lck _) => none
  | o => o
def vwL (f : Val → Option PV) : List Val → Option (List PV)
  | [] => some []
  | v :: r => match f v with
    | some x => match vwL f r with
      | some xs => some (x :: xs)
      | none => none
    | none => none
def vwK (f : Val → Option PV) : List (PV × Val) → Option (List (PV × PV))
  | [] => some []
  | (k, v) :: r => match f v with
    | some x => match vwK f r with
      | some xs => some ((k, x) :: xs)
      | none => none
    | none => none
/-- a value as it stands now, to be read -/
def vwN (h : Hh) : Nat → Val → Option PV
  | _, .p v => some v
  | 0, .r _ => none
  | n + 1, .r i => match getO h i with
    | some (.lst xs) => match vwL (vwN h n) xs with
      | some vs => some (.lst vs)
      | none => none
    | some (.dic kvs) => match vwK (vwN h n) kvs with
      | some vs => some (.dic vs)
      | none => none
    | _ => none
/-- down to what is nested, for == alone -/
def vwD (h : Hh) (v : Val) : Option PV := vwN h 3 v
/-- a value whose items are pure -/
def vw (h : Hh) : Val → Option PV
  | .p v => some v
  | .r i => match getO h i with
    | some (.lst xs) => match pures xs with
      | some vs => some (.lst vs)
      | none => none
    | some (.dic kvs) => match pureKvs kvs with
      | some vs => some (.dic vs)
      | none => none
    | _ => none
def vws (h : Hh) : List Val → Option (List PV)
  | [] => some []
  | v :: r => match vw h v with
    | some x => match vws h r with
      | some xs => some (x :: xs)
      | none => none
    | none => none
/-- frozen for good: the object leaves the heap; what it holds is pure -/
def frz (h : Hh) (v : Val) : Option (PV × Hh) := match v with
  | .p v => some (v, h)
  | .r i => match getW h i with
    | some (.lst xs) => match pures xs with
      | some vs => some (.lst vs, h.set i none)
      | none => none
    | some (.dic kvs) => match pureKvs kvs with
      | some vs => some (.dic vs, h.set i none)
      | none => none
    | _ => none

def sizeMax : Nat := 16777216
def fits (n : Nat) : Bool := Nat.ble n sizeMax
def okLen {α : Type} (xs : List α) : Bool := Nat.ble xs.length sizeMax

/-! ### numbers and texts -/
def digitsOf (n : Nat) : List Nat := go (n.log2 + 2) n []
where
  go : Nat → Nat → List Nat → List Nat
    | 0, _, acc => acc
    | k + 1, n, acc => if n < 10 then (48 + n) :: acc else go k (n / 10) ((48 + n % 10) :: acc)
def intText (i : Int) : List Nat := match i with
  | .ofNat n => digitsOf n
  | .negSucc n => 45 :: digitsOf (n + 1)
/-- the text of a number, not negative -/
def numT (i : Int) : Option (List Nat) := match i with
  | .ofNat n => if Nat.blt n.log2 1920 then some (digitsOf n) else none
  | .negSucc _ => none
def txNone : List Nat := [78, 111, 110, 101]
def txTrue : List Nat := [84, 114, 117, 101]
def txFalse : List Nat := [70, 97, 108, 115, 101]
def natOf (s : List Nat) : Option Nat := match s with
  | [] => none
  | _ => s.foldl (fun a c => match a with
    | some n => if 48 ≤ c && c ≤ 57 then some (n * 10 + (c - 48)) else none
    | none => none) (some 0)
def isPre : List Nat → List Nat → Bool
  | [], _ => true
  | _ :: _, [] => false
  | a :: as, b :: bs => a == b && isPre as bs
/-- split at a text that is not empty -/
def splitN (sep : List Nat) : Nat → List Nat → List Nat → List (List Nat)
  | 0, cur, s => [cur.reverse ++ s]
  | n + 1, cur, s => match s with
    | [] => [cur.reverse]
    | c :: r => if isPre sep s then cur.reverse :: splitN sep n [] (s.drop sep.length) else splitN sep n (c :: cur) r
def split (sep s : List Nat) : List (List Nat) := splitN sep (s.length + 1) [] s
def partN (sep : List Nat) : List Nat → List Nat → Option (List Nat × List Nat)
  | _, [] => none
  | cur, c :: r => if isPre sep (c :: r) then some (cur.reverse, (c :: r).drop sep.length) else partN sep (c :: cur) r
def part (sep s : List Nat) : List PV := match partN sep [] s with
  | some (a, b) => [.str a, .str sep, .str b]
  | none => [.str s, .str [], .str []]
def inText (t s : List Nat) : Bool := match s with
  | [] => t.isEmpty
  | _ :: r => isPre t s || inText t r
def joinT (sep : List Nat) : List (List Nat) → List Nat
  | [] => []
  | [p] => p
  | p :: q :: r => p ++ (sep ++ joinT sep (q :: r))
def joinOk (sep : List Nat) (ys : List (List Nat)) : Bool := Nat.ble ((ys.map (·.length)).sum + ys.length * sep.length) sizeMax

/-- the place that an index tells -/
def place (n : Nat) (i : Int) : Option Nat := match i with
  | .ofNat k => if Nat.blt k n then some k else none
  | .negSucc k => if Nat.blt k n then some (n - (k + 1)) else none
def clampI (n : Nat) (i : Int) : Nat := match i with
  | .ofNat k => if Nat.ble k n then k else n
  | .negSucc k => if Nat.blt k n then n - (k + 1) else 0
def loI (n : Nat) : Option Int → Nat
  | none => 0
  | some i => clampI n i
def hiI (n : Nat) : Option Int → Nat
  | none => n
  | some i => clampI n i
def cutL {α : Type} (xs : List α) (lo hi : Option Int) : List α := (xs.drop (loI xs.length lo)).take (hiI xs.length hi - loI xs.length lo)

def chars : List Nat → List PV
  | [] => []
  | c :: r => .str [c] :: chars r
def keysP {β : Type} : List (PV × β) → List PV
  | [] => []
  | (k, _) :: r => k :: keysP r
def valsP : List (PV × PV) → List PV
  | [] => []
  | (_, v) :: r => v :: valsP r
def itemsP : List (PV × PV) → List PV
  | [] => []
  | (k, v) :: r => .tup [k, v] :: itemsP r
/-- what a for goes through -/
def itemsOf : PV → Option (List PV)
  | .lst xs | .tup xs => some xs
  | .str s => some (chars s)
  | .dic kvs => some (keysP kvs)
  | _ => none
def starOf : PV → Option (List PV)
  | .lst xs | .tup xs => some xs
  | _ => none
def enumP : Nat → List PV → List PV
  | _, [] => []
  | i, x :: xs => .tup [.int i, x] :: enumP (i + 1) xs
def zipP : List PV → List PV → List PV
  | x :: xs, y :: ys => .tup [x, y] :: zipP xs ys
  | _, _ => []
def rangeP (lo : Int) (step : Int) : Nat → List PV
  | 0 => []
  | n + 1 => .int lo :: rangeP (lo + step) step n
def rngOk (i : Int) : Bool := decide (-(2 ^ 62) ≤ i) && decide (i < 2 ^ 62)
def bools : List PV → Option (List Bool)
  | [] => some []
  | .bl b :: r => (bools r).map (b :: ·)
  | _ => none
def allB (xs : List PV) : Option Bool := (bools xs).map fun bs => bs.all id
def anyB (xs : List PV) : Option Bool := (bools xs).map fun bs => bs.any id
def maxP : PV → List PV → Option PV
  | m, [] => some m
  | m, x :: xs => match ltP m x with
    | some true => maxP x xs
    | some false => maxP m xs
    | none => none
def maxI : Int → List PV → Option Int
  | m, [] => some m
  | m, .int i :: xs => maxI (if i > m then i else m) xs
  | _, _ => none
def minP : PV → List PV → Option PV
  | m, [] => some m
  | m, x :: xs => match ltP x m with
    | some true => minP x xs
    | some false => minP m xs
    | none => none
def sumP : List PV → Option Int
  | [] => some 0
  | x :: r => match x with
    | .int i => match sumP r with
      | some j => some (i + j)
      | none => none
    | _ => none
def pairsP : List PV → List (PV × PV) → Option (List (PV × PV))
  | [], acc => some acc
  | .tup [k, v] :: r, acc => if keyK k acc then match putP k v acc with
      | some acc => pairsP r acc
      | none => none
    else none
  | _, _ => none
def tyOf : PV → Ty → Bool
  | .bl _, .int => true
  | .bl _, .bool => true
  | .int _, .int => true
  | .str _, .str => true
  | .tup _, .tuple => true
  | .lst _, .list => true
  | .dic _, .dict => true
  | _, _ => false
def quoted (s : List Nat) : List Nat := 39 :: s ++ [39]
def reprP : PV → Option (List Nat)
  | .non => some txNone
  | .int i => numT i
  | _ => none
/-- built-in functions on data -/
def bfun : BF → List PV → Option PV
  | .len, [x] => match x with
    | .lst xs | .tup xs => some (.int xs.length)
    | .lam _ xs => some (.int xs.length)
    | .str s => if fits s.length then some (.int s.length) else none
    | .dic kvs => some (.int kvs.length)
    | _ => none
  | .all, [.lst xs] => (allB xs).map .bl
  | .any, [.lst xs] => (anyB xs).map .bl
  | .tuple, [x] => match x with
    | .lst xs | .tup xs => some (.tup xs)
    | _ => none
  | .list, [x] => match x with
    | .lst xs | .tup xs => some (.lst xs)
    | .dic kvs => some (.lst (keysP kvs))
    | _ => none
  | .sorted, [x] => match x with
    | .lst xs => if okLt 2 xs then some (.lst xs) else (sortO xs).map .lst
    | .dic kvs => if okLt 64 kvs then (sortO (keysP kvs)).map .lst else none
    | _ => none
  | .set, [x] => match x with
    | .lst xs | .tup xs => (dedup xs []).map .set
    | _ => none
  | .isi t, [x] => match x with
    | .ins .. | .set _ | .lam .. | .fn _ | .cl _ | .ty _ => none
    | _ => some (.bl (tyOf x t))
  | .isic c, [x] => match x with
    | .ins .. | .set _ | .lam .. | .fn _ | .cl _ | .ty _ => none
    | _ => some (.bl false)
  | .int, [x] => match x with
    | .int i => some (.int i)
    | .bl b => some (.int (if b then 1 else 0))
    | .str s => if okLt 641 s then (match natOf s with | some n => some (.int n) | none => none) else none
    | _ => none
  | .str, [x] => match x with
    | .str s => some (.str s)
    | .int i => (numT i).map .str
    | _ => none
  | .repr, [x] => (reprP x).map .str
  | .max2, [.int i, .int j] => some (.int (if j > i then j else i))
  | .min2, [.int i, .int j] => some (.int (if j < i then j else i))
  | .max1, [.lst (.int i :: xs)] => (maxI i xs).map .int
  | .maxd, [x, d] => match itemsOf x with | some (y :: ys) => maxP y ys | some [] => some d | none => none
  | .min1, [x] => match itemsOf x with | some (y :: ys) => minP y ys | _ => none
  | .range, [.int n] => if rngOk n then some (.lst (rangeP 0 1 n.toNat)) else none
  | .range, [.int a, .int b] => if rngOk a && rngOk b then some (.lst (rangeP a 1 (b - a).toNat)) else none
  | .range, [.int a, .int b, .int s] => if rngOk a && rngOk b && decide (s = -1) then some (.lst (rangeP a (-1) (a - b).toNat)) else none
  | .zip, [.lst xs, .lst ys] => some (.lst (zipP xs ys))
  | .zip, [.tup xs, .tup ys] => some (.lst (zipP xs ys))
  | .zip, [.lst xs, .tup ys] => some (.lst (zipP xs ys))
  | .enum, [.lst xs] => some (.lst (enumP 0 xs))
  | .enum, [.tup xs] => some (.lst (enumP 0 xs))
  | .dict, [x] => match x with
    | .dic kvs => some (.dic kvs)
    | .lst ps | .tup ps => (pairsP ps []).map .dic
    | _ => none
  | .dictM, [x] => match x with
    | .dic kvs => some (.dic kvs)
    | .lst ps | .tup ps => (pairsP ps []).map .dic
    | _ => none
  | .sum, [x] => match itemsOf x with | some xs => (sumP xs).map .int | none => none
  | .abs, [.int i] => some (.int i.natAbs)
  | .iter, [x] => some x
  | _, _ => none
def bmeth : BM → PV → List PV → Option PV
  | .get1, .dic kvs, [k] => if keyK k kvs then match lookP k kvs with
      | some (some v) => some v
      | some none => some .non
      | none => none
    else none
  | .get2, .dic kvs, [k, d] => if keyK k kvs then match lookP k kvs with
      | some (some v) => some v
      | some none => some d
      | none => none
    else none
  | .items, .dic kvs, [] => some (.lst (itemsP kvs))
  | .values, .dic kvs, [] => some (.lst (valsP kvs))
  | .keys, .dic kvs, [] => some (.lst (keysP kvs))
  | .join, .str s, [x] => match x with
    | .lst xs | .tup xs => match texts xs with
      | some ys => if joinOk s ys then some (.str (joinT s ys)) else none
      | none => none
    | _ => none
  | .split, .str s, [.str t] => if !t.isEmpty && fits (s.length + 2) && t.all fun c => decide (c < 256) then some (.lst ((split t s).map .str)) else none
  | .partition, .str s, [.str t] => if !t.isEmpty && fits s.length then some (.tup (part t s)) else none
  | .index, x, [y] => match itemsOf x with
    | some xs => idx y xs 0
    | none => none
  | .count, x, [y] => match itemsOf x with
    | some xs => cnt y xs 0
    | none => none
  | _, _, _ => none
where
  idx (y : PV) : List PV → Nat → Option PV
    | [], _ => none
    | x :: xs, n => match eqP x y with
      | some true => some (.int n)
      | some false => idx y xs (n + 1)
      | none => none
  cnt (y : PV) : List PV → Nat → Option PV
    | [], n => some (.int n)
    | x :: xs, n => match eqP x y with
      | some true => cnt y xs (n + 1)
      | some false => cnt y xs n
      | none => none
def repL {α : Type} (xs : List α) : Nat → List α
  | 0 => []
  | n + 1 => xs ++ repL xs n
def opB : BOp → PV → PV → Option PV
  | .add, .int a, .int b => some (.int (a + b))
  | .add, .str a, .str b => if fits (a.length + b.length) then some (.str (a ++ b)) else none
  | .add, .lst a, .lst b => if fits (a.length + b.length) then some (.lst (a ++ b)) else none
  | .add, .tup a, .tup b => if fits (a.length + b.length) then some (.tup (a ++ b)) else none
  | .sub, .int a, .int b => some (.int (a - b))
  | .mul, .int a, .int b => if Nat.blt (a.natAbs.log2 + b.natAbs.log2) 1000000 then some (.int (a * b)) else none
  | .mul, .str a, .int (.ofNat b) => if Nat.ble b 100000 && Nat.ble a.length 16 then some (.str (repL a b)) else none
  | .mul, .lst a, .int (.ofNat b) => if Nat.ble b 100000 && fits (a.length * b) then some (.lst (repL a b)) else none
  | .fdiv, .int a, .int b => if decide (0 < b) && Nat.blt b.natAbs.log2 9000 then some (.int (a / b)) else none
  | .mod, .int a, .int b => if decide (0 < b) then some (.int (a % b)) else none
  | .pow, .int a, .int (.ofNat b) => if Nat.ble ((a.natAbs.log2 + 1) * b) 134217728 then some (.int (a ^ b)) else none
  | _, _, _ => none
def opC : COp → PV → PV → Option Bool
  | .eq, a, b => eqS a b
  | .ne, a, b => (eqS a b).map (!·)
  | .lt, .int i, .int j => some (decide (i < j))
  | .le, .int i, .int j => some (decide (i ≤ j))
  | .gt, .int i, .int j => some (decide (j < i))
  | .ge, .int i, .int j => some (decide (j ≤ i))
  | .lt, .str i, .str j => some (ltN i j)
  | .le, .str i, .str j => some (!ltN j i)
  | .gt, .str i, .str j => some (ltN j i)
  | .ge, .str i, .str j => some (!ltN i j)
  | .lt, _, _ => none
  | .le, _, _ => none
  | .gt, _, _ => none
  | .ge, _, _ => none
  | .inn, a, b => inn a b
  | .nin, a, b => (inn a b).map (!·)
where
  inn (a b : PV) : Option Bool := match b with
    | .lst xs => inS a xs
    | .tup xs => match flatP a && xs.all flatP with
      | true => memP a xs
      | false => none
    | .dic kvs => if keyK a kvs then (lookP a kvs).map (·.isSome) else none
    | .str s => match a with
      | .str [c] => some (s.contains c)
      | _ => none
    | _ => none
def ixP (a i : PV) : Option PV := match a, i with
  | .lst xs, .int k => match place xs.length k with | some j => xs[j]? | none => none
  | .tup xs, .int k => match place xs.length k with | some j => xs[j]? | none => none
  | .lam _ xs, .int k => match place xs.length k with | some j => xs[j]? | none => none
  | .str s, .int k => if fits s.length then match place s.length k with | some j => (s[j]?).map fun c => .str [c] | none => none else none
  | .dic kvs, k => if keyK k kvs then match lookP k kvs with
      | some (some v) => some v
      | _ => none
    else none
  | _, _ => none
def slP (a : PV) (lo hi : Option Int) : Option PV := match a with
  | .lst xs => some (.lst (cutL xs lo hi))
  | .tup xs => some (.tup (cutL xs lo hi))
  | .str s => if fits s.length then some (.str (cutL s lo hi)) else none
  | _ => none
def rvP (a : PV) : Option PV := match a with
  | .lst xs => some (.lst xs.reverse)
  | _ => none

/-! ### the evaluator -/
abbrev Call := Nat → List Val → Hh → Res Val
def ofO (w : Nat) (o : Option PV) (h : Hh) : Res Val := match o with
  | some v => .ok (.p v) h
  | none => .bad w
def ofB (w : Nat) (o : Option Bool) (h : Hh) : Res Val := match o with
  | some b => .ok (.p (.bl b)) h
  | none => .bad w
/-- a test's answer -/
def tst (r : Res Val) (f : Bool → Hh → Res Val) : Res Val := match r with
  | .ok (.p (.bl b)) h => f b h
  | .ok _ _ => .bad 1
  | .exc e h => .exc e h
  | .bad w => .bad w
/-- nothing may be raised within a comprehension -/
def quiet {α : Type} : Res α → Res α
  | .exc _ _ => .bad 2
  | r => r
/-- the class of a value that is an instance -/
def clsOf (h : Hh) : Val → Option Nat
  | .p (.ins c _) => some c
  | .r i => match getO h i with
    | some (.ins c _) => some c
    | _ => none
  | _ => none
def setAll : Sg → List Nat → List PV → Option Sg
  | σ, [], [] => some σ
  | σ, i :: is, v :: vs => setAll (σ.set i (some (.p v))) is vs
  | _, _, _ => none
def bindT (tg : List Nat) (one : Bool) (x : PV) (σ : Sg) : Option Sg := match one with
  | true => setAll σ tg [x]
  | false => match x with
    | .tup vs => setAll σ tg vs
    | _ => none
def wipe (σ : Sg) : List Nat → Sg
  | [] => σ
  | v :: vs => (wipe σ vs).set v none
def loopA (f : PV → Hh → Res (List Val)) : List PV → Hh → Res (List Val)
  | [], h => .ok [] h
  | x :: xs, h => match f x h with
    | .ok vs h1 => match loopA f xs h1 with
      | .ok ws h2 => .ok (vs ++ ws) h2
      | .exc e h2 => .exc e h2
      | .bad w => .bad w
    | .exc e h1 => .exc e h1
    | .bad w => .bad w
def loopK (f : PV → List (PV × Val) → Hh → Res (List (PV × Val))) : List PV → List (PV × Val) → Hh → Res (List (PV × Val))
  | [], acc, h => .ok acc h
  | x :: xs, acc, h => match f x acc h with
    | .ok acc h1 => loopK f xs acc h1
    | .exc e h1 => .exc e h1
    | .bad w => .bad w
def mkL (m : Bool) (vs : List Val) (h : Hh) : Res Val := match okLen vs with
  | true => match m with
    | true => .ok (.r h.length) (h ++ [some (.lst vs)])
    | false => match pures vs with
      | some xs => .ok (.p (.lst xs)) h
      | none => .bad 3
  | false => .bad 4
def mkD (m : Bool) (kvs : List (PV × Val)) (h : Hh) : Res Val := match okLen kvs with
  | true => match m with
    | true => .ok (.r h.length) (h ++ [some (.dic kvs)])
    | false => match pureKvs kvs with
      | some xs => .ok (.p (.dic xs)) h
      | none => .bad 5
  | false => .bad 6
def lookF (f : Nat) : List (Nat × Val) → Option Val
  | [] => none
  | (g, v) :: r => if f == g then some v else lookF f r
def putFs (f : Nat) (v : Val) : List (Nat × Val) → List (Nat × Val)
  | [] => [(f, v)]
  | (g, u) :: r => if f == g then (f, v) :: r else (g, u) :: putFs f v r
def lookN {β : Type} (f : Nat) : List (Nat × β) → Option β
  | [] => none
  | (g, v) :: r => if f == g then some v else lookN f r
def lookOp (f : BOp) : List (BOp × Nat) → Option Nat
  | [] => none
  | (g, v) :: r => if f = g then some v else lookOp f r
def fldAt : List Nat → List PV → Nat → Option PV
  | f :: fs, v :: vs, g => if f == g then some v else fldAt fs vs g
  | _, _, _ => none
/-- what a for goes through: pure items -/
def itemsV (h : Hh) : Val → Option (List PV)
  | .p v => itemsOf v
  | .r i => match getO h i with
    | some (.lst xs) => pures xs
    | _ => none
/-- a list is locked while it is gone through -/
def lockO (h : Hh) : Val → Option (Nat × MO)
  | .p _ => none
  | .r i => match getW h i with
    | some (.lst xs) => some (i, .lst xs)
    | _ => none
def lockH (h : Hh) (b : Val) : Hh := match lockO h b with
  | some (i, o) => h.set i (some (.lck o))
  | none => h
def unlock (i : Nat) (h : Hh) : Option Hh := match getR h i with
  | some (.lck (.lst xs)) => some (h.set i (some (.lst xs)))
  | _ => none
/-- the lock is taken off again -/
def offH (l : Option (Nat × MO)) (h : Hh) : Option Hh := match l with
  | none => some h
  | some (i, _) => unlock i h
def finR {α : Type} (l : Option (Nat × MO)) (r : Res α) : Res α := match r with
  | .ok v h1 => match offH l h1 with
    | some h2 => .ok v h2
    | none => .bad 80
  | .exc e h1 => match offH l h1 with
    | some h2 => .exc e h2
    | none => .bad 80
  | .bad w => .bad w
def finS (l : Option (Nat × MO)) (r : SR) : SR := match r with
  | .nx σ h1 => match offH l h1 with
    | some h2 => .nx σ h2
    | none => .bad 80
  | .rt v h1 => match offH l h1 with
    | some h2 => .rt v h2
    | none => .bad 80
  | .bk σ h1 => match offH l h1 with
    | some h2 => .bk σ h2
    | none => .bad 80
  | .ct σ h1 => match offH l h1 with
    | some h2 => .ct σ h2
    | none => .bad 80
  | .exc e σ h1 => match offH l h1 with
    | some h2 => .exc e σ h2
    | none => .bad 80
  | .bad w => .bad w
def lendR {α : Type} (b : Val) (h : Hh) (f : Hh → Res α) : Res α := finR (lockO h b) (f (lockH h b))
def lendS (b : Val) (h : Hh) (f : Hh → SR) : SR := finS (lockO h b) (f (lockH h b))
section
variable (P : Prog) (C : Call)
def getFld (o : Val) (f : Nat) (h : Hh) : Res Val := match o with
  | .p (.ins c vs) => match P.clss[c]? with
    | some K => match K.fields.contains f with
      | true => ofO 7 (fldAt K.fields vs f) h
      | false => match lookN f K.props with
        | some d => C d [o] h
        | none => .bad 7
    | none => .bad 7
  | .r i => match getO h i with
    | some (.ins c fs) => match P.clss[c]? with
      | some K => match K.fields.contains f with
        | true => match lookF f fs with
          | some v => .ok v h
          | none => .bad 8
        | false => match lookN f K.props with
          | some d => C d [o] h
          | none => .bad 8
      | none => .bad 8
    | _ => .bad 8
  | _ => .bad 8
/-- the fields of a pure instance, in the class's own order -/
def fldsP : List Nat → List (Nat × Val) → Option (List PV)
  | [], [] => some []
  | f :: fs, (g, .p v) :: r => if f == g then (match fldsP fs r with
      | some vs => some (v :: vs)
      | none => none) else none
  | _, _ => none
/-- an instance made -/
def make (c : Nat) (as : List Val) (h : Hh) : Res Val := match P.clss[c]? with
  | none => .bad 9
  | some K => match K.init with
    | none => .bad 9
    | some d => match K.imm with
      | true => match pures as with
        | some _ => match C d (.r 0 :: as) [some (.ins c [])] with
          | .ok (.p .non) h1 => match getW h1 0 with
            | some (.ins c' fs) => if c' == c then (match fldsP K.fields fs with
                | some vs => .ok (.p (.ins c vs)) h
                | none => .bad 10) else .bad 10
            | _ => .bad 10
          | .ok _ _ => .bad 10
          | .exc e _ => .exc e h
          | .bad w => .bad w
        | none => .bad 11
      | false => match C d (.r h.length :: as) (h ++ [some (.ins c [])]) with
        | .ok (.p .non) h1 => .ok (.r h.length) h1
        | .ok _ _ => .bad 11
        | .exc e h1 => .exc e h1
        | .bad w => .bad w
/-- the method of an instance that its class has, where no attribute hides it -/
def methOf (m : Nat) (x : Val) (h : Hh) : Option Nat := match x with
  | .p (.ins c _) => match P.clss[c]? with
    | some K => if K.fields.contains m then none else lookN m K.meths
    | none => none
  | .r i => match getO h i with
    | some (.ins c fs) => match P.clss[c]? with
      | some K => match lookF m fs with
        | some _ => none
        | none => lookN m K.meths
      | none => none
    | _ => none
  | _ => none
/-- a dunder method of an instance, if the value is one -/
def dun (sel : Cls → Option Nat) (h : Hh) (o : Val) : Option (Option Nat) := match clsOf h o with
  | some c => match P.clss[c]? with
    | some K => some (sel K)
    | none => some none
  | none => none
def callV (f : Val) (as : List Val) (h : Hh) : Res Val := match f with
  | .p (.fn d) => C d as h
  | .p (.cl c) => make P C c as h
  | _ => .bad 12
def truthNot (r : Res Val) : Res Val := match r with
  | .ok (.p (.bl b)) h => .ok (.p (.bl (!b))) h
  | .ok _ _ => .bad 13
  | .exc e h => .exc e h
  | .bad w => .bad w
def cmpV (o : COp) (a b : Val) (h : Hh) : Res Val := match o with
  | .eq => match dun P (·.eq) h a with
    | some (some d) => C d [a, b] h
    | some none => .bad 14
    | none => plain
  | .ne => match dun P (·.eq) h a with
    | some (some d) => truthNot (C d [a, b] h)
    | some none => .bad 14
    | none => plain
  | .inn => match dun P (·.has) h b with
    | some (some d) => C d [b, a] h
    | some none => .bad 14
    | none => plain
  | .nin => match dun P (·.has) h b with
    | some (some d) => truthNot (C d [b, a] h)
    | some none => .bad 14
    | none => plain
  | _ => plain
where
  plain : Res Val := match o with
    | .eq | .ne => match vwD h a, vwD h b with
      | some x, some y => ofB 15 (opC o x y) h
      | _, _ => .bad 15
    | .inn => match a, b with
      | .p k, .r i => hasR k i
      | _, _ => viewed
    | .nin => match a, b with
      | .p k, .r i => truthNot (hasR k i)
      | _, _ => viewed
    | _ => viewed
  viewed : Res Val := match vw h a, vw h b with
    | some x, some y => ofB 15 (opC o x y) h
    | _, _ => .bad 15
  hasR (k : PV) (i : Nat) : Res Val := match getO h i with
    | some (.dic kvs) => if keyK k kvs then ofB 15 ((lookP k kvs).map (·.isSome)) h else .bad 15
    | some (.lst xs) => match pures xs with
      | some ys => ofB 15 (inS k ys) h
      | none => .bad 15
    | _ => .bad 15
def binV (o : BOp) (a b : Val) (h : Hh) : Res Val := match clsOf h a with
  | some c => match P.clss[c]? with
    | some K => match lookOp o K.ops with
      | some d => C d [a, b] h
      | none => .bad 16
    | none => .bad 16
  | none => match vw h a, vw h b with
    | some x, some y => ofO 16 (opB o x y) h
    | _, _ => .bad 16
def ixV (a i : Val) (h : Hh) : Res Val := match dun P (·.get) h a with
  | some (some d) => C d [a, i] h
  | some none => .bad 17
  | none => match a with
    | .p x => match vw h i with
      | some j => ofO 17 (ixP x j) h
      | none => .bad 17
    | .r k => match getO h k, vw h i with
      | some (.lst xs), some (.int j) => match place xs.length j with
        | some n => match xs[n]? with
          | some v => .ok v h
          | none => .bad 17
        | none => .bad 17
      | some (.dic kvs), some j => if keyK j kvs then match lookP j kvs with
          | some (some v) => .ok v h
          | _ => .bad 17
        else .bad 17
      | _, _ => .bad 17
def strV (a : Val) (h : Hh) : Res Val := match dun P (·.str) h a with
  | some (some d) => C d [a] h
  | some none => .bad 18
  | none => match vw h a with
    | some x => ofO 18 (bfun .str [x]) h
    | none => .bad 18
def isIns (c : Nat) : Bool := match P.clss[c]? with
  | some K => K.ins
  | none => false
def bfV (b : BF) (as : List Val) (h : Hh) : Res Val := match b, as with
  | .len, [a] => match dun P (·.len) h a with
    | some (some d) => C d [a] h
    | some none => .bad 19
    | none => match a with
      | .p x => ofO 19 (bfun .len [x]) h
      | .r k => match getO h k with
        | some (.lst xs) => .ok (.p (.int xs.length)) h
        | some (.dic kvs) => .ok (.p (.int kvs.length)) h
        | _ => .bad 19
  | .str, [a] => strV P C a h
  | .isic c, [a] => match clsOf h a with
    | some d => if isIns P d && isIns P c then .ok (.p (.bl (d == c))) h else .bad 20
    | none => match a with
      | .p x => if isIns P c then ofO 20 (bfun (.isic c) [x]) h else .bad 20
      | .r k => match getO h k with
        | some (.lst _) => if isIns P c then .ok (.p (.bl false)) h else .bad 20
        | some (.dic _) => if isIns P c then .ok (.p (.bl false)) h else .bad 20
        | _ => .bad 20
  | .isi t, [a] => match clsOf h a with
    | some c => if isIns P c then .ok (.p (.bl false)) h else .bad 20
    | none => match a with
      | .p x => ofO 20 (bfun (.isi t) [x]) h
      | .r k => match getO h k with
        | some (.lst _) => .ok (.p (.bl (t == .list))) h
        | some (.dic _) => .ok (.p (.bl (t == .dict))) h
        | _ => .bad 20
  | .enum, _ => match pures as with
    | some xs => ofO 21 (bfun .enum xs) h
    | none => .bad 21
  | .zip, _ => match pures as with
    | some xs => ofO 21 (bfun .zip xs) h
    | none => .bad 21
  | .listM, _ => match vws h as with
    | some xs => match bfun .list xs with
      | some (.lst vs) => mkL true (liftP vs) h
      | _ => .bad 21
    | none => .bad 21
  | .dictM, _ => match vws h as with
    | some xs => match bfun .dict xs with
      | some (.dic kvs) => mkD true (liftKvs kvs) h
      | _ => .bad 21
    | none => .bad 21
  | _, _ => match vws h as with
    | some xs => ofO 21 (bfun b xs) h
    | none => .bad 21
/-- whose method it is -/
inductive BK where
  | lst | str | dic
  deriving DecidableEq
def bmT : BM → BK
  | .append | .extend | .pop | .pop1 | .index | .count => .lst
  | .join | .split | .partition => .str
  | _ => .dic
def bmK (b : BM) (x : Val) (h : Hh) : Bool := match x with
  | .p (.str _) => bmT b == .str
  | .p (.lst _) => bmT b == .lst
  | .p (.dic _) => bmT b == .dic
  | .p _ => false
  | .r i => match getO h i with
    | some (.lst _) => bmT b == .lst
    | some (.dic _) => bmT b == .dic
    | _ => false
def isMut : BM → Bool
  | .append | .extend | .pop | .pop1 | .setdefault | .dpop2 => true
  | _ => false
def bmV (b : BM) (o : Val) (as : List Val) (h : Hh) : Res Val := match o with
  | .r i => match (if isMut b then getW h i else getO h i) with
    | some (.lst xs) => match b, as with
      | .append, [v] => if Nat.blt xs.length sizeMax then .ok (.p .non) (h.set i (some (.lst (xs ++ [v])))) else .bad 22
      | .extend, [v] => match vw h v with
        | some (.lst vs) => if Nat.ble (xs.length + vs.length) sizeMax then .ok (.p .non) (h.set i (some (.lst (xs ++ liftP vs)))) else .bad 22
        | _ => .bad 22
      | .pop, [] => match xs.getLast? with
        | some v => .ok v (h.set i (some (.lst xs.dropLast)))
        | none => .bad 22
      | .pop1, [.p (.int j)] => match place xs.length j with
        | some n => match xs[n]? with
          | some v => .ok v (h.set i (some (.lst (xs.eraseIdx n))))
          | none => .bad 22
        | none => .bad 22
      | _, _ => plain
    | some (.dic kvs) => match b, as with
      | .get1, [.p k] => if keyK k kvs then match lookP k kvs with
          | some (some v) => .ok v h
          | some none => .ok (.p .non) h
          | none => .bad 23
        else .bad 23
      | .get2, [.p k, d] => if keyK k kvs then match lookP k kvs with
          | some (some v) => .ok v h
          | some none => .ok d h
          | none => .bad 23
        else .bad 23
      | .setdefault, [.p k, d] => if keyK k kvs then match lookP k kvs with
          | some (some v) => .ok v h
          | some none => .ok d (h.set i (some (.dic (kvs ++ [(k, d)]))))
          | none => .bad 23
        else .bad 23
      | .dpop2, [.p k, d] => if keyK k kvs then match lookP k kvs, dropP k kvs with
          | some (some v), some kvs' => .ok v (h.set i (some (.dic kvs')))
          | some none, _ => .ok d h
          | _, _ => .bad 23
        else .bad 23
      | _, _ => .bad 23
    | _ => .bad 24
  | .p _ => match b, as with
    | .get2, [_, .r _] => .bad 25
    | _, _ => plain
where
  plain : Res Val := match vw h o, vws h as with
    | some x, some ys => ofO 25 (bmeth b x ys) h
    | _, _ => .bad 25
def setIx (o i v : Val) (h : Hh) : Res Val := match o, i with
  | .r k, .p j => match getW h k with
    | some (.lst xs) => match j with
      | .int n => match place xs.length n with
        | some m => .ok (.p .non) (h.set k (some (.lst (xs.set m v))))
        | none => .bad 26
      | _ => .bad 26
    | some (.dic kvs) => if keyK j kvs && Nat.blt kvs.length sizeMax then match putP j v kvs with
        | some kvs' => .ok (.p .non) (h.set k (some (.dic kvs')))
        | none => .bad 26
      else .bad 26
    | _ => .bad 26
  | _, _ => .bad 26
def setFld (o : Val) (f : Nat) (v : Val) (h : Hh) : Res Val := match o with
  | .r k => match getW h k with
    | some (.ins c fs) => match P.clss[c]? with
      | some K => match K.fields.contains f && Nat.blt fs.length 1000 with
        | true => .ok (.p .non) (h.set k (some (.ins c (putFs f v fs))))
        | false => .bad 27
      | none => .bad 27
    | _ => .bad 27
  | _ => .bad 27
/-- what a for asks of an instance -/
def iterV (a : Val) (h : Hh) : Res Val := (match dun P (·.itr) h a with
  | some (some d) => C d [a] h
  | some none => .bad 28
  | none => .ok a h : Res Val).bind fun b h => match itemsV h b with
    | some _ => .ok b h
    | none => .bad 29
end

/-- a part of an f-string -/
def fmtV : Val → Option (List Nat)
  | .p (.str s) => if fits s.length then some s else none
  | .p (.int i) => numT i
  | _ => none
def putAll : List (PV × PV) → List (PV × Val) → Option (List (PV × Val))
  | [], acc => some acc
  | (k, v) :: r, acc => match putP k (.p v) acc with
    | some acc => putAll r acc
    | none => none

/-- an own exception: its class or one of its bases -/
def isExc (P : Prog) (c d : Nat) : Bool := c == d || match P.clss[c]? with
  | some K => K.bases.contains d
  | none => false
/-- a class of exceptions -/
def isX (P : Prog) (c : Nat) : Bool := match P.clss[c]? with
  | some K => K.xc
  | none => false
/-- the word for an exception -/
def metW (P : Prog) : List (Nat × List Nat × Bool) → Exc → Option PV
  | [], _ => none
  | (c, w, b) :: r, x => match isExc P x.c c with
    | true => match b with
      | false => some (.str w)
      | true => match P.clss[c]?, x.fs with
        | some K, [(g, v)] => match K.xfs == [g] with
          | true => match reprP v with
            | some t => if fits (w.length + t.length) then some (.str (w ++ t)) else none
            | none => none
          | false => none
        | _, _ => none
    | false => metW P r x
mutual
def evE (P : Prog) (C : Call) : CE → Sg → Hh → Res Val
  | .cst v, _, h => .ok (.p v) h
  | .var i, σ, h => match σ[i]? with
    | some (some v) => .ok v h
    | _ => .bad 30
  | .bin o a b, σ, h => (evE P C a σ h).bind fun x h => (evE P C b σ h).bind fun y h => binV P C o x y h
  | .binL o a b, σ, h => (evE P C a σ h).bind fun x h => (evE P C b σ h).bind fun y h => match vw h x, vw h y with
    | some x, some y => match opB o x y with
      | some (.lst vs) => mkL true (liftP vs) h
      | _ => .bad 16
    | _, _ => .bad 16
  | .neg a, σ, h => (evE P C a σ h).bind fun x h => match x with
    | .p (.int i) => .ok (.p (.int (-i))) h
    | _ => .bad 31
  | .cmp o a b, σ, h => (evE P C a σ h).bind fun x h => (evE P C b σ h).bind fun y h => cmpV P C o x y h
  | .chn o p a b c, σ, h => (evE P C a σ h).bind fun x h => (evE P C b σ h).bind fun y h => tst (cmpV P C o x y h) fun t h => match t with
    | true => (evE P C c σ h).bind fun z h => cmpV P C p y z h
    | false => .ok (.p (.bl false)) h
  | .isN n a, σ, h => (evE P C a σ h).bind fun x h => match x with
    | .p .non => .ok (.p (.bl (!n))) h
    | _ => .ok (.p (.bl n)) h
  | .isB v a, σ, h => (evE P C a σ h).bind fun x h => match x with
    | .p (.bl b) => .ok (.p (.bl (b == v))) h
    | _ => .bad 32
  | .and a b, σ, h => tst (evE P C a σ h) fun t h => match t with
    | true => evE P C b σ h
    | false => .ok (.p (.bl false)) h
  | .or a b, σ, h => tst (evE P C a σ h) fun t h => match t with
    | true => .ok (.p (.bl true)) h
    | false => evE P C b σ h
  | .not a, σ, h => tst (evE P C a σ h) fun t h => .ok (.p (.bl (!t))) h
  | .ite t a b, σ, h => tst (evE P C t σ h) fun t h => match t with
    | true => evE P C a σ h
    | false => evE P C b σ h
  | .ix a i, σ, h => (evE P C a σ h).bind fun x h => (evE P C i σ h).bind fun y h => ixV P C x y h
  | .sl a lo hi, σ, h => (evE P C a σ h).bind fun x h => (evO P C lo σ h).bind fun l h => (evO P C hi σ h).bind fun u h => match vw h x with
    | some v => ofO 33 (slP v l u) h
    | none => .bad 33
  | .rv a, σ, h => (evE P C a σ h).bind fun x h => match vw h x with
    | some v => ofO 34 (rvP v) h
    | none => .bad 34
  | .tup as, σ, h => (evA P C as σ h).bind fun vs h => match pures vs, okLen vs with
    | some xs, true => .ok (.p (.tup xs)) h
    | _, _ => .bad 35
  | .lst m as, σ, h => (evA P C as σ h).bind fun vs h => mkL m vs h
  | .dic m as, σ, h => (evK P C as σ [] h).bind fun kvs h => mkD m kvs h
  | .lc m own cl, σ, h => (quiet (evC P C cl (wipe σ own) h)).bind fun vs h => mkL m vs h
  | .dc m own cl, σ, h => (quiet (evD P C cl (wipe σ own) [] h)).bind fun kvs h => mkD m kvs h
  | .call f as, σ, h => (evA P C as σ h).bind fun vs h => C f vs h
  | .callv f as, σ, h => (evE P C f σ h).bind fun g h => match g with
    | .p (.fn d) => (evA P C as σ h).bind fun vs h => C d vs h
    | .p (.cl c) => (evA P C as σ h).bind fun vs h => make P C c vs h
    | _ => .bad 36
  | .new c as, σ, h => (evA P C as σ h).bind fun vs h => make P C c vs h
  | .meth o m as, σ, h => (evE P C o σ h).bind fun x h => match methOf P m x h with
    | some d => (evA P C as σ h).bind fun vs h => C d (x :: vs) h
    | none => .bad 37
  | .cm c m as, σ, h => (evA P C as σ h).bind fun vs h => match P.clss[c]? with
    | some K => match lookN m K.cms with
      | some d => C d (.p (.cl c) :: vs) h
      | none => .bad 38
    | none => .bad 38
  | .fld o f, σ, h => (evE P C o σ h).bind fun x h => getFld P C x f h
  | .bf b as, σ, h => (evA P C as σ h).bind fun vs h => bfV P C b vs h
  | .bm b o as, σ, h => (evE P C o σ h).bind fun x h => match bmK b x h with
    | true => (evA P C as σ h).bind fun vs h => bmV b x vs h
    | false => .bad 25
  | .fs as, σ, h => (evF P C as σ [] h).bind fun s h => .ok (.p (.str s)) h
  | .lam m l as, σ, h => (evA P C as σ h).bind fun vs h => match m with
    | true => .ok (.r h.length) (h ++ [some (.clo l vs)])
    | false => match pures vs with
      | some env => .ok (.p (.lam l env)) h
      | none => .bad 39
  | .nextg own cl d, σ, h => (quiet (evC P C cl (wipe σ own) h)).bind fun vs h => match vs with
    | v :: _ => .ok v h
    | [] => evE P C d σ h
  | .fz a, σ, h => (evE P C a σ h).bind fun x h => match frz h x with
    | some (v, h') => .ok (.p v) h'
    | none => .bad 40
  | .met e, σ, h => match evE P C e σ h with
    | .ok _ h => .ok (.p (.str P.metF)) h
    | .exc x h => match isX P x.c with
      | true => ofO 40 (metW P P.met x) h
      | false => .bad 40
    | .bad w => .bad w
  | _, _, _ => .bad 41
/-- an optional part -/
def evO (P : Prog) (C : Call) : CE → Sg → Hh → Res (Option Int)
  | .nil, _, h => .ok none h
  | .cons a _, σ, h => (evE P C a σ h).bind fun x h => match x with
    | .p (.int i) => .ok (some i) h
    | _ => .bad 42
  | _, _, _ => .bad 42
/-- a row of arguments, of items -/
def evA (P : Prog) (C : Call) : CE → Sg → Hh → Res (List Val)
  | .nil, _, h => .ok [] h
  | .cons a r, σ, h => (evE P C a σ h).bind fun x h => (evA P C r σ h).bind fun xs h => .ok (x :: xs) h
  | .star a r, σ, h => (evE P C a σ h).bind fun x h => match vw h x with
    | some v => match starOf v with
      | some ys => (evA P C r σ h).bind fun xs h => .ok (liftP ys ++ xs) h
      | none => .bad 43
    | none => .bad 43
  | _, _, _ => .bad 43
/-- the entries of a dict display -/
def evK (P : Prog) (C : Call) : CE → Sg → List (PV × Val) → Hh → Res (List (PV × Val))
  | .nil, _, acc, h => .ok acc h
  | .kv k v r, σ, acc, h => (evE P C k σ h).bind fun x h => (evE P C v σ h).bind fun y h => match x with
    | .p x => if keyK x acc then match putP x y acc with
        | some acc => evK P C r σ acc h
        | none => .bad 44
      else .bad 44
    | _ => .bad 44
  | .star a r, σ, acc, h => (evE P C a σ h).bind fun x h => match vw h x with
    | some (.dic kvs) => match putAll kvs acc with
      | some acc => evK P C r σ acc h
      | none => .bad 45
    | _ => .bad 45
  | _, _, _, _ => .bad 45
/-- a list comprehension's clauses -/
def evC (P : Prog) (C : Call) : CE → Sg → Hh → Res (List Val)
  | .cend e, σ, h => (evE P C e σ h).bind fun x h => .ok [x] h
  | .cls tg one it ifs r, σ, h => (evE P C it σ h).bind fun a h => (iterV P C a h).bind fun b h => match itemsV h b with
    | some xs => lendR b h fun h => loopA (fun x h => match bindT tg one x (wipe σ tg) with
      | some σ1 => match evT P C ifs σ1 h with
        | .ok true h => evC P C r σ1 h
        | .ok false h => .ok [] h
        | .exc e h => .exc e h
        | .bad w => .bad w
      | none => .bad 46) xs h
    | none => .bad 46
  | _, _, _ => .bad 46
/-- a dict comprehension's clauses -/
def evD (P : Prog) (C : Call) : CE → Sg → List (PV × Val) → Hh → Res (List (PV × Val))
  | .cendkv k v, σ, acc, h => (evE P C k σ h).bind fun x h => (evE P C v σ h).bind fun y h => match x with
    | .p x => if keyK x acc then match putP x y acc with
        | some acc => .ok acc h
        | none => .bad 47
      else .bad 47
    | _ => .bad 47
  | .cls tg one it ifs r, σ, acc, h => (evE P C it σ h).bind fun a h => (iterV P C a h).bind fun b h => match itemsV h b with
    | some xs => lendR b h fun h => loopK (fun x acc h => match bindT tg one x (wipe σ tg) with
      | some σ1 => match evT P C ifs σ1 h with
        | .ok true h => evD P C r σ1 acc h
        | .ok false h => .ok acc h
        | .exc e h => .exc e h
        | .bad w => .bad w
      | none => .bad 48) xs acc h
    | none => .bad 48
  | _, _, _, _ => .bad 48
/-- a clause's tests -/
def evT (P : Prog) (C : Call) : CE → Sg → Hh → Res Bool
  | .nil, _, h => .ok true h
  | .cons t r, σ, h => match evE P C t σ h with
    | .ok (.p (.bl true)) h => evT P C r σ h
    | .ok (.p (.bl false)) h => .ok false h
    | .ok _ _ => .bad 49
    | .exc e h => .exc e h
    | .bad w => .bad w
  | _, _, _ => .bad 49
/-- the parts of an f-string, behind a text -/
def evF (P : Prog) (C : Call) : CE → Sg → List Nat → Hh → Res (List Nat)
  | .nil, _, acc, h => .ok acc h
  | .cons a r, σ, acc, h => (evE P C a σ h).bind fun x h => match fmtV x with
    | some s => match fits (acc.length + s.length) with
      | true => evF P C r σ (acc ++ s) h
      | false => .bad 50
    | none => .bad 50
  | _, _, _, _ => .bad 50
end

/-! ### statements -/
def SR.bind (r : SR) (f : Sg → Hh → SR) : SR := match r with
  | .nx σ h => f σ h
  | r => r
def srE (r : Res Val) (σ : Sg) (f : Val → Hh → SR) : SR := match r with
  | .ok v h => f v h
  | .exc e h => .exc e σ h
  | .bad w => .bad w
def srA (r : Res (List Val)) (σ : Sg) (f : List Val → Hh → SR) : SR := match r with
  | .ok v h => f v h
  | .exc e h => .exc e σ h
  | .bad w => .bad w
def store (P : Prog) (C : Call) : TG → List Val → Sg → Hh → SR
  | .nil, [], σ, h => .nx σ h
  | .nm i r, v :: vs, σ, h => store P C r vs (σ.set i (some v)) h
  | .ix o i r, v :: vs, σ, h => srE (evE P C o σ h) σ fun a h => srE (evE P C i σ h) σ fun j h => srE (setIx a j v h) σ fun _ h => store P C r vs σ h
  | .fld o f r, v :: vs, σ, h => srE (evE P C o σ h) σ fun a h => srE (setFld P a f v h) σ fun _ h => store P C r vs σ h
  | _, _, _, _ => .bad 60
def loopS (f : PV → Sg → Hh → SR) : List PV → Sg → Hh → SR
  | [], σ, h => .nx σ h
  | x :: xs, σ, h => match f x σ h with
    | .nx σ h => loopS f xs σ h
    | .ct σ h => loopS f xs σ h
    | .bk σ h => .nx σ h
    | r => r
def loopW (t : Sg → Hh → Res Val) (b : Sg → Hh → SR) : Nat → Sg → Hh → SR
  | 0, _, _ => .bad 61
  | n + 1, σ, h => match t σ h with
    | .ok (.p (.bl true)) h => match b σ h with
      | .nx σ h => loopW t b n σ h
      | .ct σ h => loopW t b n σ h
      | .bk σ h => .nx σ h
      | r => r
    | .ok (.p (.bl false)) h => .nx σ h
    | .ok _ _ => .bad 62
    | .exc e h => .exc e σ h
    | .bad w => .bad w
def fuelW : Nat := 1000000
def xfields : List Nat → List PV → Option (List (Nat × PV))
  | [], [] => some []
  | [], _ :: _ => none
  | f :: fs, v :: vs => match xfields fs vs with
    | some r => some ((f, v) :: r)
    | none => none
  | _ :: _, [] => none
mutual
def exS (P : Prog) (C : Call) : CS → Sg → Hh → SR
  | .skip, σ, h => .nx σ h
  | .seq a b, σ, h => match exS P C a σ h with
    | .nx σ h => exS P C b σ h
    | r => r
  | .asg t e, σ, h => srE (evE P C e σ h) σ fun v h => store P C t [v] σ h
  | .unp t e, σ, h => srE (evE P C e σ h) σ fun v h => match vw h v with
    | some (.tup vs) => store P C t (liftP vs) σ h
    | _ => .bad 63
  | .par t as, σ, h => srA (evA P C as σ h) σ fun vs h => store P C t vs σ h
  | .aug i o e, σ, h => match σ[i]? with
    | some (some x) => srE (evE P C e σ h) σ fun y h => srE (binV P C o x y h) σ fun z h => .nx (σ.set i (some z)) h
    | _ => .bad 64
  | .augix o i p e, σ, h => srE (evE P C o σ h) σ fun a h => srE (evE P C i σ h) σ fun j h => srE (ixV P C a j h) σ fun x h => srE (evE P C e σ h) σ fun y h => srE (binV P C p x y h) σ fun z h => srE (setIx a j z h) σ fun _ h => .nx σ h
  | .augf o f p e, σ, h => srE (evE P C o σ h) σ fun a h => srE (getFld P C a f h) σ fun x h => srE (evE P C e σ h) σ fun y h => srE (binV P C p x y h) σ fun z h => srE (setFld P a f z h) σ fun _ h => .nx σ h
  | .ex e, σ, h => srE (evE P C e σ h) σ fun _ h => .nx σ h
  | .ret e, σ, h => srE (evE P C e σ h) σ fun v h => .rt v h
  | .ifs t a b, σ, h => srE (evE P C t σ h) σ fun v h => match v with
    | .p (.bl true) => exS P C a σ h
    | .p (.bl false) => exS P C b σ h
    | _ => .bad 65
  | .for_ tg one it b, σ, h => srE (evE P C it σ h) σ fun a h => srE (iterV P C a h) σ fun c h => match itemsV h c with
    | some xs => lendS c h fun h => loopS (fun x σ h => match bindT tg one x σ with
      | some σ1 => exS P C b σ1 h
      | none => .bad 66) xs σ h
    | none => .bad 66
  | .whl t b, σ, h => loopW (evE P C t) (exS P C b) fuelW σ h
  | .rais c as, σ, h => srA (evA P C as σ h) σ fun vs h => match P.clss[c]?, pures vs with
    | some K, some xs => match xfields K.xfs xs with
      | some fs => .exc ⟨c, fs⟩ σ h
      | none => .bad 67
    | _, _ => .bad 67
  | .try_ b hs, σ, h => match exS P C b σ h with
    | .exc e σ h => exH P C hs e σ h
    | r => r
  | .brk, σ, h => .bk σ h
  | .cnt, σ, h => .ct σ h
  | _, _, _ => .bad 68
def exH (P : Prog) (C : Call) : CS → Exc → Sg → Hh → SR
  | .hnil, e, σ, h => .exc e σ h
  | .hcons c v b r, e, σ, h => if !isX P e.c then .bad 69 else if isExc P e.c c then match v with
      | none => exS P C b σ h
      | some i => exS P C b (σ.set i (some (.p (.ins e.c (e.fs.map (·.2)))))) h
    else exH P C r e σ h
  | _, _, _, _ => .bad 69
end

/-! ### calls -/
def refsBelow (n : Nat) : Val → Bool
  | .p _ => true
  | .r i => Nat.blt i n
def moBelow (n : Nat) : MO → Bool
  | .lst xs => xs.all (refsBelow n)
  | .dic kvs => kvs.all fun q => refsBelow n q.2
  | .ins _ fs => fs.all fun q => refsBelow n q.2
  | .clo _ vs => vs.all (refsBelow n)
  | .lck o => moBelow n o
def objBelow (n : Nat) : Option MO → Bool
  | none => true
  | some o => moBelow n o
/-- what a call has made and nobody holds is let go -/
def settle (n : Nat) (h : Hh) : Hh := if (h.take n).all (objBelow n) then h.take n else h
def start (vs : List Val) (n : Nat) : Sg := vs.map some ++ List.replicate (n - vs.length) none
def bindArgs (d : Def) (as : List Val) : Option (List Val) :=
  if d.star then
    match pures (as.drop (d.np - 1)) with
    | some r => if Nat.ble (d.np - 1) as.length then some (as.take (d.np - 1) ++ [.p (.tup r)]) else none
    | none => none
  else if as.length == d.np then some as
  else if Nat.blt as.length d.np && Nat.ble d.np (as.length + d.dfl.length) then some (as ++ liftP (d.dfl.drop (as.length + d.dfl.length - d.np))) else none
def runD (P : Prog) (C : Call) (d : Def) (vs : List Val) (h : Hh) : Res Val := match exS P C d.body (start vs d.n) h with
  | .rt v h1 => if refsBelow h.length v then .ok v (settle h.length h1) else .ok v h1
  | .nx _ h1 => .ok (.p .non) (settle h.length h1)
  | .exc e _ h1 => .exc e (settle h.length h1)
  | .bad w => .bad w
  | _ => .bad 70
def callD (P : Prog) : Nat → Call
  | 0, _, _, _ => .bad 71
  | k + 1, f, as, h => if Nat.ble 1000000 f then match P.lams[f - 1000000]? with
      | some (n, b) => evE P (callD P k) b (start as n) h
      | none => .bad 72
    else match P.defs[f]? with
    | none => .bad 73
    | some d => match bindArgs d as with
      | none => .bad 74
      | some vs => match d.keep, pures vs with
        | false, some _ => match runD P (callD P k) d vs [] with
          | .ok (.p v) _ => .ok (.p v) h
          | .ok (.r _) _ => .bad 75
          | .exc e _ => .exc e h
          | .bad w => .bad w
        | _, _ => runD P (callD P k) d vs h
end Ev
set_option Elab.async false
set_option linter.all false
set_option autoImplicit false
set_option maxRecDepth 100000
set_option maxHeartbeats 2000000
/-! # Ue0: what is looked at behind the head's run: plain Bools (ahead of all else: the run wants much memory) -/
namespace Sb
open PySem PySem.Spec
open PyProof.Rows hiding St
open He (ga ma fAd Fa eqO ba)
def tyName : Ev.Ty → String
  | .int => "int"
  | .str => "str"
  | .bool => "bool"
  | .tuple => "tuple"
  | .list => "list"
  | .dict => "dict"
def tyNames : List String := ["NoneType", "bool", "int", "str", "tuple", "list", "dict"]
structure FD where
  at_ : PySem.W.Frag → Addr
  name : Str
  qual : Str
  params : Arguments
  body : List Stmt
  scope : Scope
def fnWA (K : PySem.W.Frag) (a : Addr) : He.FnW := match K.lookup a with
  | some ⟨_, _, .func fd, _⟩ => some (fd.name, fd.qualname, fd.params, fd.body, fd.scope, fd.globals, fd.closure, fd.builtins)
  | _ => none
def FD.val (d : FD) : He.FnW := some (d.name, d.qual, d.params, .stmts d.body, d.scope, mainGlobals, [], builtinsNs)
def FD.ok (K : PySem.W.Frag) (d : FD) : Bool := PySem.W.keepIn K (.ref (d.at_ K)) && (match K.lookup (d.at_ K) with
  | some ⟨_, _, .func fd, _⟩ => PySem.W.codeIn K fd.code d.qual && (He.dflB K fd.defaults [] && He.kwdB K fd.kwdefaults [])
  | _ => false)
def frR (g : Addr → Option Obj) (n : Nat) : PySem.W.Frag := He.frT g (List.range n)
def obsF (fns : List FD) (g : Addr → Option Obj) (n : Nat) : List He.FnW := fns.map fun d => fnWA (frR g n) (d.at_ (frR g n))
def obsB (fns : List FD) (ck : PySem.W.Frag → Bool) (tf : List He.Defn) (g : Addr → Option Obj) (n : Nat) : Bool := (fns.all fun d => d.ok (frR g n)) && (ck (frR g n) && He.tabsB g tf (frR g n))
def clsAll (P : Ev.Prog) (f : Nat → Ev.Cls → Bool) : Bool := (List.range P.clss.length).all fun c => match P.clss[c]? with
  | some D => f c D
  | none => true
def tyAll : List Ev.Ty := [.int, .str, .bool, .tuple, .list, .dict]
def insB (cn : Nat → Str) (P : Ev.Prog) (K : PySem.W.Frag) : Bool :=
  eqO (PySem.W.specialIn K (.builtin "object.__class__") "__get__") (some (some (.builtin "getset_descriptor.__get__"))) && (decide (PySem.W.takesIn K (.builtin "object.__class__") = some true) &&
  clsAll P fun c D => !D.ins || ((Fa.cls (cn c)).ok K && (eqO (PySem.W.findIn K (.ref (ga K (cn c))) "__class__") (some (some (.builtin "object.__class__"))) && (decide (PySem.W.mroIn K (ga K (cn c)) (.type "object") = some true) &&
    ((tyAll.all fun t => decide (PySem.W.kitOne K (.ref (ga K (cn c))) (.type (tyName t)) = some false)) && ((tyNames.all fun n => decide (PySem.W.kitOne K (.type n) (.ref (ga K (cn c))) = some false)) &&
      clsAll P fun d D' => !D'.ins || decide (PySem.W.kitOne K (.ref (ga K (cn c))) (.ref (ga K (cn d))) = some (c == d))))))))
def fldB (cn : Nat → Str) (fn : Nat → Str) (P : Ev.Prog) (K : PySem.W.Frag) : Bool := clsAll P fun c D => D.fields.isEmpty || ((Fa.cls (cn c)).ok K && D.fields.all fun m => (Fa.noat (cn c) (fn m)).ok K)
def metB (cn : Nat → Str) (fn : Nat → Str) (P : Ev.Prog) (K : PySem.W.Frag) : Bool := clsAll P fun c D => D.meths.isEmpty || ((Fa.cls (cn c)).ok K && D.meths.all fun q => (Fa.meth (cn c) (fn q.1)).ok K)
def mkrB (cn : Nat → Str) (P : Ev.Prog) (K : PySem.W.Frag) : Bool := clsAll P fun c D => D.init.isNone || (Fa.mkr (cn c)).ok K
def exmB (cn : Nat → Str) (P : Ev.Prog) (K : PySem.W.Frag) : Bool := clsAll P fun c D => !D.xc || clsAll P fun d D' => !D'.xc || (Fa.exm (cn c) (cn d) (Ev.isExc P c d)).ok K
/-- an own class of errors with its own __init__ -/
def oexO (C : Addr) : Obj → Bool
  | ⟨.type t, _, .cls ⟨_, _, .ref a :: bm, _, _, hd, _, _, _, _, del⟩, ⟨[_, _, _, _, some (.builtin n), _]⟩⟩ => decide (t = "type") && (hd && (!del && (decide (a = C) && (PySem.HandSPX.refsVE bm && decide (n = "ValueError.__new__")))))
  | _ => false
def oexB (K : PySem.W.Frag) (C : Addr) : Bool := (match K.lookup C with
  | some o => oexO C o
  | none => false) && (eqO (PySem.W.findIn K (.ref C) "__setattr__") (some (some (.builtin "object.__setattr__"))) && (decide (PySem.W.subIn K (.ref C) (.type "BaseException") = some true) && (decide (PySem.W.typeIn K (.ref C) = some (.type "type")) && PySem.W.keepIn K (.ref C))))
def rziB (cn : Nat → Str) (fn : Nat → Str) (K : PySem.W.Frag) (c f : Nat) : Bool := oexB K (ga K (cn c)) && ((Fa.noat (cn c) (fn f)).ok K && (eqO (PySem.W.findIn K (.ref (ga K (cn c))) "__init__") (some (some (.ref (ma K (ga K (cn c)) "__init__")))) && decide (PySem.W.typeIn K (.ref (ma K (ga K (cn c)) "__init__")) = some (.type "function"))))
def xfB (cn : Nat → Str) (fn : Nat → Str) (K : PySem.W.Frag) (c f : Nat) : Bool := eqO (PySem.W.findIn K (.ref (ga K (cn c))) "__getattribute__") (some (some (.builtin "BaseException.__getattribute__"))) && (eqO (PySem.W.findIn K (.ref (ga K (cn c))) "__getattr__") (some none) && ((Fa.noat (cn c) (fn f)).ok K &&
  (decide (PySem.W.subIn K (.ref (ga K (cn c))) (.type "BaseException") = some true) && PySem.W.hasDictIn K (ga K (cn c)))))
/-- the def within a classmethod object -/
def cmG (K : PySem.W.Frag) (p : Addr) : Addr := match PySem.W.recIn K p "classmethod" with
  | some (.ref g :: _) => g
  | _ => 0
def cmB (K : PySem.W.Frag) (x m : Str) : Bool := PySem.W.readsIn K (ga K x) (.type "type") && (eqO (PySem.W.specialIn K (.ref (ga K x)) "__getattribute__") (some (some (.builtin "type.__getattribute__"))) && ((match PySem.W.findCls K (.ref (ga K x)) (.type "type") m with
  | some (.get (.builtin n) (.ref p) .none (.ref C)) => decide (n = "classmethod.__get__") && (decide (p = ma K (ga K x) m) && decide (C = ga K x))
  | _ => false) && ((match PySem.W.recIn K (ma K (ga K x) m) "classmethod" with
  | some (.ref g :: _) => PySem.W.fnIn K g
  | _ => false))))
/-- the attributes' names; past the list: texts of their own -/
def fnmOf (L : List Str) (i : Nat) : Str := match L[i]? with
  | some x => x
  | none => ⟨Array.replicate (i + 100) 32⟩
end Sb
set_option Elab.async false
set_option linter.all false
set_option autoImplicit false
set_option maxRecDepth 100000
set_option maxHeartbeats 0
namespace K77
open Ev
/-- _wall -/
def d0 : Def := { np := 1, n := 1, body := .hnil }
/-- is_integer -/
def d1 : Def := { np := 1, n := 1, keep := false, body := (.ret (.and (.bf (.isi .int) (.cons (.var 0) .nil)) (.and (.not (.bf (.isi .bool) (.cons (.var 0) .nil))) (.chn .lt .lt (.neg (.cst (.int 1000000000000000000000000000000000000000000000000000000000000))) (.var 0) (.cst (.int 1000000000000000000000000000000000000000000000000000000000000)))))) }
/-- is_within -/
def d2 : Def := { np := 3, n := 3, keep := false, body := (.ret (.and (.call 1 (.cons (.var 0) .nil)) (.chn .le .le (.var 1) (.var 0) (.var 2)))) }
/-- is_word -/
def d3 : Def := { np := 1, n := 2, keep := false, body := (.ret (.and (.bf (.isi .str) (.cons (.var 0) .nil)) (.and (.chn .le .le (.cst (.int 1)) (.bf .len (.cons (.var 0) .nil)) (.cst (.int 8))) (.bf .all (.cons (.lc false [1] (.cls [1] true (.var 0) .nil (.cend (.cmp .inn (.var 1) (.cst (.str [97,98,99,100,101,102,103,104,105,106,107,108,109,110,111,112,113,114,115,116,117,118,119,120,121,122])))))) .nil))))) }
/-- level_of -/
def d4 : Def := { np := 1, n := 3, keep := false, body := (.seq (.ifs (.or (.not (.bf (.isi .str) (.cons (.var 0) .nil))) (.or (.cmp .nin (.bf .len (.cons (.var 0) .nil)) (.tup (.cons (.cst (.int 2)) (.cons (.cst (.int 3)) .nil)))) .nil)) (.ret (.cst (.non))) .skip) .hnil) }
/-- ascending_rows -/
def d5 : Def := { np := 1, n := 2, body := .hnil }
/-- ParseError.__init__ -/
def d6 : Def := { np := 2, n := 2, body := .hnil }
/-- UnknownWord.__init__ -/
def d7 : Def := { np := 2, n := 2, body := .hnil }
/-- InvalidNumber.__init__ -/
def d8 : Def := { np := 2, n := 2, body := .hnil }
/-- signs_of -/
def d9 : Def := { np := 1, n := 4, keep := false, body := (.seq (.asg (.nm 1 .nil) (.lst true .nil)) (.seq (.asg (.nm 2 .nil) (.cst (.int 0))) (.seq (.whl (.cmp .lt (.var 2) (.bf .len (.cons (.var 0) .nil))) (.seq (.asg (.nm 3 .nil) (.cst (.int 1))) (.seq (.ifs (.cmp .inn (.ix (.var 0) (.var 2)) (.cst (.str [97,98,99,100,101,102,103,104,105,106,107,108,109,110,111,112,113,114,115,116,117,118,119,120,121,122]))) (.whl (.and (.cmp .ne (.sl (.var 0) (.cons (.bin .add (.var 2) (.var 3)) .nil) (.cons (.bin .add (.bin .add (.var 2) (.var 3)) (.cst (.int 1))) .nil)) (.cst (.str []))) (.cmp .inn (.ix (.var 0) (.bin .add (.var 2) (.var 3))) (.cst (.str [97,98,99,100,101,102,103,104,105,106,107,108,109,110,111,112,113,114,115,116,117,118,119,120,121,122])))) .hnil) (.ifs (.cmp .eq (.sl (.var 0) (.cons (.var 2) .nil) (.cons (.bin .add (.var 2) (.cst (.int 4))) .nil)) (.cst (.str [32,45,62,32]))) (.asg (.nm 3 .nil) (.cst (.int 4))) (.ifs (.cmp .nin (.ix (.var 0) (.var 2)) (.cst (.str [40,41]))) .hnil .skip))) (.seq (.ex (.bm .append (.var 1) (.cons (.sl (.var 0) (.cons (.var 2) .nil) (.cons (.bin .add (.var 2) (.var 3)) .nil)) .nil))) (.asg (.nm 2 .nil) (.bin .add (.var 2) (.var 3))))))) (.ret (.fz (.var 1)))))) }
/-- KindReader.__init__ -/
def d10 : Def := { np := 1, n := 1, keep := false, body := (.seq (.asg (.fld (.var 0) 0 .nil) (.lst true (.cons (.lst true .nil) .nil))) (.asg (.fld (.var 0) 1 .nil) (.cst (.bl true)))) }
/-- KindReader.take -/
def d11 : Def := { np := 2, n := 3, keep := false, body := (.seq (.ifs (.cmp .eq (.var 1) (.cst (.str [40]))) (.seq (.ex (.bm .append (.fld (.var 0) 0) (.cons (.lst true .nil) .nil))) (.ret (.and (.fld (.var 0) 1) (.cmp .le (.bf .len (.cons (.fld (.var 0) 0) .nil)) (.bin .add (.cst (.int 4)) (.cst (.int 1))))))) .skip) (.seq (.ifs (.or (.cmp .eq (.var 1) (.cst (.str [32,45,62,32]))) (.cmp .eq (.var 1) (.cst (.str [41])))) (.ret (.meth (.var 0) 2 (.cons (.var 1) .nil))) .skip) (.seq (.asg (.nm 2 .nil) (.and (.fld (.var 0) 1) (.call 3 (.cons (.var 1) .nil)))) (.seq (.asg (.fld (.var 0) 1 .nil) (.cst (.bl false))) (.seq (.ex (.bm .append (.ix (.fld (.var 0) 0) (.neg (.cst (.int 1)))) (.cons (.tup (.cons (.tup .nil) (.cons (.var 1) .nil))) .nil))) (.ret (.var 2))))))) }
/-- KindReader.take_end -/
def d12 : Def := { np := 2, n := 3, keep := false, body := (.seq (.ifs (.fld (.var 0) 1) .hnil .skip) (.seq (.ifs (.cmp .eq (.var 1) (.cst (.str [32,45,62,32]))) (.seq (.asg (.fld (.var 0) 1 .nil) (.cst (.bl true))) (.ret (.cst (.bl true)))) .skip) (.seq (.asg (.nm 2 .nil) (.bm .pop (.fld (.var 0) 0) .nil)) (.seq (.ifs (.or (.cmp .eq (.fld (.var 0) 0) (.lst false .nil)) (.or (.cmp .lt (.bf .len (.cons (.var 2) .nil)) (.cst (.int 2))) .nil)) (.ret (.cst (.bl false))) .skip) .hnil)))) }
/-- KindReader.result -/
def d13 : Def := { np := 1, n := 1, keep := false, body := (.seq (.ifs (.or (.fld (.var 0) 1) (.or (.cmp .ne (.bf .len (.cons (.fld (.var 0) 0) .nil)) (.cst (.int 1))) (.cmp .ne (.ix (.ix (.ix (.fld (.var 0) 0) (.cst (.int 0))) (.neg (.cst (.int 1)))) (.cst (.int 0))) (.tup .nil)))) .hnil .skip) (.ret (.tup (.cons (.bf .tuple (.cons (.sl (.ix (.fld (.var 0) 0) (.cst (.int 0))) .nil (.cons (.neg (.cst (.int 1))) .nil)) .nil)) (.cons (.ix (.ix (.ix (.fld (.var 0) 0) (.cst (.int 0))) (.neg (.cst (.int 1)))) (.cst (.int 1))) .nil))))) }
/-- shape_of -/
def d14 : Def := { np := 1, n := 4, keep := false, body := (.seq (.asg (.nm 1 .nil) (.ite (.bf (.isi .str) (.cons (.var 0) .nil)) (.call 9 (.cons (.var 0) .nil)) .nil)) (.seq (.ifs (.or (.isN false (.var 1)) (.cmp .gt (.bf .len (.cons (.lc false [3] (.cls [3] true (.var 1) (.cons (.cmp .nin (.var 3) (.tup (.cons (.cst (.str [40])) (.cons (.cst (.str [41])) (.cons (.cst (.str [32,45,62,32])) .nil))))) .nil) (.cend (.var 3)))) .nil)) (.cst (.int 15)))) .hnil .skip) (.seq (.asg (.nm 2 .nil) (.new 11 .nil)) (.seq (.for_ [3] true (.var 1) (.ifs (.not (.meth (.var 2) 3 (.cons (.var 3) .nil))) (.ret (.cst (.non))) .skip)) (.ret (.meth (.var 2) 4 .nil)))))) }
/-- kind_in -/
def d15 : Def := { np := 1, n := 2, keep := false, body := (.ret (.new 12 (.cons (.bf .tuple (.cons (.lc false [1] (.cls [1] true (.ix (.var 0) (.cst (.int 0))) .nil (.cend .nil))) .nil)) (.cons (.ix (.var 0) (.cst (.int 1))) .nil)))) }
/-- order_of -/
def d16 : Def := { np := 1, n := 2, keep := false, body := (.ret (.ite (.cmp .ne (.var 0) (.tup .nil)) .nil (.cst (.int 0)))) }
/-- input_text -/
def d17 : Def := { np := 1, n := 1, body := .hnil }
/-- Type.__init__ -/
def d18 : Def := { np := 3, n := 5, keep := false, body := (.seq (.ifs (.or (.not (.bf (.isi .tuple) (.cons (.var 1) .nil))) (.not (.bf .all (.cons (.lc false [3] (.cls [3] true (.var 1) .nil (.cend .nil))) .nil)))) .hnil .skip) (.seq (.ifs (.not (.call 3 (.cons (.var 2) .nil))) .hnil .skip) (.seq (.asg (.fld (.var 0) 5 .nil) (.var 1)) (.seq (.asg (.fld (.var 0) 6 .nil) (.var 2)) (.seq (.asg (.fld (.var 0) 7 .nil) (.tup (.star (.lc false [3,4] (.cls [3] true (.var 1) .nil (.cls [4] true .nil .nil (.cend .nil)))) (.cons (.var 2) .nil)))) (.seq (.asg (.fld (.var 0) 8 .nil) (.call 16 (.cons (.var 1) .nil))) (.seq (.ifs (.or (.cmp .gt (.bf .len (.cons (.fld (.var 0) 7) .nil)) (.cst (.int 15))) (.cmp .gt (.fld (.var 0) 8) (.cst (.int 4)))) .hnil .skip) (.asg (.fld (.var 0) 9 .nil) (.bm .join (.cst (.str [32,45,62,32])) (.cons (.lst false (.star (.lc false [3] (.cls [3] true (.var 1) .nil (.cend .nil))) (.cons (.var 2) .nil))) .nil)))))))))) }
/-- Type.read -/
def d19 : Def := { np := 2, n := 3, keep := false, body := (.seq (.asg (.nm 2 .nil) (.call 39 (.cons (.var 1) .nil))) (.seq (.ifs (.isN false (.var 2)) .hnil .skip) (.ret (.var 2)))) }
/-- Type.plain -/
def d20 : Def := { np := 2, n := 2, body := .hnil }
/-- Type.inputs -/
def d21 : Def := { np := 1, n := 1, body := .hnil }
/-- Type.atom -/
def d22 : Def := { np := 1, n := 1, body := .hnil }
/-- Type.text -/
def d23 : Def := { np := 1, n := 1, body := .hnil }
/-- Type.order -/
def d24 : Def := { np := 1, n := 1, body := .hnil }
/-- Type.atoms -/
def d25 : Def := { np := 1, n := 1, body := .hnil }
/-- Type.parts -/
def d26 : Def := { np := 1, n := 4, body := .hnil }
/-- Type.positive -/
def d27 : Def := { np := 1, n := 1, body := .hnil }
/-- Type.negative -/
def d28 : Def := { np := 1, n := 1, body := .hnil }
/-- Type.renamed -/
def d29 : Def := { np := 2, n := 2, body := .hnil }
/-- Type.put -/
def d30 : Def := { np := 3, n := 3, body := .hnil }
/-- Type.__rshift__ -/
def d31 : Def := { np := 2, n := 2, body := .hnil }
/-- Type.__mod__ -/
def d32 : Def := { np := 2, n := 2, body := .hnil }
/-- Type.__getitem__ -/
def d33 : Def := { np := 2, n := 2, body := .hnil }
/-- Type.__len__ -/
def d34 : Def := { np := 1, n := 1, body := .hnil }
/-- Type.__iter__ -/
def d35 : Def := { np := 1, n := 1, body := .hnil }
/-- Type.__contains__ -/
def d36 : Def := { np := 2, n := 3, body := .hnil }
/-- Type.__eq__ -/
def d37 : Def := { np := 2, n := 2, body := .hnil }
/-- Type.__str__ -/
def d38 : Def := { np := 1, n := 1, body := .hnil }
/-- type_of_text -/
def d39 : Def := { np := 1, n := 2, keep := false, body := (.seq (.asg (.nm 1 .nil) (.call 14 (.cons (.var 0) .nil))) (.try_ (.ret (.ite (.isN false (.var 1)) (.cst (.non)) (.call 15 (.cons (.var 1) .nil)))) .brk)) }
/-- parts_list -/
def d40 : Def := { np := 1, n := 3, body := .hnil }
/-- signed_atoms -/
def d41 : Def := { np := 2, n := 4, body := .hnil }
/-- is_parts -/
def d42 : Def := { np := 1, n := 3, body := .hnil }
/-- part_of_line -/
def d43 : Def := { np := 1, n := 2, body := .hnil }
/-- Library.__init__ -/
def d44 : Def := { np := 2, n := 5, body := .hnil }
/-- Library.read -/
def d45 : Def := { np := 2, n := 6, body := .hnil }
/-- Library.parts -/
def d46 : Def := { np := 1, n := 1, body := .hnil }
/-- Library.names -/
def d47 : Def := { np := 1, n := 1, body := .hnil }
/-- Library.lines -/
def d48 : Def := { np := 1, n := 1, body := .hnil }
/-- Library.atoms -/
def d49 : Def := { np := 1, n := 1, body := .hnil }
/-- Library.scope -/
def d50 : Def := { np := 1, n := 1, body := .hnil }
/-- Library.order -/
def d51 : Def := { np := 1, n := 2, body := .hnil }
/-- Library.require_names -/
def d52 : Def := { np := 2, n := 2, body := .hnil }
/-- Library.with_part -/
def d53 : Def := { np := 3, n := 3, body := .hnil }
/-- Library.without -/
def d54 : Def := { np := 2, n := 2, body := .hnil }
/-- Library.only -/
def d55 : Def := { np := 2, n := 2, body := .hnil }
/-- Library.renamed -/
def d56 : Def := { np := 2, n := 2, body := .hnil }
/-- Library.with_atoms -/
def d57 : Def := { np := 2, n := 2, body := .hnil }
/-- Library.heads -/
def d58 : Def := { np := 2, n := 4, body := .hnil }
/-- Library.is_part_of -/
def d59 : Def := { np := 2, n := 2, body := .hnil }
/-- Library.__or__ -/
def d60 : Def := { np := 2, n := 2, body := .hnil }
/-- Library.__and__ -/
def d61 : Def := { np := 2, n := 4, body := .hnil }
/-- Library.__sub__ -/
def d62 : Def := { np := 2, n := 4, body := .hnil }
/-- Library.__getitem__ -/
def d63 : Def := { np := 2, n := 2, body := .hnil }
/-- Library.__contains__ -/
def d64 : Def := { np := 2, n := 2, body := .hnil }
/-- Library.__len__ -/
def d65 : Def := { np := 1, n := 1, body := .hnil }
/-- Library.__iter__ -/
def d66 : Def := { np := 1, n := 1, body := .hnil }
/-- Library.__eq__ -/
def d67 : Def := { np := 2, n := 2, body := .hnil }
/-- Library.__str__ -/
def d68 : Def := { np := 1, n := 1, body := .hnil }
/-- require_library -/
def d69 : Def := { np := 1, n := 1, keep := false, body := (.ifs (.not (.bf (.isic 13) (.cons (.var 0) .nil))) (.rais 3 .nil) .skip) }
/-- require_other_library -/
def d70 : Def := { np := 1, n := 1, body := .hnil }
/-- atoms_in -/
def d71 : Def := { np := 1, n := 3, body := .hnil }
/-- has_part -/
def d72 : Def := { np := 3, n := 3, body := .hnil }
/-- united_library -/
def d73 : Def := { np := 2, n := 4, body := .hnil }
/-- is_scope -/
def d74 : Def := { np := 1, n := 4, keep := false, body := (.seq (.ifs (.or (.not (.bf (.isi .tuple) (.cons (.var 0) .nil))) (.or (.cmp .gt (.bf .len (.cons (.var 0) .nil)) (.cst (.int 140))) (.not (.bf .all (.cons (.lc false [1] (.cls [1] true (.var 0) .nil (.cend (.bf (.isi .str) (.cons (.var 1) .nil))))) .nil))))) (.ret (.cst (.bl false))) .skip) (.seq (.ifs (.not (.bf .all (.cons (.lc false [2,3] (.cls [2,3] false (.bf .list (.cons (.bf .zip (.cons (.var 0) (.cons (.sl (.var 0) (.cons (.cst (.int 1)) .nil) .nil) .nil))) .nil)) .nil (.cend (.cmp .lt (.var 2) (.var 3))))) .nil))) (.ret (.cst (.bl false))) .skip) (.ret (.bf .all (.cons (.lc false [1] (.cls [1] true (.var 0) .nil (.cend (.isN true (.call 39 (.cons (.var 1) .nil)))))) .nil))))) }
/-- is_question -/
def d75 : Def := { np := 1, n := 1, keep := false, body := (.ret (.and (.bf (.isi .tuple) (.cons (.var 0) .nil)) (.and (.cmp .eq (.bf .len (.cons (.var 0) .nil)) (.cst (.int 2))) (.and (.call 74 (.cons (.ix (.var 0) (.cst (.int 0))) .nil)) (.call 3 (.cons (.ix (.var 0) (.cst (.int 1))) .nil)))))) }
/-- is_node -/
def d76 : Def := { np := 2, n := 2, keep := false, body := (.seq (.ifs (.or (.not (.bf (.isi .tuple) (.cons (.var 0) .nil))) (.or (.cmp .ne (.bf .len (.cons (.var 0) .nil)) (.cst (.int 3))) (.not (.bf (.isi .str) (.cons (.ix (.var 0) (.cst (.int 1))) .nil))))) .hnil .skip) (.seq (.ifs (.or (.not (.call 2 (.cons (.ix (.var 0) (.cst (.int 0))) (.cons (.cst (.int 0)) (.cons (.cst (.int 15)) .nil))))) (.not (.call 2 (.cons (.ix (.var 0) (.cst (.int 2))) (.cons (.cst (.int 0)) (.cons (.cst (.int 15)) .nil)))))) .hnil .skip) (.ret (.or (.call 3 (.cons (.ix (.var 0) (.cst (.int 1))) .nil)) (.or .nil .nil))))) }
/-- kids_of -/
def d77 : Def := { np := 1, n := 6, keep := false, body := (.seq (.asg (.nm 1 .nil) (.lc true [5] (.cls [5] true (.var 0) .nil (.cend (.tup .nil))))) (.seq (.asg (.nm 2 .nil) (.lst false .nil)) (.seq (.for_ [3] true (.bf .range (.cons (.bin .sub (.bf .len (.cons (.var 0) .nil)) (.cst (.int 1))) (.cons (.neg (.cst (.int 1))) (.cons (.neg (.cst (.int 1))) .nil)))) (.seq (.asg (.nm 4 .nil) (.bin .sub (.bf .len (.cons (.var 2) .nil)) (.ix (.ix (.var 0) (.var 3)) (.cst (.int 2))))) (.seq (.ifs (.cmp .lt (.var 4) (.cst (.int 0))) .hnil .skip) (.seq (.asg (.ix (.var 1) (.var 3) .nil) (.bf .tuple (.cons (.rv (.sl (.var 2) (.cons (.var 4) .nil) .nil)) .nil))) (.asg (.nm 2 .nil) (.lst false (.star (.sl (.var 2) .nil (.cons (.var 4) .nil)) (.cons (.var 3) .nil)))))))) (.ret (.ite (.cmp .eq (.var 2) (.lst false (.cons (.cst (.int 0)) .nil))) (.fz (.var 1)) .nil))))) }
/-- ends_of -/
def d78 : Def := { np := 1, n := 3, keep := false, body := (.seq (.asg (.nm 1 .nil) (.lc true [2] (.cls [2] true (.bf .range (.cons (.bf .len (.cons (.var 0) .nil)) .nil)) .nil (.cend (.bin .add (.var 2) (.cst (.int 1))))))) (.seq (.for_ [2] true (.bf .range (.cons (.bin .sub (.bf .len (.cons (.var 0) .nil)) (.cst (.int 1))) (.cons (.neg (.cst (.int 1))) (.cons (.neg (.cst (.int 1))) .nil)))) (.ifs (.cmp .ne (.ix (.var 0) (.var 2)) (.tup .nil)) (.asg (.ix (.var 1) (.var 2) .nil) (.ix (.var 1) (.ix (.ix (.var 0) (.var 2)) (.neg (.cst (.int 1)))))) .skip)) (.ret (.fz (.var 1))))) }
/-- bound_of -/
def d79 : Def := { np := 2, n := 7, keep := false, body := (.seq (.asg (.nm 2 .nil) (.lc true [6] (.cls [6] true (.var 0) .nil (.cend (.cst (.int 0)))))) (.seq (.for_ [3,4] false (.bf .enum (.cons (.var 1) .nil)) (.for_ [5] true (.var 4) (.asg (.ix (.var 2) (.var 5) .nil) (.bin .add (.ix (.var 2) (.var 3)) (.ix (.ix (.var 0) (.var 3)) (.cst (.int 0))))))) (.ret (.fz (.var 2))))) }
/-- are_nodes -/
def d80 : Def := { np := 2, n := 9, keep := false, body := (.seq (.ifs (.or (.not (.bf (.isi .tuple) (.cons (.var 0) .nil))) (.not (.chn .le .le (.cst (.int 1)) (.bf .len (.cons (.var 0) .nil)) (.cst (.int 40))))) .hnil .skip) (.seq (.ifs (.not (.bf .all (.cons (.lc false [5] (.cls [5] true (.var 0) .nil (.cend (.call 76 (.cons (.var 5) (.cons (.var 1) .nil)))))) .nil))) .hnil .skip) (.seq (.asg (.nm 2 .nil) (.call 77 (.cons (.var 0) .nil))) (.seq (.ifs (.isN false (.var 2)) .hnil .skip) (.seq (.asg (.nm 3 .nil) (.lc false [5] (.cls [5] true (.var 0) .nil (.cend (.call 4 (.cons (.ix (.var 5) (.cst (.int 1))) .nil)))))) (.seq (.asg (.nm 4 .nil) (.lc false [6,5] (.cls [6,5] false (.bf .zip (.cons (.call 79 (.cons (.var 0) (.cons (.var 2) .nil))) (.cons (.var 0) .nil))) .nil (.cend (.bin .add (.var 6) (.ix (.var 5) (.cst (.int 0)))))))) (.ret (.bf .all (.cons (.lc false [7,8] (.cls [7,8] false (.bf .zip (.cons (.var 4) (.cons (.var 3) .nil))) .nil (.cend (.and (.cmp .le (.var 7) (.bin .add (.cst (.int 99)) (.cst (.int 1)))) (.or (.isN false (.var 8)) .nil))))) .nil))))))))) }
/-- variable_text -/
def d81 : Def := { np := 1, n := 1, body := .hnil }
/-- node_text -/
def d82 : Def := { np := 4, n := 11, body := .hnil }
/-- argument_text -/
def d83 : Def := { np := 4, n := 5, body := .hnil }
/-- tokens_of -/
def d84 : Def := { np := 1, n := 4, keep := false, body := (.seq (.asg (.nm 1 .nil) (.lst true .nil)) (.seq (.asg (.nm 2 .nil) (.cst (.int 0))) (.seq (.whl (.cmp .lt (.var 2) (.bf .len (.cons (.var 0) .nil))) (.seq (.asg (.nm 3 .nil) (.cst (.int 1))) (.seq (.ifs (.cmp .inn (.ix (.var 0) (.var 2)) (.bin .add (.cst (.str [97,98,99,100,101,102,103,104,105,106,107,108,109,110,111,112,113,114,115,116,117,118,119,120,121,122])) (.cst (.str [48,49,50,51,52,53,54,55,56,57])))) (.whl (.and (.cmp .ne (.sl (.var 0) (.cons (.bin .add (.var 2) (.var 3)) .nil) (.cons (.bin .add (.bin .add (.var 2) (.var 3)) (.cst (.int 1))) .nil)) (.cst (.str []))) (.cmp .inn (.ix (.var 0) (.bin .add (.var 2) (.var 3))) (.bin .add (.cst (.str [97,98,99,100,101,102,103,104,105,106,107,108,109,110,111,112,113,114,115,116,117,118,119,120,121,122])) (.cst (.str [48,49,50,51,52,53,54,55,56,57]))))) .hnil) (.ifs (.cmp .eq (.sl (.var 0) (.cons (.var 2) .nil) (.cons (.bin .add (.var 2) (.cst (.int 2))) .nil)) (.cst (.str [46,32]))) .hnil (.ifs (.cmp .nin (.ix (.var 0) (.var 2)) (.bin .add (.bin .add (.cst (.str [32,40,41])) (.cst (.str [92]))) (.cst (.str [63])))) .hnil .skip))) (.seq (.ex (.bm .append (.var 1) (.cons (.sl (.var 0) (.cons (.var 2) .nil) (.cons (.bin .add (.var 2) (.var 3)) .nil)) .nil))) (.asg (.nm 2 .nil) (.bin .add (.var 2) (.var 3))))))) (.ret (.fz (.var 1)))))) }
/-- Reader.__init__ -/
def d85 : Def := { np := 2, n := 2, keep := false, body := (.seq (.asg (.fld (.var 0) 10 .nil) (.var 1)) (.seq (.asg (.fld (.var 0) 11 .nil) (.cst (.int 0))) (.seq (.asg (.fld (.var 0) 12 .nil) (.lst true .nil)) (.asg (.fld (.var 0) 13 .nil) (.lst true .nil))))) }
/-- Reader.token -/
def d86 : Def := { np := 1, n := 2, keep := false, body := (.seq (.asg (.nm 1 .nil) (.ite (.cmp .lt (.fld (.var 0) 11) (.bf .len (.cons (.fld (.var 0) 10) .nil))) (.ix (.fld (.var 0) 10) (.fld (.var 0) 11)) .nil)) (.seq (.asg (.fld (.var 0) 11 .nil) (.bin .add (.fld (.var 0) 11) (.cst (.int 1)))) (.ret (.var 1)))) }
/-- Reader.binders -/
def d87 : Def := { np := 2, n := 4, keep := false, body := (.seq (.ifs (.cmp .ne (.meth (.var 0) 14 .nil) (.cst (.str [92]))) (.seq (.asg (.fld (.var 0) 11 .nil) (.bin .sub (.fld (.var 0) 11) (.cst (.int 1)))) (.ret (.cst (.int 0)))) .skip) .hnil) }
/-- Reader.begin -/
def d88 : Def := { np := 1, n := 3, keep := false, body := (.seq (.asg (.nm 1 .nil) (.ite (.cmp .ne (.fld (.var 0) 13) (.lst false .nil)) .nil (.cst (.int 0)))) (.seq (.asg (.nm 2 .nil) (.meth (.var 0) 15 (.cons (.var 1) .nil))) (.seq (.ifs (.isN false (.var 2)) .hnil .skip) (.seq (.ex (.bm .append (.fld (.var 0) 13) (.cons (.tup (.cons (.bf .len (.cons (.fld (.var 0) 12) .nil)) (.cons (.bin .add (.var 1) (.var 2)) .nil))) .nil))) (.ret (.meth (.var 0) 16 (.cons (.var 2) .nil))))))) }
/-- Reader.add -/
def d89 : Def := { np := 2, n := 3, keep := false, body := (.seq (.asg (.nm 2 .nil) (.meth (.var 0) 14 .nil)) (.seq (.ex (.bm .append (.fld (.var 0) 12) (.cons (.tup (.cons (.var 1) (.cons (.var 2) (.cons (.cst (.int 0)) .nil)))) .nil))) (.ret (.and (.call 76 (.cons (.tup (.cons (.cst (.int 0)) (.cons (.var 2) (.cons (.cst (.int 0)) .nil)))) (.cons (.cst (.bl true)) .nil))) (.cmp .le (.bf .len (.cons (.fld (.var 0) 12) .nil)) (.cst (.int 40))))))) }
/-- Reader.go_on -/
def d90 : Def := { np := 1, n := 6, keep := false, body := (.seq (.asg (.nm 1 .nil) (.meth (.var 0) 14 .nil)) (.seq (.ifs (.cmp .eq (.var 1) (.cst (.str [41]))) .hnil .skip) (.seq (.ifs (.cmp .ne (.var 1) (.cst (.str [32]))) .hnil .skip) (.seq (.asg (.nm 2 .nil) (.ix (.ix (.fld (.var 0) 13) (.neg (.cst (.int 1)))) (.cst (.int 0)))) (.seq (.unp (.nm 3 (.nm 4 (.nm 5 .nil))) (.ix (.fld (.var 0) 12) (.var 2))) (.seq (.asg (.ix (.fld (.var 0) 12) (.var 2) .nil) (.tup (.cons (.var 3) (.cons (.var 4) (.cons (.bin .add (.var 5) (.cst (.int 1))) .nil))))) (.seq (.ifs (.cmp .eq (.meth (.var 0) 14 .nil) (.cst (.str [40]))) .hnil .skip) (.seq (.asg (.fld (.var 0) 11 .nil) (.bin .sub (.fld (.var 0) 11) (.cst (.int 1)))) (.ret (.meth (.var 0) 16 (.cons (.cst (.int 0)) .nil))))))))))) }
/-- nodes_of -/
def d91 : Def := { np := 1, n := 4, keep := false, body := (.seq (.asg (.nm 1 .nil) (.ite (.bf (.isi .str) (.cons (.var 0) .nil)) (.call 84 (.cons (.var 0) .nil)) .nil)) (.seq (.ifs (.isN false (.var 1)) .hnil .skip) (.seq (.asg (.nm 2 .nil) (.new 14 (.cons (.var 1) .nil))) (.seq (.ifs (.not (.meth (.var 2) 17 .nil)) .hnil .skip) (.seq (.whl (.cmp .lt (.fld (.var 2) 11) (.bf .len (.cons (.var 1) .nil))) (.ifs (.not (.meth (.var 2) 18 .nil)) .hnil .skip)) (.seq (.asg (.nm 3 .nil) (.bf .tuple (.cons (.fld (.var 2) 12) .nil))) (.ret (.ite (.and (.cmp .eq (.bf .len (.cons (.fld (.var 2) 13) .nil)) (.cst (.int 1))) (.call 80 (.cons (.var 3) (.cons (.cst (.bl true)) .nil)))) (.var 3) .nil)))))))) }
/-- Nodes.__init__ -/
def d92 : Def := { np := 2, n := 2, body := .hnil }
/-- program_in -/
def d93 : Def := { np := 1, n := 1, body := .hnil }
/-- Program.__init__ -/
def d94 : Def := { np := 2, n := 2, keep := false, body := (.seq (.ifs (.bf (.isic 15) (.cons (.var 1) .nil)) .hnil (.ifs (.not (.call 80 (.cons (.var 1) (.cons (.cst (.bl false)) .nil)))) .hnil (.asg (.fld (.var 0) 19 .nil) (.var 1)))) (.seq (.asg (.fld (.var 0) 20 .nil) (.bf .tuple (.cons (.call 77 (.cons (.fld (.var 0) 19) .nil)) .nil))) (.seq (.asg (.fld (.var 0) 21 .nil) (.bf .tuple (.cons (.call 78 (.cons (.fld (.var 0) 20) .nil)) .nil))) (.asg (.fld (.var 0) 22 .nil) (.bf .tuple (.cons (.call 79 (.cons (.fld (.var 0) 19) (.cons (.fld (.var 0) 20) .nil))) .nil)))))) }
/-- Program.read -/
def d95 : Def := { np := 2, n := 3, keep := false, body := (.seq (.asg (.nm 2 .nil) (.call 91 (.cons (.var 1) .nil))) (.seq (.ifs (.or (.isN false (.var 2)) (.not (.call 80 (.cons (.var 2) (.cons (.cst (.bl false)) .nil))))) .hnil .skip) (.ret (.callv (.var 0) (.cons (.var 2) .nil))))) }
/-- Program.nodes -/
def d96 : Def := { np := 1, n := 1, body := .hnil }
/-- Program.text -/
def d97 : Def := { np := 1, n := 1, body := .hnil }
/-- Program.size -/
def d98 : Def := { np := 1, n := 1, body := .hnil }
/-- Program.parts -/
def d99 : Def := { np := 1, n := 1, body := .hnil }
/-- Program.counts -/
def d100 : Def := { np := 1, n := 1, body := .hnil }
/-- Program.require_place -/
def d101 : Def := { np := 2, n := 2, body := .hnil }
/-- Program.arguments -/
def d102 : Def := { np := 2, n := 2, body := .hnil }
/-- Program.bound -/
def d103 : Def := { np := 2, n := 2, body := .hnil }
/-- Program.way_to -/
def d104 : Def := { np := 2, n := 2, body := .hnil }
/-- Program.end -/
def d105 : Def := { np := 2, n := 2, body := .hnil }
/-- Program.renamed -/
def d106 : Def := { np := 2, n := 2, body := .hnil }
/-- Program.comes_ahead -/
def d107 : Def := { np := 2, n := 2, body := .hnil }
/-- Program.__getitem__ -/
def d108 : Def := { np := 2, n := 2, body := .hnil }
/-- Program.__len__ -/
def d109 : Def := { np := 1, n := 1, body := .hnil }
/-- Program.__iter__ -/
def d110 : Def := { np := 1, n := 1, body := .hnil }
/-- Program.__contains__ -/
def d111 : Def := { np := 2, n := 2, body := .hnil }
/-- Program.__eq__ -/
def d112 : Def := { np := 2, n := 2, body := .hnil }
/-- Program.__str__ -/
def d113 : Def := { np := 1, n := 1, body := .hnil }
/-- parts_used -/
def d114 : Def := { np := 1, n := 4, body := .hnil }
/-- is_index_tuple -/
def d115 : Def := { np := 2, n := 4, body := .hnil }
/-- is_word_tuple -/
def d116 : Def := { np := 1, n := 3, body := .hnil }
/-- is_reach -/
def d117 : Def := { np := 1, n := 5, body := .hnil }
/-- are_truths -/
def d118 : Def := { np := 2, n := 6, body := .hnil }
/-- Room.__init__ -/
def d119 : Def := { np := 3, n := 3, body := .hnil }
/-- Room.reach -/
def d120 : Def := { np := 1, n := 1, body := .hnil }
/-- Room.truths -/
def d121 : Def := { np := 1, n := 1, body := .hnil }
/-- Room.atoms -/
def d122 : Def := { np := 1, n := 3, body := .hnil }
/-- Room.require_world -/
def d123 : Def := { np := 2, n := 2, body := .hnil }
/-- Room.bears -/
def d124 : Def := { np := 3, n := 3, body := .hnil }
/-- Room.bears_all -/
def d125 : Def := { np := 3, n := 3, body := .hnil }
/-- Room.bearing -/
def d126 : Def := { np := 2, n := 2, body := .hnil }
/-- Room.refusing -/
def d127 : Def := { np := 3, n := 3, body := .hnil }
/-- Room.upper -/
def d128 : Def := { np := 2, n := 2, body := .hnil }
/-- Room.beside -/
def d129 : Def := { np := 2, n := 2, body := .hnil }
/-- Room.classes -/
def d130 : Def := { np := 1, n := 1, body := .hnil }
/-- Room.merged -/
def d131 : Def := { np := 1, n := 1, body := .hnil }
/-- Room.renamed -/
def d132 : Def := { np := 2, n := 2, body := .hnil }
/-- Room.with_atom -/
def d133 : Def := { np := 3, n := 3, body := .hnil }
/-- Room.__getitem__ -/
def d134 : Def := { np := 2, n := 2, body := .hnil }
/-- Room.__len__ -/
def d135 : Def := { np := 1, n := 1, body := .hnil }
/-- Room.__iter__ -/
def d136 : Def := { np := 1, n := 1, body := .hnil }
/-- Room.__eq__ -/
def d137 : Def := { np := 2, n := 2, body := .hnil }
/-- Room.__str__ -/
def d138 : Def := { np := 1, n := 4, body := .hnil }
/-- number_of -/
def d139 : Def := { np := 1, n := 2, keep := false, body := (.seq (.ifs (.or (.not (.chn .le .le (.cst (.int 1)) (.bf .len (.cons (.var 0) .nil)) (.cst (.int 60)))) (.not (.bf .all (.cons (.lc false [1] (.cls [1] true (.var 0) .nil (.cend (.cmp .inn (.var 1) (.cst (.str [48,49,50,51,52,53,54,55,56,57])))))) .nil)))) (.ret (.cst (.non))) .skip) (.ret (.ite (.or (.cmp .eq (.var 0) (.cst (.str [48]))) (.cmp .ne (.ix (.var 0) (.cst (.int 0))) (.cst (.str [48])))) (.bf .int (.cons (.var 0) .nil)) .nil))) }
/-- lines_of -/
def d140 : Def := { np := 1, n := 1, keep := false, body := (.seq (.ifs (.not (.bf (.isi .str) (.cons (.var 0) .nil))) (.rais 8 (.cons (.cst (.non)) .nil)) .skip) (.ret (.ite (.cmp .ne (.var 0) (.cst (.str [110,111,110,101]))) (.bm .split (.var 0) (.cons (.cst (.str [10])) .nil)) .nil))) }
/-- question_text -/
def d141 : Def := { np := 1, n := 2, keep := false, body := (.seq (.asg (.nm 1 .nil) (.bm .join (.cst (.str [59,32])) (.cons (.bf .list (.cons (.ix (.var 0) (.cst (.int 0))) .nil)) .nil))) (.ret (.bin .add (.bin .add (.ite (.cmp .ne (.var 1) (.cst (.str []))) .nil (.cst (.str []))) (.cst (.str [124,45,32]))) (.ix (.var 0) (.cst (.int 1)))))) }
/-- question_told -/
def d142 : Def := { np := 1, n := 3, keep := false, body := (.seq (.ifs (.cmp .eq (.sl (.var 0) .nil (.cons (.cst (.int 3)) .nil)) (.cst (.str [124,45,32]))) (.asg (.nm 1 .nil) (.tup (.cons (.tup .nil) (.cons (.sl (.var 0) (.cons (.cst (.int 3)) .nil) .nil) .nil)))) .hnil) (.ret (.ite (.call 75 (.cons (.var 1) .nil)) (.var 1) .nil))) }
/-- write_question -/
def d143 : Def := { np := 1, n := 1, keep := false, body := (.seq (.ifs (.not (.call 75 (.cons (.var 0) .nil))) (.rais 5 .nil) .skip) (.ret (.call 141 (.cons (.var 0) .nil)))) }
/-- read_question -/
def d144 : Def := { np := 1, n := 2, keep := false, body := (.seq (.asg (.nm 1 .nil) (.ite (.bf (.isi .str) (.cons (.var 0) .nil)) .nil (.cst (.non)))) (.seq (.ifs (.isN false (.var 1)) (.rais 8 (.cons (.cst (.non)) .nil)) .skip) .hnil)) }
/-- is_rank_dict -/
def d145 : Def := { np := 1, n := 3, keep := false, body := (.seq (.ifs (.or (.not (.bf (.isi .dict) (.cons (.var 0) .nil))) (.not (.bf .all (.cons (.lc false [2] (.cls [2] true (.var 0) .nil (.cend (.call 75 (.cons (.var 2) .nil))))) .nil)))) (.ret (.cst (.bl false))) .skip) (.ret (.bf .all (.cons (.lc false [1] (.cls [1] true (.bm .values (.var 0) .nil) .nil (.cend (.and (.call 1 (.cons (.var 1) .nil)) (.cmp .ge (.var 1) (.cst (.int 1))))))) .nil)))) }
/-- write_ranks -/
def d146 : Def := { np := 1, n := 3, keep := false, body := (.seq (.ifs (.not (.call 145 (.cons (.var 0) .nil))) (.rais 7 .nil) .skip) (.seq (.asg (.nm 1 .nil) (.lc false [2] (.cls [2] true (.bf .sorted (.cons (.bf .list (.cons (.var 0) .nil)) .nil)) .nil (.cend (.fs (.cons (.ix (.var 0) (.var 2)) (.cons (.cst (.str [32])) (.cons (.call 141 (.cons (.var 2) .nil)) .nil)))))))) (.ret (.ite (.cmp .ne (.var 1) (.lst false .nil)) (.bm .join (.cst (.str [10])) (.cons (.var 1) .nil)) .nil)))) }
/-- rank_told -/
def d147 : Def := { np := 1, n := 6, keep := false, body := (.seq (.unp (.nm 1 (.nm 2 (.nm 3 .nil))) (.bm .partition (.var 0) (.cons (.cst (.str [32])) .nil))) (.seq (.par (.nm 4 (.nm 5 .nil)) (.cons (.call 139 (.cons (.var 1) .nil)) (.cons (.call 142 (.cons (.var 3) .nil)) .nil))) (.ret (.ite (.or (.isN false (.var 4)) (.or (.cmp .eq (.var 4) (.cst (.int 0))) (.isN false (.var 5)))) (.cst (.non)) (.tup (.cons (.var 5) (.cons (.var 4) .nil))))))) }
/-- pairs_told -/
def d148 : Def := { np := 2, n := 7, keep := false, body := (.seq (.asg (.nm 2 .nil) (.dic true .nil)) (.seq (.asg (.nm 3 .nil) (.cst (.non))) (.seq (.for_ [4,5] false (.bf .enum (.cons (.call 140 (.cons (.var 0) .nil)) .nil)) (.seq (.asg (.nm 6 .nil) (.callv (.var 1) (.cons (.var 5) .nil))) (.seq (.ifs (.or (.isN false (.var 6)) (.and (.isN true (.var 3)) .nil)) (.rais 8 (.cons (.var 4) .nil)) .skip) (.seq (.asg (.nm 3 .nil) (.ix (.var 6) (.cst (.int 0)))) (.asg (.ix (.var 2) (.var 3) .nil) (.ix (.var 6) (.cst (.int 1)))))))) (.ret (.fz (.var 2)))))) }
/-- read_ranks -/
def d149 : Def := { np := 1, n := 1, keep := false, body := (.ret (.call 148 (.cons (.var 0) (.cons (.cst (.fn 147)) .nil)))) }
/-- world_text -/
def d150 : Def := { np := 1, n := 4, body := .hnil }
/-- world_told -/
def d151 : Def := { np := 1, n := 5, body := .hnil }
/-- write_room -/
def d152 : Def := { np := 1, n := 2, keep := false, body := (.seq (.ifs (.not (.bf (.isic 17) (.cons (.var 0) .nil))) (.rais 6 .nil) .skip) .hnil) }
/-- read_room -/
def d153 : Def := { np := 1, n := 4, keep := false, body := (.seq (.ifs (.not (.bf (.isi .str) (.cons (.var 0) .nil))) (.rais 8 (.cons (.cst (.non)) .nil)) .skip) .hnil) }
/-- write_puts -/
def d154 : Def := { np := 1, n := 4, keep := false, body := (.seq (.ifs (.or (.not (.bf (.isi .dict) (.cons (.var 0) .nil))) (.not (.bf .all (.cons (.lc false [2] (.cls [2] true (.var 0) .nil (.cend (.call 3 (.cons (.var 2) .nil))))) .nil)))) (.rais 7 .nil) .skip) (.seq (.ifs (.not (.bf .all (.cons (.lc false [3] (.cls [3] true (.bm .values (.var 0) .nil) .nil (.cend (.bf (.isic 16) (.cons (.var 3) .nil))))) .nil))) (.rais 7 .nil) .skip) (.seq (.asg (.nm 1 .nil) (.lc false [2] (.cls [2] true (.bf .sorted (.cons (.bf .list (.cons (.var 0) .nil)) .nil)) .nil (.cend .nil)))) (.ret (.ite (.cmp .ne (.var 1) (.lst false .nil)) .nil (.cst (.str [110,111,110,101]))))))) }
/-- put_told -/
def d155 : Def := { np := 1, n := 5, body := .hnil }
/-- read_puts -/
def d156 : Def := { np := 1, n := 1, keep := false, body := (.ret (.call 148 (.cons (.var 0) (.cons (.cst (.fn 155)) .nil)))) }
/-- write_library -/
def d157 : Def := { np := 1, n := 1, keep := false, body := (.seq (.ex (.call 69 (.cons (.var 0) .nil))) .hnil) }
/-- line_told -/
def d158 : Def := { np := 1, n := 1, body := .hnil }
/-- read_library -/
def d159 : Def := { np := 1, n := 1, keep := false, body := (.ret (.new 13 (.cons (.call 148 (.cons (.var 0) (.cons (.cst (.fn 158)) .nil))) .nil))) }
/-- _law_dice -/
def d160 : Def := { np := 2, n := 5, keep := true, body := (.seq (.asg (.nm 2 .nil) (.bin .add (.bin .mul (.cst (.int 59)) (.var 1)) (.cst (.int 31)))) (.seq (.ifs (.cmp .lt (.var 1) (.bf .len (.cons (.var 0) .nil))) (.asg (.nm 2 .nil) (.ix (.var 0) (.var 1))) .skip) (.seq (.asg (.nm 3 .nil) (.bin .mod (.bf .int (.cons (.bf .abs (.cons (.var 2) .nil)) .nil)) (.bin .pow (.bin .pow (.cst (.int 10)) (.cst (.int 60))) (.cst (.int 10))))) (.seq (.asg (.nm 4 .nil) (.bin .add (.bin .add (.bin .add (.bin .mul (.bin .mod (.bf .int (.cons (.var 3) .nil)) (.cst (.int 2305843009213693669))) (.cst (.int 1000393))) (.bin .mul (.cst (.int 8069)) (.var 1))) (.bin .mul (.cst (.int 47)) (.bf .int (.cons (.cmp .lt (.var 2) (.cst (.int 0))) .nil)))) (.cst (.int 41)))) (.ret (.lst true (.cons (.bf .max2 (.cons (.cst (.int 0)) (.cons (.bin .sub (.var 3) (.bin .pow (.cst (.int 10)) (.cst (.int 18)))) .nil))) (.cons (.bin .mod (.bf .int (.cons (.var 4) .nil)) (.cst (.int 2305843009213693669))) (.cons (.cst (.int 0)) .nil))))))))) }
/-- _law_roll -/
def d161 : Def := { np := 2, n := 5, keep := false, body := (.seq (.ifs (.cmp .gt (.ix (.var 0) (.cst (.int 0))) (.cst (.int 0))) (.seq (.asg (.nm 4 .nil) (.bin .mod (.bf .int (.cons (.ix (.var 0) (.cst (.int 0))) .nil)) (.var 1))) (.seq (.asg (.ix (.var 0) (.cst (.int 0)) .nil) (.bin .fdiv (.ix (.var 0) (.cst (.int 0))) (.var 1))) (.ret (.var 4)))) .skip) (.seq (.asg (.ix (.var 0) (.cst (.int 2)) .nil) (.bin .add (.ix (.var 0) (.cst (.int 2))) (.cst (.int 1)))) (.seq (.asg (.nm 2 .nil) (.bin .mod (.bf .int (.cons (.bin .add (.ix (.var 0) (.cst (.int 1))) (.bin .mul (.cst (.int 998244293)) (.ix (.var 0) (.cst (.int 2))))) .nil)) (.cst (.int 2305843009213693951)))) (.seq (.asg (.nm 3 .nil) (.bin .add (.bin .mul (.bin .mod (.bf .int (.cons (.bin .mul (.var 2) (.var 2)) .nil)) (.cst (.int 2305843009213693921))) (.var 2)) (.bin .mul (.cst (.int 9413)) (.ix (.var 0) (.cst (.int 2)))))) (.seq (.asg (.nm 3 .nil) (.bin .mod (.bf .int (.cons (.var 3) .nil)) (.cst (.int 2305843009213693669)))) (.ret (.bin .mod (.bf .int (.cons (.bin .fdiv (.var 3) (.cst (.int 8192))) .nil)) (.var 1)))))))) }
/-- _law_pick -/
def d162 : Def := { np := 2, n := 2, keep := false, body := (.ret (.ix (.var 1) (.call 161 (.cons (.var 0) (.cons (.bf .len (.cons (.var 1) .nil)) .nil))))) }
/-- _law_met -/
def d163 : Def := { np := 1, n := 2, body := .hnil }
/-- _law_right -/
def d164 : Def := { np := 1, n := 9, keep := false, body := (.seq (.asg (.nm 1 .nil) (.cm 16 24 (.cons (.cst (.str [102,32,122])) .nil))) (.seq (.asg (.nm 2 .nil) (.lst false (.cons (.cst (.non)) (.cons (.cst (.int 0)) (.cons (.tup .nil) (.cons (.tup (.cons (.cst (.str [110])) (.cons (.cst (.str [110])) .nil))) (.cons (.tup (.cons (.tup (.cons (.cst (.str [110])) .nil)) (.cons (.cst (.str [78])) .nil))) (.cons (.tup (.cons (.tup (.cons (.cst (.str [110])) (.cons (.cst (.str [110])) .nil))) (.cons (.cst (.str [110])) .nil))) (.cons (.tup (.cons (.lst false (.cons (.cst (.str [110])) .nil)) (.cons (.cst (.str [110])) .nil))) (.cons (.tup (.cons (.tup (.cons (.cst (.str [110,32,45,62,32,40,110,41])) .nil)) (.cons (.cst (.str [110])) .nil))) (.cons (.tup (.cons (.tup .nil) (.cons (.cst (.str [])) .nil))) (.cons (.dic false .nil) .nil)))))))))))) (.seq (.asg (.nm 2 .nil) (.call 162 (.cons (.var 0) (.cons (.bin .add (.var 2) (.lst false (.cons (.tup (.cons (.tup (.cons (.cm 12 24 (.cons (.cst (.str [110])) .nil)) .nil)) (.cons (.cst (.str [110])) .nil))) (.cons (.tup (.cons (.tup (.cons (.cst (.str [98])) (.cons (.cst (.str [97])) .nil))) (.cons (.cst (.str [110])) .nil))) (.cons (.tup (.cons (.tup .nil) (.cons (.cst (.str [110])) (.cons (.tup .nil) .nil)))) .nil))))) .nil)))) (.seq (.asg (.nm 3 .nil) (.lst false (.cons (.cst (.non)) (.cons (.lst false .nil) (.cons (.dic false (.kv (.tup (.cons (.tup .nil) (.cons (.cst (.str [110])) .nil))) (.cst (.int 0)) .nil)) (.cons (.dic false (.kv (.tup (.cons (.tup .nil) (.cons (.cst (.str [110])) .nil))) (.cst (.bl true)) .nil)) (.cons (.dic false (.kv (.tup (.cons (.tup .nil) (.cons (.cst (.str [110])) .nil))) (.cst (.str [49])) .nil)) (.cons (.dic false (.kv (.cst (.str [110])) (.cst (.int 1)) .nil)) (.cons (.dic false (.kv (.tup (.cons (.tup .nil) (.cons (.cst (.str [110])) .nil))) (.bin .pow (.cst (.int 10)) (.cst (.int 60))) .nil)) (.cons (.tup .nil) (.cons (.cst (.str [110,111,110,101])) .nil))))))))))) (.seq (.asg (.nm 3 .nil) (.call 162 (.cons (.var 0) (.cons (.bin .add (.var 3) (.lst false (.cons (.dic false (.kv (.tup (.cons (.tup .nil) (.cons (.cst (.str [110])) .nil))) (.cst (.int 1)) (.kv (.tup (.cons (.tup .nil) (.cons (.cst (.str [78])) .nil))) (.cst (.int 2)) .nil))) .nil))) .nil)))) (.seq (.asg (.nm 4 .nil) (.call 162 (.cons (.var 0) (.cons (.lst false (.cons (.cst (.non)) (.cons (.cst (.int 0)) (.cons (.tup .nil) (.cons (.tup (.cons (.tup (.cons (.tup (.cons (.cst (.int 0)) .nil)) .nil)) (.cons (.tup (.cons (.tup .nil) .nil)) .nil))) (.cons (.cst (.str [48,58])) (.cons (.dic false .nil) (.cons (.var 1) .nil)))))))) .nil)))) (.seq (.asg (.nm 5 .nil) (.call 162 (.cons (.var 0) (.cons (.lst false (.cons (.cst (.non)) (.cons (.lst false .nil) (.cons (.dic false (.kv (.cst (.str [70])) (.var 1) .nil)) (.cons (.dic false (.kv (.cst (.str [102])) (.cst (.str [122])) .nil)) (.cons (.dic false (.kv (.cst (.int 0)) (.var 1) .nil)) (.cons (.dic false (.kv (.cst (.str [102])) (.var 1) (.kv (.cst (.str [120,48])) (.var 1) .nil))) (.cons (.tup .nil) (.cons (.cst (.str [102,32,61,32,122])) .nil))))))))) .nil)))) (.seq (.asg (.nm 6 .nil) (.call 162 (.cons (.var 0) (.cons (.lst false (.cons (.cst (.non)) (.cons (.cst (.int 0)) (.cons (.dic false .nil) (.cons (.dic false (.kv (.cst (.str [102])) (.cm 12 24 (.cons (.cst (.str [97])) .nil)) .nil)) (.cons (.tup .nil) (.cons (.cst (.str [102,32,58,32,97])) (.cons (.var 1) .nil)))))))) .nil)))) (.seq (.asg (.nm 7 .nil) (.lst true (.cons (.met (.call 143 (.cons (.var 2) .nil))) .nil))) (.seq (.ex (.bm .append (.var 7) (.cons (.met (.call 146 (.cons (.var 3) .nil))) .nil))) (.seq (.ex (.bm .append (.var 7) (.cons (.met (.call 152 (.cons (.var 4) .nil))) .nil))) (.seq (.ex (.bm .append (.var 7) (.cons (.met (.call 154 (.cons (.var 5) .nil))) .nil))) (.seq (.ex (.bm .append (.var 7) (.cons (.met (.call 157 (.cons (.var 6) .nil))) .nil))) (.seq (.ifs (.cmp .ne (.var 7) (.lst false (.cons (.cst (.str [113,117,101,115,116,105,111,110])) (.cons (.cst (.str [111,112,101,114,97,116,105,111,110])) (.cons (.cst (.str [114,111,111,109])) (.cons (.cst (.str [111,112,101,114,97,116,105,111,110])) (.cons (.cst (.str [108,105,98,114,97,114,121])) .nil))))))) .hnil .skip) (.seq (.asg (.nm 8 .nil) (.call 162 (.cons (.var 0) (.cons (.lst false (.cons (.cst (.non)) (.cons (.cst (.int 0)) (.cons (.tup .nil) (.cons (.lst false (.cons (.cst (.str [110,111,110,101])) .nil)) (.cons (.dic false .nil) (.cons (.cst (.bl true)) .nil))))))) .nil)))) (.seq (.asg (.nm 7 .nil) (.lst true (.cons (.met (.call 144 (.cons (.var 8) .nil))) .nil))) (.seq (.ex (.bm .append (.var 7) (.cons (.met (.call 149 (.cons (.var 8) .nil))) .nil))) (.seq (.ex (.bm .append (.var 7) (.cons (.met (.call 153 (.cons (.var 8) .nil))) .nil))) (.seq (.ex (.bm .append (.var 7) (.cons (.met (.call 156 (.cons (.var 8) .nil))) .nil))) (.seq (.ex (.bm .append (.var 7) (.cons (.met (.call 159 (.cons (.var 8) .nil))) .nil))) (.ret (.cmp .eq (.var 7) (.bin .mul (.lst false (.cons (.cst (.str [112,97,114,115,101,32,78,111,110,101])) .nil)) (.cst (.int 5))))))))))))))))))))))))) }
/-- law -/
def d165 : Def := { np := 1, n := 5, keep := false, body := (.seq (.for_ [1] true (.bf .range (.cons (.bf .max2 (.cons (.cst (.int 1)) (.cons (.bf .min2 (.cons (.cst (.int 6)) (.cons (.bf .len (.cons (.var 0) .nil)) .nil))) .nil))) .nil)) (.seq (.asg (.nm 3 .nil) (.call 160 (.cons (.var 0) (.cons (.var 1) .nil)))) (.for_ [4] true (.bf .range (.cons (.cst (.int 3)) .nil)) (.ifs (.not (.call 164 (.cons (.var 3) .nil))) .hnil .skip)))) (.seq (.asg (.nm 2 .nil) (.lst true (.cons (.met (.call 146 (.cons (.dic false (.kv (.tup (.cons (.tup .nil) (.cons (.cst (.str [110])) .nil))) (.bin .pow (.cst (.int 10)) (.cst (.int 59))) .nil)) .nil))) .nil))) (.seq (.ex (.bm .append (.var 2) (.cons (.met (.call 149 (.cons (.bin .add (.bin .mul (.cst (.str [57])) (.cst (.int 60))) (.cst (.str [32,124,45,32,110]))) .nil))) .nil))) (.seq (.ex (.bm .append (.var 2) (.cons (.met (.call 149 (.cons (.bin .add (.bin .mul (.cst (.str [57])) (.cst (.int 61))) (.cst (.str [32,124,45,32,110]))) .nil))) .nil))) (.seq (.ex (.bm .append (.var 2) (.cons (.met (.call 149 (.cons (.cst (.str [48,32,124,45,32,110])) .nil))) .nil))) (.seq (.ex (.bm .append (.var 2) (.cons (.met (.call 154 (.cons (.dic false .nil) .nil))) .nil))) (.seq (.ex (.bm .append (.var 2) (.cons (.met (.call 143 (.cons (.tup (.cons (.tup .nil) (.cons (.cst (.str [110])) .nil))) .nil))) .nil))) (.ret (.cmp .eq (.var 2) (.lst false (.cons (.cst (.str [102,105,110,101])) (.cons (.cst (.str [102,105,110,101])) (.cons (.cst (.str [112,97,114,115,101,32,48])) (.cons (.cst (.str [112,97,114,115,101,32,48])) (.cons (.cst (.str [102,105,110,101])) (.cons (.cst (.str [102,105,110,101])) .nil)))))))))))))))) }
/-- BuildError -/
def c0 : Cls := { fields := [], bases := [], meths := [], props := [], cms := [], init := none, imm := true, xfs := [], eq := none, str := none, len := none, get := none, has := none, itr := none, ops := [], ins := false, xc := true }
/-- InvalidWord -/
def c1 : Cls := { fields := [], bases := [0], meths := [], props := [], cms := [], init := none, imm := true, xfs := [], eq := none, str := none, len := none, get := none, has := none, itr := none, ops := [], ins := false, xc := true }
/-- InvalidType -/
def c2 : Cls := { fields := [], bases := [0], meths := [], props := [], cms := [], init := none, imm := true, xfs := [], eq := none, str := none, len := none, get := none, has := none, itr := none, ops := [], ins := false, xc := true }
/-- InvalidLibrary -/
def c3 : Cls := { fields := [], bases := [0], meths := [], props := [], cms := [], init := none, imm := true, xfs := [], eq := none, str := none, len := none, get := none, has := none, itr := none, ops := [], ins := false, xc := true }
/-- InvalidProgram -/
def c4 : Cls := { fields := [], bases := [0], meths := [], props := [], cms := [], init := none, imm := true, xfs := [], eq := none, str := none, len := none, get := none, has := none, itr := none, ops := [], ins := false, xc := true }
/-- InvalidQuestion -/
def c5 : Cls := { fields := [], bases := [0], meths := [], props := [], cms := [], init := none, imm := true, xfs := [], eq := none, str := none, len := none, get := none, has := none, itr := none, ops := [], ins := false, xc := true }
/-- InvalidRoom -/
def c6 : Cls := { fields := [], bases := [0], meths := [], props := [], cms := [], init := none, imm := true, xfs := [], eq := none, str := none, len := none, get := none, has := none, itr := none, ops := [], ins := false, xc := true }
/-- InvalidOperation -/
def c7 : Cls := { fields := [], bases := [0], meths := [], props := [], cms := [], init := none, imm := true, xfs := [], eq := none, str := none, len := none, get := none, has := none, itr := none, ops := [], ins := false, xc := true }
/-- ParseError -/
def c8 : Cls := { fields := [], bases := [0], meths := [], props := [], cms := [], init := none, imm := true, xfs := [23], eq := none, str := none, len := none, get := none, has := none, itr := none, ops := [], ins := false, xc := true }
/-- UnknownWord -/
def c9 : Cls := { fields := [], bases := [], meths := [], props := [], cms := [], init := none, imm := true, xfs := [], eq := none, str := none, len := none, get := none, has := none, itr := none, ops := [], ins := false, xc := true }
/-- InvalidNumber -/
def c10 : Cls := { fields := [], bases := [], meths := [], props := [], cms := [], init := none, imm := true, xfs := [], eq := none, str := none, len := none, get := none, has := none, itr := none, ops := [], ins := false, xc := true }
/-- KindReader -/
def c11 : Cls := { fields := [0, 1], bases := [], meths := [(3, 11), (2, 12), (4, 13)], props := [], cms := [], init := (some 10), imm := false, xfs := [], eq := none, str := none, len := none, get := none, has := none, itr := none, ops := [], ins := true, xc := false }
/-- Type -/
def c12 : Cls := { fields := [5, 6, 7, 8, 9], bases := [], meths := [], props := [], cms := [(24, 19)], init := (some 18), imm := true, xfs := [], eq := none, str := none, len := none, get := none, has := none, itr := none, ops := [], ins := true, xc := false }
/-- Library -/
def c13 : Cls := { fields := [], bases := [], meths := [], props := [], cms := [], init := none, imm := true, xfs := [], eq := none, str := none, len := none, get := none, has := none, itr := none, ops := [], ins := true, xc := false }
/-- Reader -/
def c14 : Cls := { fields := [10, 11, 12, 13], bases := [], meths := [(14, 86), (15, 87), (17, 88), (16, 89), (18, 90)], props := [], cms := [], init := (some 85), imm := false, xfs := [], eq := none, str := none, len := none, get := none, has := none, itr := none, ops := [], ins := true, xc := false }
/-- Nodes -/
def c15 : Cls := { fields := [], bases := [], meths := [], props := [], cms := [], init := none, imm := true, xfs := [], eq := none, str := none, len := none, get := none, has := none, itr := none, ops := [], ins := true, xc := false }
/-- Program -/
def c16 : Cls := { fields := [19, 20, 21, 22], bases := [], meths := [], props := [], cms := [(24, 95)], init := (some 94), imm := true, xfs := [], eq := none, str := none, len := none, get := none, has := none, itr := none, ops := [], ins := true, xc := false }
/-- Room -/
def c17 : Cls := { fields := [], bases := [], meths := [], props := [], cms := [], init := none, imm := true, xfs := [], eq := none, str := none, len := none, get := none, has := none, itr := none, ops := [], ins := true, xc := false }
def prog : Prog := { defs := [d0, d1, d2, d3, d4, d5, d6, d7, d8, d9, d10, d11, d12, d13, d14, d15, d16, d17, d18, d19, d20, d21, d22, d23, d24, d25, d26, d27, d28, d29, d30, d31, d32, d33, d34, d35, d36, d37, d38, d39, d40, d41, d42, d43, d44, d45, d46, d47, d48, d49, d50, d51, d52, d53, d54, d55, d56, d57, d58, d59, d60, d61, d62, d63, d64, d65, d66, d67, d68, d69, d70, d71, d72, d73, d74, d75, d76, d77, d78, d79, d80, d81, d82, d83, d84, d85, d86, d87, d88, d89, d90, d91, d92, d93, d94, d95, d96, d97, d98, d99, d100, d101, d102, d103, d104, d105, d106, d107, d108, d109, d110, d111, d112, d113, d114, d115, d116, d117, d118, d119, d120, d121, d122, d123, d124, d125, d126, d127, d128, d129, d130, d131, d132, d133, d134, d135, d136, d137, d138, d139, d140, d141, d142, d143, d144, d145, d146, d147, d148, d149, d150, d151, d152, d153, d154, d155, d156, d157, d158, d159, d160, d161, d162, d163, d164, d165], clss := [c0, c1, c2, c3, c4, c5, c6, c7, c8, c9, c10, c11, c12, c13, c14, c15, c16, c17], lams := [], met := [(5, [113,117,101,115,116,105,111,110], false), (6, [114,111,111,109], false), (3, [108,105,98,114,97,114,121], false), (7, [111,112,101,114,97,116,105,111,110], false), (8, [112,97,114,115,101,32], true)], metF := [102,105,110,101] }
def iLaw : Nat := 165
end K77
set_option Elab.async false
set_option linter.all false
set_option autoImplicit false
set_option maxRecDepth 100000
set_option maxHeartbeats 0

namespace K77
open PySem PySem.Spec PyProof.Rows Sb
open L2 (defScope defBody defArgs)
open Ev (PV Val MO Hh Sg Exc Res SR)
abbrev PW : Program := PySem.Challenge.pw_fromparts_k77_errors_of_written_values
def top (i : Nat) : Stmt := PW.main.body.getD i (.Pass ⟨0, 0, 0, 0⟩)
def inC (s : Stmt) (j : Nat) : Stmt := (match s with | .ClassDef (body := b) .. => b | _ => []).getD j (.Pass ⟨0, 0, 0, 0⟩)
def names : List Str := (["of_rows", "of_wants", "take_end", "take", "result", "own_args", "own_atom", "own_places", "own_order", "own_text", "of_tokens", "of_at", "of_nodes", "of_open", "token", "binders", "add", "begin"] : List Str) ++ (["go_on", "own_nodes", "own_kids", "own_ends", "own_bound", "line", "read"] : List Str)
def dnm : List (Str × Option Str) := ([("law", none), ("is_integer", none), ("is_within", none), ("is_word", none), ("level_of", none), ("law", none), ("ParseError", some "__init__"), ("law", none), ("law", none), ("signs_of", none), ("KindReader", some "__init__"), ("KindReader", some "take"), ("KindReader", some "take_end"), ("KindReader", some "result"), ("shape_of", none), ("kind_in", none), ("order_of", none), ("law", none)] : List (Str × Option Str)) ++ ([("Type", some "__init__"), ("Type", some "read"), ("law", none), ("law", none), ("law", none), ("law", none), ("law", none), ("law", none), ("law", none), ("law", none), ("law", none), ("law", none), ("law", none), ("law", none), ("law", none), ("law", none), ("law", none), ("law", none)] : List (Str × Option Str)) ++ ([("law", none), ("law", none), ("law", none), ("type_of_text", none), ("law", none), ("law", none), ("law", none), ("law", none), ("law", none), ("law", none), ("law", none), ("law", none), ("law", none), ("law", none), ("law", none), ("law", none), ("law", none), ("law", none)] : List (Str × Option Str)) ++ ([("law", none), ("law", none), ("law", none), ("law", none), ("law", none), ("law", none), ("law", none), ("law", none), ("law", none), ("law", none), ("law", none), ("law", none), ("law", none), ("law", none), ("law", none), ("require_library", none), ("law", none), ("law", none)] : List (Str × Option Str)) ++ ([("law", none), ("law", none), ("is_scope", none), ("is_question", none), ("is_node", none), ("kids_of", none), ("ends_of", none), ("bound_of", none), ("are_nodes", none), ("law", none), ("law", none), ("law", none), ("tokens_of", none), ("Reader", some "__init__"), ("Reader", some "token"), ("Reader", some "binders"), ("Reader", some "begin"), ("Reader", some "add")] : List (Str × Option Str)) ++ ([("Reader", some "go_on"), ("nodes_of", none), ("law", none), ("law", none), ("Program", some "__init__"), ("Program", some "read"), ("law", none), ("law", none), ("law", none), ("law", none), ("law", none), ("law", none), ("law", none), ("law", none), ("law", none), ("law", none), ("law", none), ("law", none)] : List (Str × Option Str)) ++ ([("law", none), ("law", none), ("law", none), ("law", none), ("law", none), ("law", none), ("law", none), ("law", none), ("law", none), ("law", none), ("law", none), ("law", none), ("law", none), ("law", none), ("law", none), ("law", none), ("law", none), ("law", none)] : List (Str × Option Str)) ++ ([("law", none), ("law", none), ("law", none), ("law", none), ("law", none), ("law", none), ("law", none), ("law", none), ("law", none), ("law", none), ("law", none), ("law", none), ("law", none), ("number_of", none), ("lines_of", none), ("question_text", none), ("question_told", none), ("write_question", none)] : List (Str × Option Str)) ++ ([("read_question", none), ("is_rank_dict", none), ("write_ranks", none), ("rank_told", none), ("pairs_told", none), ("read_ranks", none), ("law", none), ("law", none), ("write_room", none), ("read_room", none), ("write_puts", none), ("put_told", none), ("read_puts", none), ("write_library", none), ("line_told", none), ("read_library", none), ("_law_dice", none), ("_law_roll", none)] : List (Str × Option Str)) ++ ([("_law_pick", none), ("_law_met", none), ("_law_right", none), ("law", none)] : List (Str × Option Str))
def cms : List Nat := [19, 95]
def cnm : List Str := (["BuildError", "InvalidWord", "InvalidType", "InvalidLibrary", "InvalidProgram", "InvalidQuestion", "InvalidRoom", "InvalidOperation", "ParseError", "UnknownWord", "InvalidNumber", "KindReader", "Type", "Library", "Reader", "Nodes", "Program", "Room"] : List Str)
def adrK (K : PySem.W.Frag) (i : Nat) : Addr := let a := He.fAd K ((dnm[i]?).getD ("law", none)); if cms.contains i then cmG K a else a
def cadK (K : PySem.W.Frag) (j : Nat) : Addr := He.ga K ((cnm[j]?).getD "BuildError")
/-- is_integer -/
abbrev s1 : Stmt := top 9
/-- is_within -/
abbrev s2 : Stmt := top 10
/-- is_word -/
abbrev s3 : Stmt := top 11
/-- level_of -/
abbrev s4 : Stmt := top 12
/-- signs_of -/
abbrev s9 : Stmt := top 30
/-- KindReader.__init__ -/
abbrev s10 : Stmt := inC (top 31) 0
/-- KindReader.take -/
abbrev s11 : Stmt := inC (top 31) 1
/-- KindReader.take_end -/
abbrev s12 : Stmt := inC (top 31) 2
/-- KindReader.result -/
abbrev s13 : Stmt := inC (top 31) 3
/-- shape_of -/
abbrev s14 : Stmt := top 32
/-- kind_in -/
abbrev s15 : Stmt := top 33
/-- order_of -/
abbrev s16 : Stmt := top 34
/-- Type.__init__ -/
abbrev s18 : Stmt := inC (top 36) 0
/-- Type.read -/
abbrev s19 : Stmt := inC (top 36) 1
/-- type_of_text -/
abbrev s39 : Stmt := top 37
/-- require_library -/
abbrev s69 : Stmt := top 46
/-- is_scope -/
abbrev s74 : Stmt := top 53
/-- is_question -/
abbrev s75 : Stmt := top 54
/-- is_node -/
abbrev s76 : Stmt := top 60
/-- kids_of -/
abbrev s77 : Stmt := top 61
/-- ends_of -/
abbrev s78 : Stmt := top 62
/-- bound_of -/
abbrev s79 : Stmt := top 63
/-- are_nodes -/
abbrev s80 : Stmt := top 64
/-- tokens_of -/
abbrev s84 : Stmt := top 68
/-- Reader.__init__ -/
abbrev s85 : Stmt := inC (top 69) 0
/-- Reader.token -/
abbrev s86 : Stmt := inC (top 69) 1
/-- Reader.binders -/
abbrev s87 : Stmt := inC (top 69) 2
/-- Reader.begin -/
abbrev s88 : Stmt := inC (top 69) 3
/-- Reader.add -/
abbrev s89 : Stmt := inC (top 69) 4
/-- Reader.go_on -/
abbrev s90 : Stmt := inC (top 69) 5
/-- nodes_of -/
abbrev s91 : Stmt := top 70
/-- Program.__init__ -/
abbrev s94 : Stmt := inC (top 73) 0
/-- Program.read -/
abbrev s95 : Stmt := inC (top 73) 1
/-- number_of -/
abbrev s139 : Stmt := top 88
/-- lines_of -/
abbrev s140 : Stmt := top 89
/-- question_text -/
abbrev s141 : Stmt := top 90
/-- question_told -/
abbrev s142 : Stmt := top 91
/-- write_question -/
abbrev s143 : Stmt := top 92
/-- read_question -/
abbrev s144 : Stmt := top 93
/-- is_rank_dict -/
abbrev s145 : Stmt := top 94
/-- write_ranks -/
abbrev s146 : Stmt := top 95
/-- rank_told -/
abbrev s147 : Stmt := top 96
/-- pairs_told -/
abbrev s148 : Stmt := top 97
/-- read_ranks -/
abbrev s149 : Stmt := top 98
/-- write_room -/
abbrev s152 : Stmt := top 101
/-- read_room -/
abbrev s153 : Stmt := top 102
/-- write_puts -/
abbrev s154 : Stmt := top 103
/-- read_puts -/
abbrev s156 : Stmt := top 105
/-- write_library -/
abbrev s157 : Stmt := top 106
/-- read_library -/
abbrev s159 : Stmt := top 108
/-- _law_dice -/
abbrev s160 : Stmt := top 110
/-- _law_roll -/
abbrev s161 : Stmt := top 111
/-- _law_pick -/
abbrev s162 : Stmt := top 112
/-- _law_right -/
abbrev s164 : Stmt := top 114
/-- law -/
abbrev s165 : Stmt := top 115
/-- ParseError.__init__ -/
abbrev s6 : Stmt := inC (top 23) 0
/-- _law_met -/
abbrev s163 : Stmt := top 113
/-- put_told -/
abbrev s155 : Stmt := top 104
/-- line_told -/
abbrev s158 : Stmt := top 107
def cnF (c : Nat) : Str := (cnm[c]?).getD "BuildError"
def dnF (d : Nat) : He.Defn := (dnm[d]?).getD ("law", none)
def fds0 : List FD := [⟨fun K => adrK K 1, "is_integer", "is_integer", defArgs s1, defBody s1, defScope s1⟩, ⟨fun K => adrK K 2, "is_within", "is_within", defArgs s2, defBody s2, defScope s2⟩, ⟨fun K => adrK K 3, "is_word", "is_word", defArgs s3, defBody s3, defScope s3⟩, ⟨fun K => adrK K 4, "level_of", "level_of", defArgs s4, defBody s4, defScope s4⟩, ⟨fun K => adrK K 9, "signs_of", "signs_of", defArgs s9, defBody s9, defScope s9⟩, ⟨fun K => adrK K 10, "__init__", "KindReader.__init__", defArgs s10, defBody s10, defScope s10⟩, ⟨fun K => adrK K 11, "take", "KindReader.take", defArgs s11, defBody s11, defScope s11⟩, ⟨fun K => adrK K 12, "take_end", "KindReader.take_end", defArgs s12, defBody s12, defScope s12⟩, ⟨fun K => adrK K 13, "result", "KindReader.result", defArgs s13, defBody s13, defScope s13⟩, ⟨fun K => adrK K 14, "shape_of", "shape_of", defArgs s14, defBody s14, defScope s14⟩, ⟨fun K => adrK K 15, "kind_in", "kind_in", defArgs s15, defBody s15, defScope s15⟩, ⟨fun K => adrK K 16, "order_of", "order_of", defArgs s16, defBody s16, defScope s16⟩, ⟨fun K => adrK K 18, "__init__", "Type.__init__", defArgs s18, defBody s18, defScope s18⟩, ⟨fun K => adrK K 19, "read", "Type.read", defArgs s19, defBody s19, defScope s19⟩, ⟨fun K => adrK K 39, "type_of_text", "type_of_text", defArgs s39, defBody s39, defScope s39⟩, ⟨fun K => adrK K 69, "require_library", "require_library", defArgs s69, defBody s69, defScope s69⟩, ⟨fun K => adrK K 74, "is_scope", "is_scope", defArgs s74, defBody s74, defScope s74⟩, ⟨fun K => adrK K 75, "is_question", "is_question", defArgs s75, defBody s75, defScope s75⟩, ⟨fun K => adrK K 76, "is_node", "is_node", defArgs s76, defBody s76, defScope s76⟩, ⟨fun K => adrK K 77, "kids_of", "kids_of", defArgs s77, defBody s77, defScope s77⟩, ⟨fun K => adrK K 78, "ends_of", "ends_of", defArgs s78, defBody s78, defScope s78⟩, ⟨fun K => adrK K 79, "bound_of", "bound_of", defArgs s79, defBody s79, defScope s79⟩, ⟨fun K => adrK K 80, "are_nodes", "are_nodes", defArgs s80, defBody s80, defScope s80⟩, ⟨fun K => adrK K 84, "tokens_of", "tokens_of", defArgs s84, defBody s84, defScope s84⟩, ⟨fun K => adrK K 85, "__init__", "Reader.__init__", defArgs s85, defBody s85, defScope s85⟩, ⟨fun K => adrK K 86, "token", "Reader.token", defArgs s86, defBody s86, defScope s86⟩, ⟨fun K => adrK K 87, "binders", "Reader.binders", defArgs s87, defBody s87, defScope s87⟩, ⟨fun K => adrK K 88, "begin", "Reader.begin", defArgs s88, defBody s88, defScope s88⟩, ⟨fun K => adrK K 89, "add", "Reader.add", defArgs s89, defBody s89, defScope s89⟩, ⟨fun K => adrK K 90, "go_on", "Reader.go_on", defArgs s90, defBody s90, defScope s90⟩, ⟨fun K => adrK K 91, "nodes_of", "nodes_of", defArgs s91, defBody s91, defScope s91⟩, ⟨fun K => adrK K 94, "__init__", "Program.__init__", defArgs s94, defBody s94, defScope s94⟩]
def fds1 : List FD := [⟨fun K => adrK K 95, "read", "Program.read", defArgs s95, defBody s95, defScope s95⟩, ⟨fun K => adrK K 139, "number_of", "number_of", defArgs s139, defBody s139, defScope s139⟩, ⟨fun K => adrK K 140, "lines_of", "lines_of", defArgs s140, defBody s140, defScope s140⟩, ⟨fun K => adrK K 141, "question_text", "question_text", defArgs s141, defBody s141, defScope s141⟩, ⟨fun K => adrK K 142, "question_told", "question_told", defArgs s142, defBody s142, defScope s142⟩, ⟨fun K => adrK K 143, "write_question", "write_question", defArgs s143, defBody s143, defScope s143⟩, ⟨fun K => adrK K 144, "read_question", "read_question", defArgs s144, defBody s144, defScope s144⟩, ⟨fun K => adrK K 145, "is_rank_dict", "is_rank_dict", defArgs s145, defBody s145, defScope s145⟩, ⟨fun K => adrK K 146, "write_ranks", "write_ranks", defArgs s146, defBody s146, defScope s146⟩, ⟨fun K => adrK K 147, "rank_told", "rank_told", defArgs s147, defBody s147, defScope s147⟩, ⟨fun K => adrK K 148, "pairs_told", "pairs_told", defArgs s148, defBody s148, defScope s148⟩, ⟨fun K => adrK K 149, "read_ranks", "read_ranks", defArgs s149, defBody s149, defScope s149⟩, ⟨fun K => adrK K 152, "write_room", "write_room", defArgs s152, defBody s152, defScope s152⟩, ⟨fun K => adrK K 153, "read_room", "read_room", defArgs s153, defBody s153, defScope s153⟩, ⟨fun K => adrK K 154, "write_puts", "write_puts", defArgs s154, defBody s154, defScope s154⟩, ⟨fun K => adrK K 156, "read_puts", "read_puts", defArgs s156, defBody s156, defScope s156⟩, ⟨fun K => adrK K 157, "write_library", "write_library", defArgs s157, defBody s157, defScope s157⟩, ⟨fun K => adrK K 159, "read_library", "read_library", defArgs s159, defBody s159, defScope s159⟩, ⟨fun K => adrK K 160, "_law_dice", "_law_dice", defArgs s160, defBody s160, defScope s160⟩, ⟨fun K => adrK K 161, "_law_roll", "_law_roll", defArgs s161, defBody s161, defScope s161⟩, ⟨fun K => adrK K 162, "_law_pick", "_law_pick", defArgs s162, defBody s162, defScope s162⟩, ⟨fun K => adrK K 164, "_law_right", "_law_right", defArgs s164, defBody s164, defScope s164⟩, ⟨fun K => adrK K 165, "law", "law", defArgs s165, defBody s165, defScope s165⟩, ⟨fun K => adrK K 6, "__init__", "ParseError.__init__", defArgs s6, defBody s6, defScope s6⟩, ⟨fun K => adrK K 163, "_law_met", "_law_met", defArgs s163, defBody s163, defScope s163⟩, ⟨fun K => adrK K 155, "put_told", "put_told", defArgs s155, defBody s155, defScope s155⟩, ⟨fun K => adrK K 158, "line_told", "line_told", defArgs s158, defBody s158, defScope s158⟩]
def fds : List FD := fds0 ++ fds1
def fas : List He.Fa := ([.glo "law", .free "isinstance", .free "int", .free "bool", .int "LONGEST" 1000000000000000000000000000000000000000000000000000000000000, .glo "is_integer", .free "str", .free "len", .int "MAX_LETTERS" 8, .str "LETTERS" "abcdefghijklmnopqrstuvwxyz", .free "all", .str "ARROW" " -> ", .int "MAX_ORDER" 4, .glo "is_word", .free "tuple", .glo "signs_of", .int "MAX_PLACES" 15, .glo "KindReader"] : List He.Fa) ++ ([.glo "Type", .glo "order_of", .glo "type_of_text", .glo "shape_of", .glo "kind_in", .glo "Library", .exc "InvalidLibrary", .glo "InvalidLibrary", .int "MAX_SCOPE" 140, .free "list", .free "zip", .glo "is_scope", .int "MAX_COUNT" 15, .glo "is_within", .free "range", .free "enumerate", .int "MAX_NODES" 40, .glo "is_node"] : List He.Fa) ++ ([.glo "kids_of", .glo "level_of", .glo "bound_of", .int "MAX_LEVEL" 99, .str "DIGITS" "0123456789", .str "DOT" ". ", .str "LAMBDA" "\\", .str "GAP" "?", .glo "tokens_of", .glo "Reader", .glo "are_nodes", .glo "Nodes", .glo "ends_of", .glo "nodes_of", .int "MAX_DIGITS" 60, .glo "ParseError", .str "NONE" "none", .str "BETWEEN" "; "] : List He.Fa) ++ ([.str "TURNSTILE" "|- ", .glo "is_question", .exc "InvalidQuestion", .glo "InvalidQuestion", .glo "question_text", .free "dict", .glo "is_rank_dict", .exc "InvalidOperation", .glo "InvalidOperation", .free "sorted", .glo "number_of", .glo "question_told", .glo "lines_of", .glo "rank_told", .glo "pairs_told", .glo "Room", .exc "InvalidRoom", .glo "InvalidRoom"] : List He.Fa) ++ ([.glo "Program", .glo "put_told", .glo "require_library", .glo "line_told", .free "abs", .free "max", .glo "_law_roll", .glo "_law_pick", .glo "_law_met", .free "repr", .glo "write_question", .glo "write_ranks", .glo "write_room", .glo "write_puts", .glo "write_library", .glo "read_question", .glo "read_ranks", .glo "read_room"] : List He.Fa) ++ ([.glo "read_puts", .glo "read_library", .free "min", .glo "_law_dice", .glo "_law_right"] : List He.Fa)
def tf : List He.Defn := [("_law_right", none), ("law", none)]
def ckA (K : PySem.W.Frag) : Bool := fas.all fun f => f.ok K
def ckC (K : PySem.W.Frag) : Bool := insB cnF prog K && (fldB cnF (fnmOf names) prog K && (metB cnF (fnmOf names) prog K && (mkrB cnF prog K && exmB cnF prog K)))
def ckK (K : PySem.W.Frag) : Bool := (("BuildError" : Str) :: cnm).all fun x => (He.Fa.keep x).ok K
def ckO (K : PySem.W.Frag) : Bool := (rziB cnF (fnmOf names) K 8 23 && (cmB K "Program" "read" && (cmB K "Type" "read" && (xfB cnF (fnmOf names) K 8 23 && (decide ((He.cT K ("_law_right", none)).2 ≠ (He.cT K ("law", none)).2) && true)))))
def ck (K : PySem.W.Frag) : Bool := ckA K && (ckC K && (ckK K && ckO K))
abbrev RR : PySem.W.OpenRow := PySem.W.OpenLaw.row PySem.Challenge.rw_fromparts_k77_errors_of_written_values
abbrev VW : Program := PySem.W.view RR.prog [115]
def loose : List Str := (["_wall", "MAX_LETTERS", "GAP", "VARIABLE", "LETTERS", "DIGITS", "LONGEST", "MAX_LEVEL", "is_integer", "is_within", "is_word", "level_of", "ascending_rows", "BuildError", "InvalidWord", "InvalidType", "InvalidLibrary", "InvalidProgram"] : List Str) ++ (["InvalidQuestion", "InvalidRoom", "InvalidOperation", "ParseError", "UnknownWord", "InvalidNumber", "MAX_PLACES", "MAX_ORDER", "ARROW", "signs_of", "KindReader", "shape_of", "kind_in", "order_of", "input_text", "Type", "type_of_text", "parts_list"] : List Str) ++ (["signed_atoms", "MAX_PARTS", "COLON", "is_parts", "part_of_line", "Library", "require_library", "require_other_library", "atoms_in", "has_part", "united_library", "MAX_SCOPE", "is_scope", "is_question", "MAX_NODES", "MAX_COUNT", "LAMBDA", "DOT"] : List Str) ++ (["is_node", "kids_of", "ends_of", "bound_of", "are_nodes", "variable_text", "node_text", "argument_text", "tokens_of", "Reader", "nodes_of", "Nodes", "program_in", "Program", "parts_used", "MAX_WORLDS", "is_index_tuple", "is_word_tuple"] : List Str) ++ (["is_reach", "are_truths", "Room", "MAX_DIGITS", "NONE", "TURNSTILE", "BETWEEN", "EQUALS", "number_of", "lines_of", "question_text", "question_told", "write_question", "read_question", "is_rank_dict", "write_ranks", "rank_told", "pairs_told"] : List Str) ++ (["read_ranks", "world_text", "world_told", "write_room", "read_room", "write_puts", "put_told", "read_puts", "write_library", "line_told", "read_library", "_law_dice", "_law_roll", "_law_pick", "_law_met", "_law_right"] : List Str)
noncomputable abbrev XX (w : World) (os : OsState) : Option PySem.W.SharedT := HandSHeadRun.endF (HandSHeadRun.stepQ (HandSHeadRun.denQ HandSHeadRun.tabQ) RR.prog w) 100000 RR.prog w os
end K77
set_option Elab.async false
set_option linter.all false
set_option autoImplicit false
set_option maxRecDepth 100000
set_option maxHeartbeats 0

namespace K77
open PySem PySem.Spec PyProof.Rows Sb
theorem r_looks (w : World) (os : OsState) : (XX w os).map (fun s => HandSHeadRun.looksF RR.prog (PySem.W.boot_heap w.params) s.abs) = some true := by kernel_rfl
end K77
set_option Elab.async false
set_option linter.all false
set_option autoImplicit false
set_option maxRecDepth 100000
set_option maxHeartbeats 0

namespace K77
open PySem PySem.Spec PyProof.Rows Sb
theorem r_seen (w : World) (os : OsState) : (XX w os).map (fun s => HandSHeadRun.seenQ VW loose (importedModules RR.prog.main.body) (fun s => PySem.W.xlAt VW [] s && PySem.W.recOk RR.toRowW.records s) s.abs) = some (PySem.W.openGood VW loose) := by kernel_rfl
end K77
set_option Elab.async false
set_option linter.all false
set_option autoImplicit false
set_option maxRecDepth 100000
set_option maxHeartbeats 0

namespace K77
open PySem PySem.Spec PyProof.Rows Sb
theorem r_ckA (w : World) (os : OsState) : (XX w os).map (fun s => ckA (frR (HandSHeadRun.getT s) s.n)) = some true := by kernel_rfl
end K77
set_option Elab.async false
set_option linter.all false
set_option autoImplicit false
set_option maxRecDepth 100000
set_option maxHeartbeats 0

namespace K77
open PySem PySem.Spec PyProof.Rows Sb
theorem r_ckC (w : World) (os : OsState) : (XX w os).map (fun s => ckC (frR (HandSHeadRun.getT s) s.n)) = some true := by kernel_rfl
end K77
set_option Elab.async false
set_option linter.all false
set_option autoImplicit false
set_option maxRecDepth 100000
set_option maxHeartbeats 0

namespace K77
open PySem PySem.Spec PyProof.Rows Sb
theorem r_ckO (w : World) (os : OsState) : (XX w os).map (fun s => (ckK (frR (HandSHeadRun.getT s) s.n) && ckO (frR (HandSHeadRun.getT s) s.n)) && He.tabsB (HandSHeadRun.getT s) tf (frR (HandSHeadRun.getT s) s.n)) = some true := by kernel_rfl
end K77
set_option Elab.async false
set_option linter.all false
set_option autoImplicit false
set_option maxRecDepth 100000
set_option maxHeartbeats 0

namespace K77
open PySem PySem.Spec PyProof.Rows Sb
theorem r_fd0 (w : World) (os : OsState) : (XX w os).map (fun s => (obsF fds0 (HandSHeadRun.getT s) s.n, fds0.all fun d => d.ok (frR (HandSHeadRun.getT s) s.n))) = some (fds0.map FD.val, true) := by kernel_rfl
end K77
set_option Elab.async false
set_option linter.all false
set_option autoImplicit false
set_option maxRecDepth 100000
set_option maxHeartbeats 0

namespace K77
open PySem PySem.Spec PyProof.Rows Sb
theorem r_fd1 (w : World) (os : OsState) : (XX w os).map (fun s => (obsF fds1 (HandSHeadRun.getT s) s.n, fds1.all fun d => d.ok (frR (HandSHeadRun.getT s) s.n))) = some (fds1.map FD.val, true) := by kernel_rfl
end K77
set_option Elab.async false
set_option linter.all false
set_option autoImplicit false
set_option maxRecDepth 100000
set_option maxHeartbeats 2000000
/-! # Sb: how the evaluator's states lie in the abstract heap of the layer L2, and what it is to go on from there -/
namespace Sb
open PySem PySem.Spec
open PyProof.Rows hiding St
open L2 (V Hp HO upd upd_same upd_ne VK TE TT TA TS Ends WX XK)
open Ev (PV Val MO Hh Sg Exc Res SR)

/-- what is fixed: the compact program, where its defs and classes stand, the attributes' names -/
structure En where
  P : Ev.Prog
  prog : Program
  w : World
  K : PySem.W.Frag
  adr : Nat → Addr
  cad : Nat → Addr
  fnm : Nat → Str
  T : List (Addr × Str)
  inj : ∀ i j, fnm i = fnm j → i = j
/-- a tuple that may be a key -/
def tupK (p : PV) : Bool := Ev.isTup p && Ev.keyN p 8

abbrev St' (s : List Nat) : Str := ⟨s.toArray⟩

/-- a world: the tracked heap, what is frozen in it, where the mutable objects stand -/
structure Wd where
  H : Hp
  F : Addr → Prop
  ρ : Nat → Addr

/-- a flat key -/
def keyF : PV → Option L2.Key
  | .int i => some (.inl i)
  | .str s => some (.inr (St' s))
  | _ => none
mutual
/-- a nested key -/
def nk : PV → NestedKey
  | .bl b => .num (if b = true then 1 else 0)
  | .int i => .num i
  | .str s => .text (St' s)
  | .tup xs => .tup (nks xs)
  | _ => .none
def nks : List PV → List NestedKey
  | [] => []
  | x :: xs => nk x :: nks xs
end
/-- a dict whose keys are tuples: the keys, their tuples, the values -/
def DicN (E : En) (a : Addr) (ks : List NestedKey) (bs : List Addr) (ys : List V) : HO := .ext fun h => (a == sysModules) = false ∧ ks.length ≤ sizeLine ∧ ∃ us : List Value, L2.Vals ys us ∧
  ∃ o es ep, h.get? a = some o ∧ o.ExactDict ∧ o.data = .dict es ep ∧ es.toList = (ks.zip (bs.zip us)).map (entryOfKey (nestedKind E.prog E.w)) ∧ ks.Nodup
def fieldsOf (E : En) (c : Nat) : List Str := match E.P.clss[c]? with
  | some K => K.fields.map E.fnm
  | none => []

/-- the law's own list of numbers: frozen, or an object of the module -/
def Scr (E : En) (W : Wd) (a : Addr) (ns : List Int) : Prop := (W.F a ∧ L2.Rd W.H a (.lst (ns.map V.int))) ∨
  ∃ (o : Obj) (its : Array Value) (n : Nat), E.K.lookup a = some o ∧ o.cls = .type "list" ∧ o.dict = none ∧ o.data = .seq its n ∧ its.size ≤ sizeLine ∧ L2.Vals (ns.map V.int) its.toList
mutual
/-- a pure value lies at v -/
def RelP (E : En) (W : Wd) : PV → V → Prop
  | .non, v => v = .non
  | .bl b, v => v = .bl b
  | .int i, v => v = .int i
  | .str s, v => v = .str (St' s)
  | .tup xs, v => ∃ a ys, v = .ref a ∧ W.F a ∧ W.H a = some (.tup ys) ∧ RelPs E W xs ys
  | .lst xs, v => ∃ a ys, v = .ref a ∧ W.F a ∧ W.H a = some (.lst ys) ∧ RelPs E W xs ys
  | .dic kvs, v => ∃ a ob o, v = .ref a ∧ W.F a ∧ W.H a = some (.frz ob o) ∧ ((∃ ks, o = .dK ks ∧ RelKs E W kvs ks) ∨ ∃ bs ys, o = DicN E a (nks (Ev.keysP kvs)) bs ys ∧ kvs ≠ [] ∧ RelTs E W kvs bs ys)
  | .set _, _ => False
  | .ins c vs, v => ∃ a dx ys, v = .ref a ∧ W.F a ∧ W.H a = some (.ins (E.cad c) dx ((fieldsOf E c).zip ys)) ∧ vs.length = (fieldsOf E c).length ∧ RelPs E W vs ys
  | .fn f, v => v = .ref (E.adr f)
  | .cl c, v => v = .ref (E.cad c)
  | .ty t, v => v = .ty (tyName t)
  | .lam _ xs, v => ∃ a ns, v = .ref a ∧ xs = ns.map PV.int ∧ Scr E W a ns
def RelPs (E : En) (W : Wd) : List PV → List V → Prop
  | [], ys => ys = []
  | x :: xs, ys => ∃ y r, ys = y :: r ∧ RelP E W x y ∧ RelPs E W xs r
def RelKs (E : En) (W : Wd) : List (PV × PV) → List (L2.Key × V) → Prop
  | [], ks => ks = []
  | (k, v) :: r, ks => ∃ z y t, ks = (z, y) :: t ∧ keyF k = some z ∧ RelP E W v y ∧ RelKs E W r t
def RelTs (E : En) (W : Wd) : List (PV × PV) → List Addr → List V → Prop
  | [], bs, ys => bs = [] ∧ ys = []
  | (k, v) :: r, bs, ys => ∃ b bt y yt, bs = b :: bt ∧ ys = y :: yt ∧ tupK k = true ∧ RelP E W k (.ref b) ∧ RelP E W v y ∧ RelTs E W r bt yt
end

/-- from a world to a later one: what is frozen stays -/
structure Ex (W W' : Wd) : Prop where
  fro : ∀ a, W.F a → W'.F a ∧ W'.H a = W.H a
theorem Ex.refl (W : Wd) : Ex W W := ⟨fun a h => ⟨h, rfl⟩⟩
theorem Ex.trans {A B C : Wd} (x : Ex A B) (y : Ex B C) : Ex A C := ⟨fun a h => by
  obtain ⟨h1, e1⟩ := x.fro a h
  obtain ⟨h2, e2⟩ := y.fro a h1
  exact ⟨h2, e2.trans e1⟩⟩

section
variable {E : En} {W W' : Wd}
mutual
theorem RelP.mono (x : Ex W W') : ∀ {p : PV} {v : V}, RelP E W p v → RelP E W' p v
  | .non, _, h => h
  | .bl _, _, h => h
  | .int _, _, h => h
  | .str _, _, h => h
  | .tup xs, v, h => by
    obtain ⟨a, ys, e, f, q, r⟩ := h
    obtain ⟨f', e'⟩ := x.fro a f
    exact ⟨a, ys, e, f', e'.trans q, RelPs.mono x r⟩
  | .lst xs, v, h => by
    obtain ⟨a, ys, e, f, q, r⟩ := h
    obtain ⟨f', e'⟩ := x.fro a f
    exact ⟨a, ys, e, f', e'.trans q, RelPs.mono x r⟩
  | .dic kvs, v, h => by
    obtain ⟨a, ob, o, e, f, q, r⟩ := h
    obtain ⟨f', e'⟩ := x.fro a f
    refine ⟨a, ob, o, e, f', e'.trans q, ?_⟩
    rcases r with ⟨ks, eo, r⟩ | ⟨bs, ys, eo, ne, r⟩
    · exact .inl ⟨ks, eo, RelKs.mono x r⟩
    · exact .inr ⟨bs, ys, eo, ne, RelTs.mono x r⟩
  | .set _, _, h => h
  | .ins c vs, v, h => by
    obtain ⟨a, dx, ys, e, f, q, l, r⟩ := h
    obtain ⟨f', e'⟩ := x.fro a f
    exact ⟨a, dx, ys, e, f', e'.trans q, l, RelPs.mono x r⟩
  | .fn _, _, h => h
  | .cl _, _, h => h
  | .ty _, _, h => h
  | .lam _ _, _, h => by
    obtain ⟨a, ns, e1, e2, q⟩ := h
    refine ⟨a, ns, e1, e2, ?_⟩
    rcases q with ⟨f, q⟩ | q
    · obtain ⟨f', e'⟩ := x.fro a f
      exact .inl ⟨f', q.imp (fun q => e'.trans q) fun ⟨o, q⟩ => ⟨o, e'.trans q⟩⟩
    · exact .inr q
theorem RelPs.mono (x : Ex W W') : ∀ {ps : List PV} {vs : List V}, RelPs E W ps vs → RelPs E W' ps vs
  | [], _, h => h
  | p :: ps, vs, h => by
    obtain ⟨y, r, e, h1, h2⟩ := h
    exact ⟨y, r, e, RelP.mono x h1, RelPs.mono x h2⟩
theorem RelKs.mono (x : Ex W W') : ∀ {ps : List (PV × PV)} {vs : List (L2.Key × V)}, RelKs E W ps vs → RelKs E W' ps vs
  | [], _, h => h
  | (k, v) :: ps, vs, h => by
    obtain ⟨z, y, t, e, hk, h1, h2⟩ := h
    exact ⟨z, y, t, e, hk, RelP.mono x h1, RelKs.mono x h2⟩
theorem RelTs.mono (x : Ex W W') : ∀ {ps : List (PV × PV)} {bs : List Addr} {vs : List V}, RelTs E W ps bs vs → RelTs E W' ps bs vs
  | [], _, _, h => h
  | (k, v) :: ps, bs, vs, h => by
    obtain ⟨b, bt, y, yt, e1, e2, hk, h0, h1, h2⟩ := h
    exact ⟨b, bt, y, yt, e1, e2, hk, RelP.mono x h0, RelP.mono x h1, RelTs.mono x h2⟩
end
end

/-- a value: pure, or a mutable object of the first n -/
def RelVal (E : En) (W : Wd) (n : Nat) : Val → V → Prop
  | .p v, x => RelP E W v x
  | .r i, x => i < n ∧ x = .ref (W.ρ i)
def RelVals (E : En) (W : Wd) (n : Nat) : List Val → List V → Prop
  | [], ys => ys = []
  | x :: xs, ys => ∃ y r, ys = y :: r ∧ RelVal E W n x y ∧ RelVals E W n xs r
def RelVKs (E : En) (W : Wd) (n : Nat) : List (PV × Val) → List (L2.Key × V) → Prop
  | [], ks => ks = []
  | (k, v) :: r, ks => ∃ z y t, ks = (z, y) :: t ∧ keyF k = some z ∧ RelVal E W n v y ∧ RelVKs E W n r t
def RelFs (E : En) (W : Wd) (n : Nat) : List (Nat × Val) → List (Str × V) → Prop
  | [], fs => fs = []
  | (f, v) :: r, fs => ∃ y t, fs = (E.fnm f, y) :: t ∧ RelVal E W n v y ∧ RelFs E W n r t
def RelVTs (E : En) (W : Wd) (n : Nat) : List (PV × Val) → List Addr → List V → Prop
  | [], bs, ys => bs = [] ∧ ys = []
  | (k, v) :: r, bs, ys => ∃ b bt y yt, bs = b :: bt ∧ ys = y :: yt ∧ tupK k = true ∧ RelP E W k (.ref b) ∧ RelVal E W n v y ∧ RelVTs E W n r bt yt
def RelD (E : En) (W : Wd) (n : Nat) (kvs : List (PV × Val)) (a : Addr) (o : HO) : Prop := (∃ ks, o = .dK ks ∧ RelVKs E W n kvs ks) ∨ ∃ bs ys, o = DicN E a (nks (Ev.keysP kvs)) bs ys ∧ kvs ≠ [] ∧ RelVTs E W n kvs bs ys
def RelO (E : En) (W : Wd) (n : Nat) : MO → Addr → Prop
  | .lst xs, a => ∃ ys, W.H a = some (.lst ys) ∧ RelVals E W n xs ys
  | .dic kvs, a => ∃ o, W.H a = some o ∧ RelD E W n kvs a o
  | .ins c fs, a => ∃ dx ys, W.H a = some (.ins (E.cad c) dx ys) ∧ RelFs E W n fs ys
  | .clo _ _, _ => False
  | .lck (.lst xs), a => ∃ ys, W.H a = some (.lst ys) ∧ RelVals E W n xs ys
  | .lck (.dic kvs), a => ∃ ob o, W.H a = some (.frz ob o) ∧ RelD E W n kvs a o
  | .lck _, _ => False
/-- the tables of codes -/
def TabF (E : En) (W : Wd) : Prop := LamX.Tabs E.T W.H ∧ ∀ p ∈ E.T, ¬ W.F p.1
/-- the mutable objects of h lie in the world -/
structure RelH (E : En) (W : Wd) (h : Hh) : Prop where
  tab : TabF E W
  frz : ∀ a, W.F a → ∃ o, W.H a = some o
  live : ∀ i o, Ev.getR h i = some o → RelO E W h.length o (W.ρ i)
  out : ∀ i o, Ev.getR h i = some o → ¬ W.F (W.ρ i)
  inj : ∀ i j o u, Ev.getR h i = some o → Ev.getR h j = some u → W.ρ i = W.ρ j → i = j
/-- behind a piece of work that began at (W, h) -/
structure Af (E : En) (W : Wd) (h : Hh) (W' : Wd) (h' : Hh) : Prop where
  rel : RelH E W' h'
  len : h.length ≤ h'.length
  rho : ∀ i, i < h.length → W'.ρ i = W.ρ i
  ex : Ex W W'
  keep : ∀ a o, W.H a = some o → (∀ i u, Ev.getW h i = some u → W.ρ i ≠ a) → (∀ ps, o ≠ .tbl ps) → W'.H a = some o
  fro : ∀ a, W'.F a → W.F a ∨ W.H a = none ∨ ∃ i u, Ev.getR h i = some u ∧ W.ρ i = a
  dom : ∀ a o, W.H a = some o → ∃ o', W'.H a = some o'
  old : ∀ i u, i < h.length → Ev.getW h' i = some u → ∃ u0, Ev.getW h i = some u0
  oldR : ∀ i u, i < h.length → Ev.getR h' i = some u → ∃ u0, Ev.getR h i = some u0
  new : ∀ i u, h.length ≤ i → Ev.getR h' i = some u → W.H (W'.ρ i) = none

theorem getR_lt {h : Hh} {i : Nat} {o : MO} (e : Ev.getR h i = some o) : i < h.length := by
  unfold Ev.getR at e
  cases q : h[i]? with
  | none => rw [q] at e; cases e
  | some u => exact (List.getElem?_eq_some_iff.mp q).1
theorem getW_R {h : Hh} {i : Nat} {o : MO} (e : Ev.getW h i = some o) : Ev.getR h i = some o := by
  unfold Ev.getW at e
  cases q : Ev.getR h i with
  | none => rw [q] at e; cases e
  | some u =>
    rw [q] at e
    cases u <;> first | exact e | cases e
section
variable {E : En} {W W1 W2 W' : Wd} {h h1 h2 h' : Hh}
theorem Af.refl (r : RelH E W h) : Af E W h W h :=
  ⟨r, Nat.le_refl _, fun _ _ => rfl, Ex.refl W, fun _ _ e _ _ => e, fun _ h => .inl h, fun _ o e => ⟨o, e⟩, fun i u _ e => ⟨u, e⟩, fun i u _ e => ⟨u, e⟩, fun i u hl e => absurd (getR_lt e) (Nat.not_lt.mpr hl)⟩
theorem Af.trans (x : Af E W h W1 h1) (y : Af E W1 h1 W2 h2) : Af E W h W2 h2 where
  rel := y.rel
  len := Nat.le_trans x.len y.len
  rho := fun i hi => (y.rho i (Nat.lt_of_lt_of_le hi x.len)).trans (x.rho i hi)
  ex := x.ex.trans y.ex
  keep := fun a o e no nt => y.keep a o (x.keep a o e no nt) (fun i u q z => by
    by_cases hi : i < h.length
    · obtain ⟨u0, q0⟩ := x.old i u hi q
      exact no i u0 q0 ((x.rho i hi).symm.trans z)
    · have := x.new i u (Nat.le_of_not_lt hi) (getW_R q)
      rw [z, e] at this
      cases this) nt
  fro := fun a ha => by
    rcases y.fro a ha with q | q | ⟨i, u, q, z⟩
    · exact x.fro a q
    · cases e : W.H a with
      | none => exact .inr (.inl rfl)
      | some o =>
        obtain ⟨o1, e1⟩ := x.dom a o e
        rw [q] at e1
        cases e1
    · by_cases hi : i < h.length
      · obtain ⟨u0, q0⟩ := x.oldR i u hi q
        exact .inr (.inr ⟨i, u0, q0, by rw [← x.rho i hi]; exact z⟩)
      · exact .inr (.inl (by rw [← z]; exact x.new i u (Nat.le_of_not_lt hi) q))
  dom := fun a o e => by
    obtain ⟨o1, e1⟩ := x.dom a o e
    exact y.dom a o1 e1
  old := fun i u hi q => by
    obtain ⟨u1, q1⟩ := y.old i u (Nat.lt_of_lt_of_le hi x.len) q
    exact x.old i u1 hi q1
  oldR := fun i u hi q => by
    obtain ⟨u1, q1⟩ := y.oldR i u (Nat.lt_of_lt_of_le hi x.len) q
    exact x.oldR i u1 hi q1
  new := fun i u hi q => by
    by_cases hl : i < h1.length
    · obtain ⟨u1, q1⟩ := y.oldR i u hl q
      rw [y.rho i hl]
      exact x.new i u1 hi q1
    · have q1 := y.new i u (Nat.le_of_not_lt hl) q
      cases e : W.H (W2.ρ i) with
      | none => rfl
      | some o =>
        obtain ⟨o1, e1⟩ := x.dom _ o e
        rw [q1] at e1
        cases e1
theorem RelVal.mono {n m : Nat} (x : Ex W W') (hn : n ≤ m) (hr : ∀ i, i < n → W'.ρ i = W.ρ i) : ∀ {v : Val} {y : V}, RelVal E W n v y → RelVal E W' m v y
  | .p _, _, r => RelP.mono x r
  | .r i, _, ⟨a, e⟩ => ⟨Nat.lt_of_lt_of_le a hn, by rw [hr i a]; exact e⟩
theorem RelVals.mono {n m : Nat} (x : Ex W W') (hn : n ≤ m) (hr : ∀ i, i < n → W'.ρ i = W.ρ i) : ∀ {v : List Val} {y : List V}, RelVals E W n v y → RelVals E W' m v y
  | [], _, r => r
  | _ :: _, _, ⟨y, r, e, h1, h2⟩ => ⟨y, r, e, RelVal.mono x hn hr h1, RelVals.mono x hn hr h2⟩
theorem RelVKs.mono {n m : Nat} (x : Ex W W') (hn : n ≤ m) (hr : ∀ i, i < n → W'.ρ i = W.ρ i) : ∀ {v : List (PV × Val)} {y : List (L2.Key × V)}, RelVKs E W n v y → RelVKs E W' m v y
  | [], _, r => r
  | (_, _) :: _, _, ⟨z, y, t, e, hk, h1, h2⟩ => ⟨z, y, t, e, hk, RelVal.mono x hn hr h1, RelVKs.mono x hn hr h2⟩
theorem RelVTs.mono {n m : Nat} (x : Ex W W') (hn : n ≤ m) (hr : ∀ i, i < n → W'.ρ i = W.ρ i) : ∀ {v : List (PV × Val)} {bs : List Addr} {y : List V}, RelVTs E W n v bs y → RelVTs E W' m v bs y
  | [], _, _, r => r
  | (_, _) :: _, _, _, ⟨b, bt, y, yt, e1, e2, hk, h0, h1, h2⟩ => ⟨b, bt, y, yt, e1, e2, hk, RelP.mono x h0, RelVal.mono x hn hr h1, RelVTs.mono x hn hr h2⟩
theorem RelD.mono {n m : Nat} (x : Ex W W') (hn : n ≤ m) (hr : ∀ i, i < n → W'.ρ i = W.ρ i) {v : List (PV × Val)} {a : Addr} {o : HO} (r : RelD E W n v a o) : RelD E W' m v a o := by
  rcases r with ⟨ks, e, r⟩ | ⟨bs, ys, e, ne, r⟩
  · exact .inl ⟨ks, e, r.mono x hn hr⟩
  · exact .inr ⟨bs, ys, e, ne, r.mono x hn hr⟩
theorem RelFs.mono {n m : Nat} (x : Ex W W') (hn : n ≤ m) (hr : ∀ i, i < n → W'.ρ i = W.ρ i) : ∀ {v : List (Nat × Val)} {y : List (Str × V)}, RelFs E W n v y → RelFs E W' m v y
  | [], _, r => r
  | (_, _) :: _, _, ⟨y, t, e, h1, h2⟩ => ⟨y, t, e, RelVal.mono x hn hr h1, RelFs.mono x hn hr h2⟩
theorem Af.val (x : Af E W h W' h') {v : Val} {y : V} (r : RelVal E W h.length v y) : RelVal E W' h'.length v y := RelVal.mono x.ex x.len x.rho r
theorem Af.vals (x : Af E W h W' h') {v : List Val} {y : List V} (r : RelVals E W h.length v y) : RelVals E W' h'.length v y := RelVals.mono x.ex x.len x.rho r
theorem Af.pv (x : Af E W h W' h') {v : PV} {y : V} (r : RelP E W v y) : RelP E W' v y := RelP.mono x.ex r
end

/-- the slots -/
def RelS (E : En) (W : Wd) (n : Nat) (σ : Sg) (σ' : L2.St) : Prop := σ.length = σ'.length ∧ ∀ (i : Nat) (v : Val), σ[i]? = some (some v) → ∃ x : V, σ'[i]? = some (some x) ∧ RelVal E W n v x
theorem RelS.mono {E : En} {W W' : Wd} {n m : Nat} {σ : Sg} {σ' : L2.St} (x : Ex W W') (hn : n ≤ m) (hr : ∀ i, i < n → W'.ρ i = W.ρ i) (r : RelS E W n σ σ') : RelS E W' m σ σ' := ⟨r.1, fun i v e => by
  obtain ⟨y, e1, e2⟩ := r.2 i v e
  exact ⟨y, e1, RelVal.mono x hn hr e2⟩⟩
theorem Af.sg {E : En} {W W' : Wd} {h h' : Hh} {σ : Sg} {σ' : L2.St} (x : Af E W h W' h') (r : RelS E W h.length σ σ') : RelS E W' h'.length σ σ' := r.mono x.ex x.len x.rho
theorem RelS.set {E : En} {W : Wd} {n : Nat} {σ : Sg} {σ' : L2.St} {v : Val} {x : V} (r : RelS E W n σ σ') (i : Nat) (h : RelVal E W n v x) : RelS E W n (σ.set i (some v)) (σ'.set i (some x)) := by
  refine ⟨by rw [List.length_set, List.length_set]; exact r.1, fun j u e => ?_⟩
  by_cases hj : i = j
  · subst hj
    by_cases hi : i < σ.length
    · rw [List.getElem?_set_self hi] at e
      cases e
      exact ⟨x, List.getElem?_set_self (by rw [← r.1]; exact hi), h⟩
    · rw [List.getElem?_eq_none (by rw [List.length_set]; omega)] at e
      cases e
  · rw [List.getElem?_set_ne hj] at e
    obtain ⟨y, e1, e2⟩ := r.2 j u e
    exact ⟨y, by rw [List.getElem?_set_ne hj]; exact e1, e2⟩

/-- an exception: its class, its own dict -/
def xfieldsOf (E : En) (c : Nat) : List Str := match E.P.clss[c]? with
  | some K => K.xfs.map E.fnm
  | none => []
def RelX (E : En) (W : Wd) (e : Exc) (C : Value) (d : Option Addr) : Prop := C = .ref (E.cad e.c) ∧ ((e.fs = [] ∧ d = none) ∨ ∃ dd fs, e.fs ≠ [] ∧ d = some dd ∧ W.F dd ∧ W.H dd = some (.xd fs) ∧ RelFs E W 0 (e.fs.map fun q => (q.1, Val.p q.2)) fs)
theorem RelX.mono {E : En} {W W' : Wd} {e : Exc} {C : Value} {d : Option Addr} (x : Ex W W') (h : RelX E W e C d) : RelX E W' e C d := by
  obtain ⟨h1, h2⟩ := h
  refine ⟨h1, ?_⟩
  rcases h2 with h2 | ⟨dd, fs, e1, e2, e3, e4, e5⟩
  · exact .inl h2
  · obtain ⟨f', e'⟩ := x.fro dd e3
    exact .inr ⟨dd, fs, e1, e2, f', e'.trans e4, RelFs.mono x (Nat.le_refl _) (fun i hi => absurd hi (Nat.not_lt_zero i)) e5⟩

/-- going on from a result -/
def Go {α : Type} (E : En) (W : Wd) (h : Hh) (r : Res α) (K : α → Wd → Hh → Prop) (KX : Exc → Wd → Prop) : Prop := match r with
  | .ok v h' => ∀ W', Af E W h W' h' → K v W' h'
  | .exc e h' => ∀ W', Af E W h W' h' → KX e W'
  | .bad _ => False
/-- a value handed on -/
def KV (E : En) (Q : VK) : Val → Wd → Hh → Prop := fun v W h => ∀ x, RelVal E W h.length v x → Q x W.H
def KVs (E : En) (Q : List V → Hp → Prop) : List Val → Wd → Hh → Prop := fun v W h => ∀ x, RelVals E W h.length v x → Q x W.H
def KX (E : En) (Wx : WX) (σ' : L2.St) : Exc → Wd → Prop := fun e W => ∀ C d, RelX E W e C d → Wx C d σ' W.H
section
variable {E : En} {W W1 : Wd} {h h1 : Hh} {α β : Type} {K : α → Wd → Hh → Prop} {J : β → Wd → Hh → Prop} {X : Exc → Wd → Prop}
theorem Go.later {r : Res α} (a : Af E W h W1 h1) (g : Go E W h r K X) : Go E W1 h1 r K X := by
  cases r with
  | ok v h' => exact fun W' b => g W' (a.trans b)
  | exc e h' => exact fun W' b => g W' (a.trans b)
  | bad w => exact g
theorem Go.imp {r : Res α} {K' : α → Wd → Hh → Prop} (g : Go E W h r K X) (k : ∀ v W' h', Af E W h W' h' → K v W' h' → K' v W' h') : Go E W h r K' X := by
  cases r with
  | ok v h' => exact fun W' b => k v W' h' b (g W' b)
  | exc e h' => exact g
  | bad w => exact g
theorem Go.bind {r : Res α} {f : α → Hh → Res β} (g : Go E W h (r.bind f) J X) : Go E W h r (fun v W' h' => Go E W' h' (f v h') J X) X := by
  cases r with
  | ok v h' => exact fun W' b => Go.later b g
  | exc e h' => exact g
  | bad w => exact g
theorem Go.of_bind {r : Res α} {f : α → Hh → Res β} (g : Go E W h r (fun v W' h' => Go E W' h' (f v h') J X) X) (rl : ∀ v h', r = .ok v h' → ∃ W', Af E W h W' h') : True := trivial
theorem Go.ok {v : α} (r : RelH E W h) (g : Go E W h (.ok v h) K X) : K v W h := g W (Af.refl r)
end

/-- the reading of an evaluator's piece -/
def TR (E : En) (Wx : WX) (m : Sg → Hh → Res Val) : TE := fun σ' H Q => ∃ (W : Wd) (σ : Sg) (h : Hh), W.H = H ∧ RelS E W h.length σ σ' ∧ RelH E W h ∧ Go E W h (m σ h) (KV E Q) (KX E Wx σ')
def TRs (E : En) (Wx : WX) (m : Sg → Hh → Res (List Val)) : TA := fun σ' H Q => ∃ (W : Wd) (σ : Sg) (h : Hh), W.H = H ∧ RelS E W h.length σ σ' ∧ RelH E W h ∧ Go E W h (m σ h) (KVs E Q) (KX E Wx σ')
/-- a test's -/
def TB (E : En) (Wx : WX) (m : Sg → Hh → Res Val) : TT := fun σ' H Q => TR E Wx m σ' H fun x H1 => ∃ b, x = .bl b ∧ Q b H1
/-- what holds in between: a value v at x, and from there m goes on -/
def Mid (E : En) (Wx : WX) (σ' : L2.St) (Q : VK) (m : Sg → Hh → Res Val) (H : Hp) : Prop := ∃ (W : Wd) (σ : Sg) (h : Hh), W.H = H ∧ RelS E W h.length σ σ' ∧ RelH E W h ∧ Go E W h (m σ h) (KV E Q) (KX E Wx σ')
theorem TR.imp {E : En} {Wx : WX} {m : Sg → Hh → Res Val} {σ' : L2.St} {H : Hp} {Q Q' : VK} (t : TR E Wx m σ' H Q) (k : ∀ x H1, Q x H1 → Q' x H1) : TR E Wx m σ' H Q' := by
  obtain ⟨W, σ, h, e, r, rh, g⟩ := t
  exact ⟨W, σ, h, e, r, rh, g.imp fun v W' h' _ q x rx => k x W'.H (q x rx)⟩
/-- the first piece of a row of two: behind it the value, the slots and the heap, and how the second goes on -/
theorem TR.first {E : En} {Wx : WX} {m : Sg → Hh → Res Val} {f : Sg → Val → Hh → Res Val} {σ' : L2.St} {H : Hp} {Q : VK} (t : TR E Wx (fun σ h => (m σ h).bind (f σ)) σ' H Q) :
    TR E Wx m σ' H fun x H1 => ∃ (W : Wd) (σ : Sg) (h : Hh) (v : Val), W.H = H1 ∧ RelS E W h.length σ σ' ∧ RelH E W h ∧ RelVal E W h.length v x ∧ Go E W h (f σ v h) (KV E Q) (KX E Wx σ') := by
  obtain ⟨W, σ, h, e, r, rh, g⟩ := t
  exact ⟨W, σ, h, e, r, rh, (Go.bind g).imp fun v W' h' a q x rx => ⟨W', σ, h', v, rfl, a.sg r, a.rel, rx, q⟩⟩
/-- a def's, a method's value: what stands for an operation of values -/
def R1 (E : En) (Wx : WX) (σ' : L2.St) (m : Val → Hh → Res Val) : V → Hp → VK → Prop := fun x H Q => ∃ (W : Wd) (h : Hh) (v : Val), W.H = H ∧ RelH E W h ∧ RelVal E W h.length v x ∧ Go E W h (m v h) (KV E Q) (KX E Wx σ')
def R2 (E : En) (Wx : WX) (σ' : L2.St) (m : Val → Val → Hh → Res Val) : V → V → Hp → VK → Prop := fun x y H Q => ∃ (W : Wd) (h : Hh) (v u : Val), W.H = H ∧ RelH E W h ∧ RelVal E W h.length v x ∧ RelVal E W h.length u y ∧ Go E W h (m v u h) (KV E Q) (KX E Wx σ')
def Rn (E : En) (Wx : WX) (σ' : L2.St) (m : List Val → Hh → Res Val) : List V → Hp → VK → Prop := fun xs H Q => ∃ (W : Wd) (h : Hh) (vs : List Val), W.H = H ∧ RelH E W h ∧ RelVals E W h.length vs xs ∧ Go E W h (m vs h) (KV E Q) (KX E Wx σ')

/-- two pieces and an operation -/
theorem TR.two {E : En} {Wx : WX} {ma mb : Sg → Hh → Res Val} {f : Val → Val → Hh → Res Val} {σ' : L2.St} {H : Hp} {Q : VK} (t : TR E Wx (fun σ h => (ma σ h).bind fun x h => (mb σ h).bind fun y h => f x y h) σ' H Q) :
    TR E Wx ma σ' H fun x H1 => TR E Wx mb σ' H1 fun y H2 => R2 E Wx σ' f x y H2 Q :=
  (TR.first (f := fun σ x h => (mb σ h).bind fun y h => f x y h) t).imp fun x H1 ⟨W, σ, h, v, e, r, rh, rx, g⟩ =>
    ⟨W, σ, h, e, r, rh, (Go.bind g).imp fun u W' h' a q y ry => ⟨W', h', v, u, rfl, a.rel, a.val rx, ry, q⟩⟩
theorem TR.one {E : En} {Wx : WX} {ma : Sg → Hh → Res Val} {f : Val → Hh → Res Val} {σ' : L2.St} {H : Hp} {Q : VK} (t : TR E Wx (fun σ h => (ma σ h).bind f) σ' H Q) :
    TR E Wx ma σ' H fun x H1 => R1 E Wx σ' f x H1 Q :=
  (TR.first (f := fun _ => f) t).imp fun x H1 ⟨W, σ, h, v, e, r, rh, rx, g⟩ => ⟨W, h, v, e, rh, rx, g⟩
end Sb
set_option Elab.async false
set_option linter.all false
set_option autoImplicit false
set_option maxRecDepth 100000
set_option maxHeartbeats 2000000
/-! # Sc: new objects, changed objects, frozen objects; views -/
namespace Sb
open PySem PySem.Spec
open PyProof.Rows hiding St
open L2 (V Hp HO upd upd_same upd_ne VK TE TT TA TS Ends WX XK)
open Ev (PV Val MO Hh Sg Exc Res SR)

theorem getR_set {h : Hh} {i j : Nat} {o : Option MO} : Ev.getR (h.set i o) j = if i = j ∧ i < h.length then o else Ev.getR h j := by
  unfold Ev.getR
  by_cases e : i = j
  · subst e
    by_cases l : i < h.length
    · rw [List.getElem?_set_self l, if_pos ⟨rfl, l⟩]
    · rw [List.getElem?_eq_none (by rw [List.length_set]; omega), if_neg (fun z => l z.2), List.getElem?_eq_none (by omega)]
  · rw [List.getElem?_set_ne e, if_neg (fun z => e z.1)]
theorem getW_set {h : Hh} {i j : Nat} {o : Option MO} (u : MO) (e : Ev.getW (h.set i o) j = some u) (hij : i ≠ j) : Ev.getW h j = some u := by
  unfold Ev.getW at e ⊢
  rw [getR_set, if_neg (fun z => hij z.1)] at e
  exact e
theorem getR_app {h : Hh} {j : Nat} {o : MO} : Ev.getR (h ++ [some o]) j = if j = h.length then some o else Ev.getR h j := by
  unfold Ev.getR
  by_cases l : j < h.length
  · rw [List.getElem?_append_left l, if_neg (by omega)]
  · by_cases e : j = h.length
    · subst e
      rw [List.getElem?_append_right (Nat.le_refl _), Nat.sub_self, if_pos rfl]
      rfl
    · rw [if_neg e, List.getElem?_eq_none (by rw [List.length_append]; show h.length + 1 ≤ j; omega), List.getElem?_eq_none (by omega)]

theorem getW_app {h : Hh} {j : Nat} {o u : MO} (hj : j < h.length) (e : Ev.getW (h ++ [some o]) j = some u) : Ev.getW h j = some u := by
  unfold Ev.getW at e ⊢
  rw [getR_app, if_neg (Nat.ne_of_lt hj)] at e
  exact e
section
variable {E : En} {W W' : Wd} {h h' : Hh} {a : Addr} {o : HO}
theorem RelO.mono {n m : Nat} {u : MO} (x : Ex W W') (hn : n ≤ m) (hr : ∀ i, i < n → W'.ρ i = W.ρ i) (e : W'.H a = W.H a) (r : RelO E W n u a) : RelO E W' m u a := by
  cases u with
  | lst xs =>
    obtain ⟨ys, h1, h2⟩ := r
    exact ⟨ys, e.trans h1, h2.mono x hn hr⟩
  | dic kvs =>
    obtain ⟨o, h1, h2⟩ := r
    exact ⟨o, e.trans h1, h2.mono x hn hr⟩
  | lck u =>
    cases u with
    | lst xs =>
      obtain ⟨ys, h1, h2⟩ := r
      exact ⟨ys, e.trans h1, h2.mono x hn hr⟩
    | dic kvs =>
      obtain ⟨ob, o, h1, h2⟩ := r
      exact ⟨ob, o, e.trans h1, h2.mono x hn hr⟩
    | _ => exact r.elim
  | ins c fs =>
    obtain ⟨dx, ys, h1, h2⟩ := r
    exact ⟨dx, ys, e.trans h1, h2.mono x hn hr⟩
  | clo l env => exact (show False from r).elim
theorem RelO.some {n : Nat} {u : MO} (r : RelO E W n u a) : ∃ o, W.H a = some o := by
  cases u with
  | lst xs => obtain ⟨ys, h1, _⟩ := r; exact ⟨_, h1⟩
  | dic kvs => obtain ⟨o, h1, _⟩ := r; exact ⟨_, h1⟩
  | lck u =>
    cases u with
    | lst xs => obtain ⟨ys, h1, _⟩ := r; exact ⟨_, h1⟩
    | dic kvs => obtain ⟨ob, o, h1, _⟩ := r; exact ⟨_, h1⟩
    | _ => exact r.elim
  | ins c fs => obtain ⟨dx, ys, h1, _⟩ := r; exact ⟨_, h1⟩
  | clo l env => exact (show False from r).elim
theorem dic_code {E : En} {b : Addr} {ks : List NestedKey} {bs : List Addr} {ys : List V} {c : Addr} {q : Str} : DicN E b ks bs ys ≠ LamX.CodeO c q := fun z => by
  have z := HO.ext.inj z
  have z1 := congrFun z ⟨Array.replicate (c + 1) { cls := .none, data := .fields #[.none, .str q 0] }, {}⟩
  have g : (⟨Array.replicate (c + 1) { cls := .none, data := .fields #[.none, .str q 0] }, {}⟩ : Heap).get? c = some { cls := .none, data := .fields #[.none, .str q 0] } := by
    simp [Heap.get?]
  obtain ⟨_, _, us, _, o, es, ep, ho, _, hd, _⟩ := z1.mpr ⟨_, _, 0, g, rfl, rfl⟩
  have g2 : ∀ x : Addr, ∀ o, (⟨Array.replicate (c + 1) { cls := .none, data := .fields #[.none, .str q 0] }, {}⟩ : Heap).get? x = some o → o = { cls := .none, data := .fields #[.none, .str q 0] } := fun x o e => by
    unfold Heap.get? at e
    by_cases hx : x < c + 1
    · simp [hx] at e
      exact e.symm
    · simp [hx] at e
  rw [g2 _ _ ho] at hd
  cases hd
/-- a mutable object is no table, no code -/
theorem RelO.nt {n : Nat} {u : MO} (r : RelO E W n u a) (e : W.H a = Option.some o) : (∀ ps, o ≠ .tbl ps) ∧ ∀ c q, o ≠ LamX.CodeO c q := by
  have key : ∀ {x : HO}, W.H a = Option.some x → (∀ ps, x ≠ .tbl ps) → (∀ c q, x ≠ LamX.CodeO c q) → (∀ ps, o ≠ .tbl ps) ∧ ∀ c q, o ≠ LamX.CodeO c q := fun e' h1 h2 => by
    rw [e] at e'
    cases e'
    exact ⟨h1, h2⟩
  have keyD : ∀ {x : HO} {kvs : List (PV × Val)}, W.H a = Option.some x → RelD E W n kvs a x → (∀ ps, o ≠ .tbl ps) ∧ ∀ c q, o ≠ LamX.CodeO c q := fun e' r => by
    rcases r with ⟨ks, rfl, _⟩ | ⟨bs, ys, rfl, _⟩
    · exact key e' (fun _ z => nomatch z) fun _ _ z => nomatch z
    · exact key e' (fun _ z => nomatch z) fun _ _ => dic_code
  cases u with
  | lst xs => obtain ⟨ys, h1, _⟩ := r; exact key h1 (fun _ z => nomatch z) fun _ _ z => nomatch z
  | dic kvs => obtain ⟨x, h1, h2⟩ := r; exact keyD h1 h2
  | lck u =>
    cases u with
    | lst xs => obtain ⟨ys, h1, _⟩ := r; exact key h1 (fun _ z => nomatch z) fun _ _ z => nomatch z
    | dic kvs => obtain ⟨ob, x, h1, _⟩ := r; exact key h1 (fun _ z => nomatch z) fun _ _ z => nomatch z
    | _ => exact r.elim
  | ins c fs => obtain ⟨dx, ys, h1, _⟩ := r; exact key h1 (fun _ z => nomatch z) fun _ _ z => nomatch z
  | clo l env => exact (show False from r).elim
theorem tab_at (t : TabF E W) {p : Addr × Str} (hp : p ∈ E.T) : ∃ ps, W.H p.1 = some (.tbl ps) := by
  obtain ⟨ps, h1, _⟩ := t.1 p hp
  exact ⟨ps, h1⟩
theorem tab_ext (t : TabF E W) (e : ∀ b o, W.H b = some o → W'.H b = some o) (f : ∀ b, W'.F b → W.F b ∨ W.H b = none) : TabF E W' := ⟨t.1.ext e, fun p hp z => by
  obtain ⟨ps, q⟩ := tab_at t hp
  rcases f _ z with z | z
  · exact t.2 p hp z
  · rw [q] at z
    cases z⟩
theorem tab_chg (t : TabF E W) {x : Addr} {v : HO} (e : ∀ o, W.H x = some o → (∀ ps, o ≠ .tbl ps) ∧ ∀ c q, o ≠ LamX.CodeO c q) (hH : W'.H = upd W.H x v) (f : ∀ b, W'.F b → W.F b) : TabF E W' := ⟨fun p hp => by
  obtain ⟨ps, h1, h2, h3⟩ := t.1 p hp
  refine ⟨ps, ?_, h2, fun pos cv hc => ?_⟩
  · rw [hH, upd_ne (fun z => (e _ (by rw [← z]; exact h1)).1 ps rfl)]
    exact h1
  · obtain ⟨c, e1, e2⟩ := h3 pos cv hc
    refine ⟨c, e1, ?_⟩
    rw [hH, upd_ne (fun z => (e _ (by rw [← z]; exact e2)).2 c p.2 rfl)]
    exact e2, fun p hp z => t.2 p hp (f _ z)⟩
/-- a new object, frozen at once -/
def Wd.fz (W : Wd) (a : Addr) (o : HO) : Wd := ⟨upd W.H a o, fun b => W.F b ∨ b = a, W.ρ⟩
theorem RelH.ne (r : RelH E W h) {i : Nat} {u : MO} (e : Ev.getR h i = some u) (hn : W.H a = none) : W.ρ i ≠ a := fun z => by
  obtain ⟨o, q⟩ := (r.live i u e).some
  rw [z, hn] at q
  cases q
theorem ex_fz (r : RelH E W h) (hn : W.H a = none) : Ex W (W.fz a o) := ⟨fun b hb => ⟨.inl hb, by
  show upd W.H a o b = W.H b
  obtain ⟨o, q⟩ := r.frz b hb
  exact upd_ne fun z => by rw [z, hn] at q; cases q⟩⟩
theorem af_new (r : RelH E W h) (hn : W.H a = none) : Af E W h (W.fz a o) h where
  rel := ⟨tab_ext r.tab (fun b u e => by
      show upd W.H a o b = _
      rw [upd_ne (fun z => by rw [z, hn] at e; cases e)]
      exact e) (fun b hb => hb.elim .inl fun z => .inr (by rw [show b = a from z]; exact hn)), fun b hb => by
      rcases hb with hb | hb
      · obtain ⟨u, q⟩ := r.frz b hb
        exact ⟨u, by show upd W.H a o b = _; rw [upd_ne (fun z => by rw [z, hn] at q; cases q)]; exact q⟩
      · exact ⟨o, by subst hb; exact upd_same⟩,
    fun i u e => (r.live i u e).mono (ex_fz r hn) (Nat.le_refl _) (fun _ _ => rfl) (upd_ne (r.ne e hn)),
    fun i u e z => by
      rcases z with z | z
      · exact r.out i u e z
      · exact r.ne e hn z,
    fun i j o u e1 e2 e => r.inj i j o u e1 e2 e⟩
  len := Nat.le_refl _
  rho := fun _ _ => rfl
  ex := ex_fz r hn
  keep := fun b u e _ _ => by
    show upd W.H a o b = _
    rw [upd_ne (fun z => by rw [z, hn] at e; cases e)]
    exact e
  fro := fun b hb => hb.elim .inl fun z => .inr (.inl (by rw [z]; exact hn))
  dom := fun b u e => ⟨u, by
    show upd W.H a o b = _
    rw [upd_ne (fun z => by rw [z, hn] at e; cases e)]
    exact e⟩
  old := fun i u _ e => ⟨u, e⟩
  oldR := fun i u _ e => ⟨u, e⟩
  new := fun i u hl e => absurd (getR_lt e) (Nat.not_lt.mpr hl)
theorem new_lst (r : RelH E W h) (hn : W.H a = none) {xs : List PV} {ys : List V} (rs : RelPs E W xs ys) : RelP E (W.fz a (.lst ys)) (.lst xs) (.ref a) :=
  ⟨a, ys, rfl, .inr rfl, upd_same, rs.mono (ex_fz r hn)⟩
theorem new_tup (r : RelH E W h) (hn : W.H a = none) {xs : List PV} {ys : List V} (rs : RelPs E W xs ys) : RelP E (W.fz a (.tup ys)) (.tup xs) (.ref a) :=
  ⟨a, ys, rfl, .inr rfl, upd_same, rs.mono (ex_fz r hn)⟩
/-- a new object, mutable -/
def Wd.mk' (W : Wd) (n : Nat) (a : Addr) (o : HO) : Wd := ⟨upd W.H a o, W.F, fun i => if i = n then a else W.ρ i⟩
theorem ex_mk (r : RelH E W h) {n : Nat} (hn : W.H a = none) : Ex W (W.mk' n a o) := ⟨fun b hb => ⟨hb, by
  obtain ⟨o, q⟩ := r.frz b hb
  exact upd_ne fun z => by rw [z, hn] at q; cases q⟩⟩
theorem mk_rho {i : Nat} (hi : i < h.length) : (W.mk' h.length a o).ρ i = W.ρ i := if_neg (Nat.ne_of_lt hi)
theorem af_mk (r : RelH E W h) (hn : W.H a = none) {u : MO} (ru : RelO E (W.mk' h.length a o) (h.length + 1) u a) : Af E W h (W.mk' h.length a o) (h ++ [some u]) where
  rel := by
    have ll : (h ++ [some u]).length = h.length + 1 := by rw [List.length_append]; rfl
    refine ⟨tab_ext r.tab (fun b u e => by
      show upd W.H a o b = _
      rw [upd_ne (fun z => by rw [z, hn] at e; cases e)]
      exact e) (fun b hb => .inl hb), fun b hb => ?_, fun i v e => ?_, fun i v e z => ?_, fun i j v w e1 e2 e => ?_⟩
    · obtain ⟨x, q⟩ := r.frz b hb
      exact ⟨x, by show upd W.H a o b = _; rw [upd_ne (fun z => by rw [z, hn] at q; cases q)]; exact q⟩
    · rw [ll]
      rw [getR_app] at e
      by_cases hi : i = h.length
      · subst hi
        rw [if_pos rfl] at e
        cases e
        have : (W.mk' h.length a o).ρ h.length = a := if_pos rfl
        rw [this]
        exact ru
      · rw [if_neg hi] at e
        have hl := getR_lt e
        rw [mk_rho hl]
        exact (r.live i v e).mono (ex_mk r hn) (Nat.le_succ _) (fun j hj => mk_rho hj) (upd_ne (r.ne e hn))
    · rw [getR_app] at e
      by_cases hi : i = h.length
      · subst hi
        have q : (W.mk' h.length a o).ρ h.length = a := if_pos rfl
        rw [q] at z
        obtain ⟨x, q⟩ := r.frz a z
        rw [hn] at q
        cases q
      · rw [if_neg hi] at e
        rw [mk_rho (getR_lt e)] at z
        exact r.out i v e z
    · rw [getR_app] at e1 e2
      have q : (W.mk' h.length a o).ρ h.length = a := if_pos rfl
      by_cases hi : i = h.length
      · by_cases hj : j = h.length
        · rw [hi, hj]
        · rw [if_neg hj] at e2
          rw [hi, q, mk_rho (getR_lt e2)] at e
          exact absurd e.symm (r.ne e2 hn)
      · rw [if_neg hi] at e1
        by_cases hj : j = h.length
        · rw [hj, q, mk_rho (getR_lt e1)] at e
          exact absurd e (r.ne e1 hn)
        · rw [if_neg hj] at e2
          rw [mk_rho (getR_lt e1), mk_rho (getR_lt e2)] at e
          exact r.inj i j v w e1 e2 e
  len := by rw [List.length_append]; exact Nat.le_add_right _ _
  rho := fun i hi => mk_rho hi
  ex := ex_mk r hn
  keep := fun b u e _ _ => by
    show upd W.H a o b = _
    rw [upd_ne (fun z => by rw [z, hn] at e; cases e)]
    exact e
  fro := fun b hb => .inl hb
  dom := fun b u e => ⟨u, by
    show upd W.H a o b = _
    rw [upd_ne (fun z => by rw [z, hn] at e; cases e)]
    exact e⟩
  old := fun i v hi e => ⟨v, getW_app hi e⟩
  oldR := fun i v hi e => by
    rw [getR_app, if_neg (Nat.ne_of_lt hi)] at e
    exact ⟨v, e⟩
  new := fun i v hi e => by
    rw [getR_app] at e
    by_cases q : i = h.length
    · subst q
      have q : (W.mk' h.length a o).ρ h.length = a := if_pos rfl
      rw [q]
      exact hn
    · rw [if_neg q] at e
      exact absurd (getR_lt e) (Nat.not_lt.mpr hi)
theorem mk_val {n : Nat} : RelVal E (W.mk' n a o) (n + 1) (.r n) (.ref a) := ⟨Nat.lt_succ_self n, by show V.ref a = V.ref (if n = n then a else W.ρ n); rw [if_pos rfl]⟩
/-- a mutable object is changed -/
def Wd.chg (W : Wd) (i : Nat) (o : HO) : Wd := ⟨upd W.H (W.ρ i) o, W.F, W.ρ⟩
theorem ex_chg (r : RelH E W h) {i : Nat} {u : MO} (e : Ev.getR h i = some u) : Ex W (W.chg i o) := ⟨fun b hb => ⟨hb, upd_ne fun z => r.out i u e (by rw [← z]; exact hb)⟩⟩
theorem af_chg (r : RelH E W h) {i : Nat} {u v : MO} (e' : Ev.getW h i = some u) (rv : RelO E (W.chg i o) h.length v (W.ρ i)) : Af E W h (W.chg i o) (h.set i (some v)) where
  rel := by
    have e := getW_R e'
    refine ⟨tab_chg r.tab (x := W.ρ i) (v := o) (fun o ho => (r.live i u e).nt ho) rfl (fun b hb => hb), fun b hb => ?_, fun j w q => ?_, fun j w q z => ?_, fun j k w x q1 q2 z => ?_⟩
    · obtain ⟨x, q⟩ := r.frz b hb
      exact ⟨x, by show upd W.H (W.ρ i) o b = _; rw [upd_ne (fun z => r.out i u e (by rw [← z]; exact hb))]; exact q⟩
    · rw [List.length_set]
      rw [getR_set] at q
      by_cases hj : i = j
      · subst hj
        rw [if_pos ⟨rfl, getR_lt e⟩] at q
        cases q
        exact rv
      · rw [if_neg (fun z => hj z.1)] at q
        exact (r.live j w q).mono (ex_chg r e) (Nat.le_refl _) (fun _ _ => rfl) (upd_ne fun z => hj (r.inj i j u w e q z.symm))
    · rw [getR_set] at q
      by_cases hj : i = j
      · subst hj
        exact r.out i u e z
      · rw [if_neg (fun z => hj z.1)] at q
        exact r.out j w q z
    · have key : ∀ {j w}, Ev.getR (h.set i (some v)) j = some w → ∃ w', Ev.getR h j = some w' := fun {j w} q => by
        rw [getR_set] at q
        by_cases hj : i = j
        · subst hj
          exact ⟨u, e⟩
        · rw [if_neg (fun z => hj z.1)] at q
          exact ⟨w, q⟩
      obtain ⟨w1, e1⟩ := key q1
      obtain ⟨w2, e2⟩ := key q2
      exact r.inj j k w1 w2 e1 e2 z
  len := by rw [List.length_set]; exact Nat.le_refl _
  rho := fun _ _ => rfl
  ex := ex_chg r (getW_R e')
  keep := fun b x q no _ => by
    show upd W.H (W.ρ i) o b = _
    rw [upd_ne (fun z => no i u e' z.symm)]
    exact q
  fro := fun b hb => .inl hb
  dom := fun b x q => by
    by_cases hb : b = W.ρ i
    · exact ⟨o, by subst hb; exact upd_same⟩
    · exact ⟨x, by show upd W.H (W.ρ i) o b = _; rw [upd_ne hb]; exact q⟩
  old := fun j w _ q => by
    by_cases hj : i = j
    · subst hj
      exact ⟨u, e'⟩
    · exact ⟨w, getW_set w q hj⟩
  oldR := fun j w _ q => by
    rw [getR_set] at q
    by_cases hj : i = j
    · subst hj
      exact ⟨u, getW_R e'⟩
    · rw [if_neg (fun z => hj z.1)] at q
      exact ⟨w, q⟩
  new := fun j w hl q => absurd (getR_lt q) (by rw [List.length_set]; omega)
/-- a mutable object is let go: it stays as it is, for good or for a while -/
theorem af_gone {F : Addr → Prop} (r : RelH E W h) (i : Nat) (hF : ∀ b, W.F b → F b) (hF2 : ∀ b, F b → W.F b ∨ (b = W.ρ i ∧ ∃ u, Ev.getR h i = some u)) : Af E W h ⟨W.H, F, W.ρ⟩ (h.set i none) where
  rel := by
    have x : Ex W ⟨W.H, F, W.ρ⟩ := ⟨fun b hb => ⟨hF b hb, rfl⟩⟩
    have key : ∀ {j w}, Ev.getR (h.set i none) j = some w → i ≠ j ∧ Ev.getR h j = some w := fun {j w} q => by
      rw [getR_set] at q
      by_cases hj : i = j
      · subst hj
        by_cases hl : i < h.length
        · rw [if_pos ⟨rfl, hl⟩] at q; cases q
        · rw [if_neg (fun z => hl z.2)] at q
          exact absurd (getR_lt q) hl
      · rw [if_neg (fun z => hj z.1)] at q
        exact ⟨hj, q⟩
    refine ⟨⟨r.tab.1, fun p hp z => by
      rcases hF2 _ z with z | ⟨z, u, q⟩
      · exact r.tab.2 p hp z
      · obtain ⟨ps, q2⟩ := tab_at r.tab hp
        rw [z] at q2
        exact ((r.live i u q).nt q2).1 ps rfl⟩, fun b hb => ?_, fun j w q => ?_, fun j w q z => ?_, fun j k w x q1 q2 z => ?_⟩
    · rcases hF2 b hb with hb | ⟨hb, u, q⟩
      · exact r.frz b hb
      · subst hb
        exact (r.live i u q).some
    · rw [List.length_set]
      exact (r.live j w (key q).2).mono x (Nat.le_refl _) (fun _ _ => rfl) rfl
    · obtain ⟨hj, q⟩ := key q
      rcases hF2 _ z with z | ⟨z, u, q2⟩
      · exact r.out j w q z
      · exact hj (r.inj i j u w q2 q z.symm)
    · exact r.inj j k w x (key q1).2 (key q2).2 z
  len := by rw [List.length_set]; exact Nat.le_refl _
  rho := fun _ _ => rfl
  ex := ⟨fun b hb => ⟨hF b hb, rfl⟩⟩
  keep := fun b x q _ _ => q
  fro := fun b hb => (hF2 b hb).elim .inl fun ⟨z, u, q⟩ => .inr (.inr ⟨i, u, q, z.symm⟩)
  dom := fun b x q => ⟨x, q⟩
  old := fun j w hl q => by
    by_cases hj : i = j
    · subst hj
      have q1 := getW_R q
      rw [getR_set, if_pos ⟨rfl, hl⟩] at q1
      cases q1
    · exact ⟨w, getW_set w q hj⟩
  oldR := fun j w _ q => by
    rw [getR_set] at q
    by_cases hj : i = j ∧ i < h.length
    · rw [if_pos hj] at q; cases q
    · rw [if_neg hj] at q
      exact ⟨w, q⟩
  new := fun j w hl q => absurd (getR_lt q) (by rw [List.length_set]; omega)
end

/-! ### views -/
/-- what can be read at x now -/
def RelC (E : En) (W : Wd) : PV → V → Prop
  | .lst xs, v => ∃ a ys, v = .ref a ∧ W.H a = some (.lst ys) ∧ RelPs E W xs ys
  | .dic kvs, v => ∃ a o, v = .ref a ∧ L2.Rd W.H a o ∧ ((∃ ks, o = .dK ks ∧ RelKs E W kvs ks) ∨ ∃ bs ys, o = DicN E a (nks (Ev.keysP kvs)) bs ys ∧ kvs ≠ [] ∧ RelTs E W kvs bs ys)
  | p, v => RelP E W p v
section
variable {E : En} {W W' : Wd} {h h' : Hh}
theorem RelC.of {p : PV} {x : V} (r : RelP E W p x) : RelC E W p x := by
  cases p with
  | lst xs => obtain ⟨a, ys, e, _, q, s⟩ := r; exact ⟨a, ys, e, q, s⟩
  | dic xs => obtain ⟨a, ob, o, e, _, q, s⟩ := r; exact ⟨a, o, e, .inr ⟨ob, q⟩, s⟩
  | _ => exact r
theorem pures_rel {n : Nat} : ∀ {vs : List Val} {ps : List PV} {ys : List V}, Ev.pures vs = some ps → RelVals E W n vs ys → RelPs E W ps ys
  | [], ps, ys, e, r => by cases e; exact r
  | .p v :: vs, ps, ys, e, r => by
    unfold Ev.pures at e
    cases q : Ev.pures vs with
    | none => rw [q] at e; cases e
    | some qs =>
      rw [q] at e
      cases e
      obtain ⟨y, t, e1, h1, h2⟩ := r
      exact ⟨y, t, e1, h1, pures_rel q h2⟩
  | .r i :: vs, ps, ys, e, r => by cases e
theorem pureKvs_cons {k : PV} {v : Val} {vs : List (PV × Val)} {ps : List (PV × PV)} (e : Ev.pureKvs ((k, v) :: vs) = some ps) : ∃ p qs, v = .p p ∧ Ev.pureKvs vs = some qs ∧ ps = (k, p) :: qs := by
  cases v with
  | r i => cases e
  | p p =>
    unfold Ev.pureKvs at e
    cases q : Ev.pureKvs vs with
    | none => rw [q] at e; cases e
    | some qs =>
      rw [q] at e
      cases e
      exact ⟨p, qs, rfl, rfl, rfl⟩
theorem pureKvs_rel {n : Nat} : ∀ {vs : List (PV × Val)} {ps : List (PV × PV)} {ys : List (L2.Key × V)}, Ev.pureKvs vs = some ps → RelVKs E W n vs ys → RelKs E W ps ys
  | [], ps, ys, e, r => by cases e; exact r
  | (k, v) :: vs, ps, ys, e, r => by
    obtain ⟨p, qs, rfl, e1, rfl⟩ := pureKvs_cons e
    obtain ⟨z, y, t, e2, hk, h1, h2⟩ := r
    exact ⟨z, y, t, e2, hk, h1, pureKvs_rel e1 h2⟩
theorem pureKvs_relT {n : Nat} : ∀ {vs : List (PV × Val)} {ps : List (PV × PV)} {bs : List Addr} {ys : List V}, Ev.pureKvs vs = some ps → RelVTs E W n vs bs ys → RelTs E W ps bs ys
  | [], ps, bs, ys, e, r => by cases e; exact r
  | (k, v) :: vs, ps, bs, ys, e, r => by
    obtain ⟨p, qs, rfl, e1, rfl⟩ := pureKvs_cons e
    obtain ⟨b, bt, y, yt, e2, e3, hk, h0, h1, h2⟩ := r
    exact ⟨b, bt, y, yt, e2, e3, hk, h0, h1, pureKvs_relT e1 h2⟩
theorem pureKvs_keys : ∀ {vs : List (PV × Val)} {ps : List (PV × PV)}, Ev.pureKvs vs = some ps → Ev.keysP ps = Ev.keysP vs
  | [], ps, e => by cases e; rfl
  | (k, v) :: vs, ps, e => by
    obtain ⟨p, qs, rfl, e1, rfl⟩ := pureKvs_cons e
    show k :: Ev.keysP qs = k :: Ev.keysP vs
    rw [pureKvs_keys e1]
theorem RelD.pure {n : Nat} {a : Addr} {o : HO} {vs : List (PV × Val)} {ps : List (PV × PV)} (e : Ev.pureKvs vs = some ps) (r : RelD E W n vs a o) : (∃ ks, o = .dK ks ∧ RelKs E W ps ks) ∨ ∃ bs ys, o = DicN E a (nks (Ev.keysP ps)) bs ys ∧ ps ≠ [] ∧ RelTs E W ps bs ys := by
  rcases r with ⟨ks, eo, r⟩ | ⟨bs, ys, eo, ne, r⟩
  · exact .inl ⟨ks, eo, pureKvs_rel e r⟩
  · refine .inr ⟨bs, ys, by rw [pureKvs_keys e]; exact eo, fun z => ?_, pureKvs_relT e r⟩
    subst z
    cases vs with
    | nil => exact ne rfl
    | cons q vs =>
      obtain ⟨p, qs, _, _, z⟩ := pureKvs_cons (k := q.1) (v := q.2) e
      cases z
theorem getO_cases {i : Nat} {o : MO} (e : Ev.getO h i = some o) : Ev.getR h i = some o ∨ Ev.getR h i = some (.lck o) := by
  unfold Ev.getO at e
  cases q : Ev.getR h i with
  | none => rw [q] at e; cases e
  | some u =>
    rw [q] at e
    cases u with
    | lck u => cases e; exact .inr rfl
    | _ => exact .inl e
/-- a list that is read -/
theorem RelH.lst {i : Nat} {xs : List Val} (r : RelH E W h) (e : Ev.getO h i = some (.lst xs)) : ∃ ys, W.H (W.ρ i) = some (.lst ys) ∧ RelVals E W h.length xs ys := by
  rcases getO_cases e with e' | e'
  · exact r.live i _ e'
  · exact r.live i _ e'
theorem RelH.dic {i : Nat} {kvs : List (PV × Val)} (r : RelH E W h) (e : Ev.getO h i = some (.dic kvs)) : ∃ o, L2.Rd W.H (W.ρ i) o ∧ RelD E W h.length kvs (W.ρ i) o := by
  rcases getO_cases e with e | e
  · obtain ⟨o, h1, h2⟩ := r.live i _ e
    exact ⟨o, .inl h1, h2⟩
  · obtain ⟨ob, o, h1, h2⟩ := r.live i _ e
    exact ⟨o, .inr ⟨ob, h1⟩, h2⟩
theorem RelH.ins {i c : Nat} {fs : List (Nat × Val)} (r : RelH E W h) (e : Ev.getO h i = some (.ins c fs)) : ∃ dx ys, W.H (W.ρ i) = some (.ins (E.cad c) dx ys) ∧ RelFs E W h.length fs ys := by
  rcases getO_cases e with e' | e'
  · exact r.live i _ e'
  · exact (show False from r.live i _ e').elim
/-- a view's value -/
theorem vw_rel {v : Val} {p : PV} {x : V} (r : RelH E W h) (e : Ev.vw h v = some p) (rv : RelVal E W h.length v x) : RelC E W p x := by
  cases v with
  | p q => cases e; exact RelC.of rv
  | r i =>
    obtain ⟨_, rfl⟩ := rv
    unfold Ev.vw at e
    cases q : Ev.getO h i with
    | none => simp only [q] at e; cases e
    | some o =>
      simp only [q] at e
      cases o with
      | lst xs =>
        cases z : Ev.pures xs with
        | none => simp only [z] at e; cases e
        | some vs =>
          simp only [z] at e
          cases e
          obtain ⟨ys, h1, h2⟩ := r.lst q
          exact ⟨_, ys, rfl, h1, pures_rel z h2⟩
      | dic kvs =>
        cases z : Ev.pureKvs kvs with
        | none => simp only [z] at e; cases e
        | some vs =>
          simp only [z] at e
          cases e
          obtain ⟨o, h1, h2⟩ := r.dic q
          exact ⟨_, o, rfl, h1, h2.pure z⟩
      | ins c fs => cases e
      | clo l env => cases e
      | lck u => cases e
end
end Sb
set_option Elab.async false
set_option linter.all false
set_option autoImplicit false
set_option maxRecDepth 100000
set_option maxHeartbeats 2000000
/-! # Sd: readings of the small expressions; data -/
namespace Sb
open PySem PySem.Spec
open PyProof.Rows hiding St
open L2 (V Hp HO upd upd_same upd_ne VK TE TT TA TS Ends WX XK PE PT PA PS PSs Inv OpR)
open Ev (PV Val MO Hh Sg Exc Res SR)

abbrev PEv (E : En) (X : L2.Cx) (Wx : WX) (C : Ev.Call) (e : Expr) (c : Ev.CE) : Prop := PE X e (TR E Wx (Ev.evE E.P C c))
abbrev PTv (E : En) (X : L2.Cx) (Wx : WX) (C : Ev.Call) (e : Expr) (c : Ev.CE) : Prop := PT X e (TB E Wx (Ev.evE E.P C c))
abbrev PAv (E : En) (X : L2.Cx) (Wx : WX) (C : Ev.Call) (es : List Expr) (c : Ev.CE) : Prop := PA X es (TRs E Wx (Ev.evA E.P C c))
section
variable {E : En} {X : L2.Cx} {Wx : WX} {C : Ev.Call} {σ' : L2.St} {H : Hp} {Q : VK}
theorem pe_weak {e : Expr} {t t' : TE} (h : PE X e t) (k : ∀ σ H Q, t' σ H Q → t σ H Q) : PE X e t' := ⟨fun pins s σ H Q I q => h.run pins s σ H Q I (k σ H Q q)⟩
theorem pt_weak {e : Expr} {t t' : TT} (h : PT X e t) (k : ∀ σ H Q, t' σ H Q → t σ H Q) : PT X e t' := ⟨fun pins s σ H Q I q => h.run pins s σ H Q I (k σ H Q q)⟩
theorem pa_weak {e : List Expr} {t t' : TA} (h : PA X e t) (k : ∀ σ H Q, t' σ H Q → t σ H Q) : PA X e t' := ⟨fun pos pins s σ H Q I q => h.run pos pins s σ H Q I (k σ H Q q)⟩
theorem ps_weak {e : Stmt} {t t' : TS} (h : PS X e t) (k : ∀ D σ H, t' D σ H → t D σ H) : PS X e t' := ⟨fun pins s σ H D I q => h.run pins s σ H D I (k D σ H q)⟩
theorem pss_weak {e : List Stmt} {t t' : TS} (h : PSs X e t) (k : ∀ D σ H, t' D σ H → t D σ H) : PSs X e t' := ⟨fun pins s σ H D I q => h.run pins s σ H D I (k D σ H q)⟩

/-! ### names, constants -/
theorem te_var {e : Expr} {i : Nat} (h : PE X e (L2.tVar i)) : PEv E X Wx C e (.var i) := pe_weak h fun σ' H Q ⟨W, σ, h, e, r, rh, g⟩ => by
  subst e
  unfold Ev.evE at g
  cases q : σ[i]? with
  | none => rw [q] at g; exact g.elim
  | some o =>
    cases o with
    | none => rw [q] at g; exact g.elim
    | some v =>
      rw [q] at g
      obtain ⟨x, e1, e2⟩ := r.2 i v q
      exact ⟨x, e1, Go.ok rh g x e2⟩
theorem te_cst {e : Expr} {c : PV} {v : V} (h : PE X e (L2.tC v)) (k : ∀ W, RelP E W c v) : PEv E X Wx C e (.cst c) := pe_weak h fun σ' H Q ⟨W, σ, h, e, r, rh, g⟩ => by
  subst e
  unfold Ev.evE at g
  exact Go.ok rh g v (k W)
theorem te_int {i : Int} {j pos} : PEv E X Wx C (.Constant (.int i) j pos) (.cst (.int i)) := te_cst L2.pe_int fun _ => rfl
theorem te_bl {b : Bool} {j pos} : PEv E X Wx C (.Constant (.bool b) j pos) (.cst (.bl b)) := te_cst L2.pe_bl fun _ => rfl
theorem te_non {j pos} : PEv E X Wx C (.Constant .none j pos) (.cst .non) := te_cst L2.pe_non fun _ => rfl
theorem te_str {x : Str} {s : List Nat} {j pos} (e : x = St' s) : PEv E X Wx C (.Constant (.str x) j pos) (.cst (.str s)) := te_cst L2.pe_str fun _ => by rw [e]; rfl
theorem te_gint {x : Str} {i : Int} {pos : Pos} (hg : L2.Gl X x) (hm : ∃ t, X.mg x = some (.int i t)) (hd : (x == ("__debug__" : Str)) = false := by decide) : PEv E X Wx C (.Name x pos) (.cst (.int i)) := by
  obtain ⟨t, hm⟩ := hm
  exact te_cst (v := .int i) (L2.pe_glob hg hm ⟨t, rfl⟩ hd) fun _ => rfl
theorem te_gstr {x : Str} {z : Str} {s : List Nat} {pos : Pos} (hg : L2.Gl X x) (hm : ∃ t, X.mg x = some (.str z t)) (e : z = St' s) (hd : (x == ("__debug__" : Str)) = false := by decide) : PEv E X Wx C (.Name x pos) (.cst (.str s)) := by
  obtain ⟨t, hm⟩ := hm
  exact te_cst (v := .str z) (L2.pe_glob hg hm ⟨t, rfl⟩ hd) fun _ => by rw [e]; rfl
theorem te_gfn {x : Str} {f : Nat} {pos : Pos} (hg : L2.Gl X x) (hm : X.mg x = some (.ref (E.adr f))) (hd : (x == ("__debug__" : Str)) = false := by decide) : PEv E X Wx C (.Name x pos) (.cst (.fn f)) :=
  te_cst (v := .ref (E.adr f)) (L2.pe_glob hg hm rfl hd) fun _ => rfl
theorem te_gcl {x : Str} {f : Nat} {pos : Pos} (hg : L2.Gl X x) (hm : X.mg x = some (.ref (E.cad f))) (hd : (x == ("__debug__" : Str)) = false := by decide) : PEv E X Wx C (.Name x pos) (.cst (.cl f)) :=
  te_cst (v := .ref (E.cad f)) (L2.pe_glob hg hm rfl hd) fun _ => rfl

/-! ### tests -/
theorem RelVal.bl {W : Wd} {n : Nat} {b : Bool} {x : V} (r : RelVal E W n (.p (.bl b)) x) : x = .bl b := r
/-- a test as the evaluator asks it -/
theorem TR.tst {m : Sg → Hh → Res Val} {f : Sg → Bool → Hh → Res Val} (t : TR E Wx (fun σ h => Ev.tst (m σ h) (f σ)) σ' H Q) : TR E Wx m σ' H fun x H1 => ∃ c, x = .bl c ∧ TR E Wx (fun σ h => f σ c h) σ' H1 Q := by
  obtain ⟨W, σ, h, e, r, rh, g⟩ := t
  refine ⟨W, σ, h, e, r, rh, ?_⟩
  have g : Go E W h (Ev.tst (m σ h) (f σ)) (KV E Q) (KX E Wx σ') := g
  cases q : m σ h with
  | bad w => rw [q] at g; exact g
  | exc ex h1 => rw [q] at g; exact g
  | ok v h1 =>
    rw [q] at g
    cases v with
    | r i => exact g.elim
    | p v =>
      cases v with
      | bl c => exact fun W' a x rx => ⟨c, rx, W', σ, h1, rfl, a.sg r, a.rel, Go.later a g⟩
      | _ => exact g.elim
theorem pt_of {e : Expr} {c : Ev.CE} (h : PEv E X Wx C e c) (he : ∀ whole, isTrue e X.env whole = (do let v ← whole; standAt e.pos; holding [v] (truthy v)) := by intro _; rfl) : PTv E X Wx C e c :=
  pt_weak (L2.pt_val h he) fun _ _ _ t => t
theorem TB.cases {m : Sg → Hh → Res Val} {f : Sg → Bool → Hh → Res Val} (t : TR E Wx (fun σ h => Ev.tst (m σ h) (f σ)) σ' H Q) : TB E Wx m σ' H fun c H1 => TR E Wx (fun σ h => f σ c h) σ' H1 Q := TR.tst t
theorem te_not {a : Expr} {c : Ev.CE} {pos : Pos} (h : PEv E X Wx C a c) : PEv E X Wx C (.UnaryOp .Not a pos) (.not c) := pe_weak (L2.pe_not h) fun σ' H Q t => by
  refine (TR.tst (m := Ev.evE E.P C c) (f := fun _ t h => .ok (.p (.bl (!t))) h) t).imp fun x H1 ⟨c, e, W, σ, h, eH, r, rh, g⟩ => ⟨c, e, ?_⟩
  have := Go.ok rh g (.bl (!c)) rfl
  rw [eH] at this
  exact this
theorem ptw_weak {e : Expr} {t t' : TT} (h : L2.PW X e t) (k : ∀ σ H Q, t' σ H Q → t σ H Q) : L2.PW X e t' := ⟨fun wh pins s σ H Q I q => h.run wh pins s σ H Q I (k σ H Q q)⟩
theorem tt_not {a : Expr} {c : Ev.CE} {pos : Pos} (h : PTv E X Wx C a c) : PTv E X Wx C (.UnaryOp .Not a pos) (.not c) := pt_weak (L2.pt_not h) fun σ' H Q t => by
  refine (TR.tst (m := Ev.evE E.P C c) (f := fun _ t h => .ok (.p (.bl (!t))) h) t).imp fun x H1 ⟨c, e, W, σ, h, eH, r, rh, g⟩ => ⟨c, e, ?_⟩
  obtain ⟨b, e1, e2⟩ := Go.ok rh g (.bl (!c)) rfl
  cases e1
  rw [eH] at e2
  exact e2
theorem te_and {a b : Expr} {rest : List Expr} {ca cb : Ev.CE} {pos : Pos} (ha : PEv E X Wx C a ca) (hb : PEv E X Wx C (.BoolOp .And (b :: rest) pos) cb) : PEv E X Wx C (.BoolOp .And (a :: b :: rest) pos) (.and ca cb) := pe_weak (L2.pe_and ha hb) fun σ' H Q t => by
  refine (TR.tst (m := Ev.evE E.P C ca) (f := fun σ t h => match t with
    | true => Ev.evE E.P C cb σ h
    | false => .ok (.p (.bl false)) h) t).imp fun x H1 ⟨c, e, t⟩ => ⟨c, e, ?_⟩
  cases c with
  | true => exact t
  | false =>
    obtain ⟨W, σ, h, eH, r, rh, g⟩ := t
    have := Go.ok rh g (.bl false) rfl
    rw [eH] at this
    exact this
theorem te_or {a b : Expr} {rest : List Expr} {ca cb : Ev.CE} {pos : Pos} (ha : PEv E X Wx C a ca) (hb : PEv E X Wx C (.BoolOp .Or (b :: rest) pos) cb) : PEv E X Wx C (.BoolOp .Or (a :: b :: rest) pos) (.or ca cb) := pe_weak (L2.pe_or ha hb) fun σ' H Q t => by
  refine (TR.tst (m := Ev.evE E.P C ca) (f := fun σ t h => match t with
    | true => .ok (.p (.bl true)) h
    | false => Ev.evE E.P C cb σ h) t).imp fun x H1 ⟨c, e, t⟩ => ⟨c, e, ?_⟩
  cases c with
  | false => exact t
  | true =>
    obtain ⟨W, σ, h, eH, r, rh, g⟩ := t
    have := Go.ok rh g (.bl true) rfl
    rw [eH] at this
    exact this
theorem te_one {op} {a : Expr} {ca : Ev.CE} {pos : Pos} (h : PEv E X Wx C a ca) : PEv E X Wx C (.BoolOp op [a] pos) ca := L2.pe_one h
abbrev PWv (E : En) (X : L2.Cx) (Wx : WX) (C : Ev.Call) (e : Expr) (c : Ev.CE) : Prop := L2.PW X e (TB E Wx (Ev.evE E.P C c))
theorem tw_and {a b : Expr} {rest : List Expr} {ca cb : Ev.CE} {pos : Pos} (ha : PTv E X Wx C a ca) (hb : PWv E X Wx C (.BoolOp .And (b :: rest) pos) cb) : PWv E X Wx C (.BoolOp .And (a :: b :: rest) pos) (.and ca cb) := ptw_weak (L2.pw_and ha hb) fun σ' H Q t => by
  refine (TR.tst (m := Ev.evE E.P C ca) (f := fun σ t h => match t with
    | true => Ev.evE E.P C cb σ h
    | false => .ok (.p (.bl false)) h) t).imp fun x H1 ⟨c, e, t⟩ => ⟨c, e, ?_⟩
  cases c with
  | true => exact t
  | false =>
    obtain ⟨W, σ, h, eH, r, rh, g⟩ := t
    obtain ⟨b, e1, e2⟩ := Go.ok rh g (.bl false) rfl
    cases e1
    rw [eH] at e2
    exact e2
theorem tw_or {a b : Expr} {rest : List Expr} {ca cb : Ev.CE} {pos : Pos} (ha : PTv E X Wx C a ca) (hb : PWv E X Wx C (.BoolOp .Or (b :: rest) pos) cb) : PWv E X Wx C (.BoolOp .Or (a :: b :: rest) pos) (.or ca cb) := ptw_weak (L2.pw_or ha hb) fun σ' H Q t => by
  refine (TR.tst (m := Ev.evE E.P C ca) (f := fun σ t h => match t with
    | true => .ok (.p (.bl true)) h
    | false => Ev.evE E.P C cb σ h) t).imp fun x H1 ⟨c, e, t⟩ => ⟨c, e, ?_⟩
  cases c with
  | false => exact t
  | true =>
    obtain ⟨W, σ, h, eH, r, rh, g⟩ := t
    obtain ⟨b, e1, e2⟩ := Go.ok rh g (.bl true) rfl
    cases e1
    rw [eH] at e2
    exact e2
theorem tw_and1 {a : Expr} {ca : Ev.CE} {pos : Pos} (ha : PTv E X Wx C a ca) : PWv E X Wx C (.BoolOp .And [a] pos) ca := L2.pw_and1 ha
theorem tw_or1 {a : Expr} {ca : Ev.CE} {pos : Pos} (ha : PTv E X Wx C a ca) : PWv E X Wx C (.BoolOp .Or [a] pos) ca := L2.pw_or1 ha
theorem te_ite {t a b : Expr} {ct ca cb : Ev.CE} {pos : Pos} (ht : PTv E X Wx C t ct) (ha : PEv E X Wx C a ca) (hb : PEv E X Wx C b cb) : PEv E X Wx C (.IfExp t a b pos) (.ite ct ca cb) := pe_weak (L2.pe_ifExp ht ha hb) fun σ' H Q t => by
  refine (TR.tst (m := Ev.evE E.P C ct) (f := fun σ t h => match t with
    | true => Ev.evE E.P C ca σ h
    | false => Ev.evE E.P C cb σ h) t).imp fun x H1 ⟨c, e, t⟩ => ⟨c, e, ?_⟩
  cases c with
  | false => exact t
  | true => exact t
theorem te_isN {a : Expr} {ca : Ev.CE} {j pos pos'} (ha : PEv E X Wx C a ca) : PEv E X Wx C (.Compare a [.Is] [.Constant .none j pos'] pos) (.isN false ca) := pe_weak (L2.pe_cmp (L2.pc_isN ha)) fun σ' H Q t => by
  refine (TR.one (ma := Ev.evE E.P C ca) (f := fun x h => match x with
    | .p .non => .ok (.p (.bl (!false))) h
    | _ => .ok (.p (.bl false)) h) t).imp fun x H1 ⟨W, h, v, e, rh, rv, g⟩ => ?_
  have key : ∀ b, Go E W h (.ok (.p (.bl b)) h) (KV E Q) (KX E Wx σ') → Q (.bl b) H1 := fun b g => by
    have := Go.ok rh g (.bl b) rfl
    rw [e] at this
    exact this
  have ne : ∀ a : Addr, decide (V.ref a = V.non) = false := fun a => decide_eq_false (by intro z; cases z)
  cases v with
  | r i => obtain ⟨_, rfl⟩ := rv; rw [ne]; exact key _ g
  | p p =>
    cases p with
    | non => cases rv; exact key _ g
    | bl b => cases rv; exact key _ g
    | int b => cases rv; exact key _ g
    | str b => cases rv; exact key _ g
    | tup b => obtain ⟨_, _, rfl, _⟩ := rv; rw [ne]; exact key _ g
    | lst b => obtain ⟨_, _, rfl, _⟩ := rv; rw [ne]; exact key _ g
    | dic b => obtain ⟨_, _, _, rfl, _⟩ := rv; rw [ne]; exact key _ g
    | set b => exact (show False from rv).elim
    | ins c b => obtain ⟨_, _, _, rfl, _⟩ := rv; rw [ne]; exact key _ g
    | fn b => cases rv; rw [ne]; exact key _ g
    | cl b => cases rv; rw [ne]; exact key _ g
    | ty b => cases rv; rw [decide_eq_false (by intro z; cases z)]; exact key _ g
    | lam b c => obtain ⟨_, _, rfl, _⟩ := rv; rw [ne]; exact key _ g
theorem te_notN {a : Expr} {ca : Ev.CE} {j pos pos'} (ha : PEv E X Wx C a ca) : PEv E X Wx C (.Compare a [.IsNot] [.Constant .none j pos'] pos) (.isN true ca) := pe_weak (L2.pe_cmp (L2.pc_notN ha)) fun σ' H Q t => by
  refine (TR.one (ma := Ev.evE E.P C ca) (f := fun x h => match x with
    | .p .non => .ok (.p (.bl (!true))) h
    | _ => .ok (.p (.bl true)) h) t).imp fun x H1 ⟨W, h, v, e, rh, rv, g⟩ => ?_
  have key : ∀ b, Go E W h (.ok (.p (.bl b)) h) (KV E Q) (KX E Wx σ') → Q (.bl b) H1 := fun b g => by
    have := Go.ok rh g (.bl b) rfl
    rw [e] at this
    exact this
  have ne : ∀ a : Addr, decide (V.ref a = V.non) = false := fun a => decide_eq_false (by intro z; cases z)
  cases v with
  | r i => obtain ⟨_, rfl⟩ := rv; rw [ne]; exact key _ g
  | p p =>
    cases p with
    | non => cases rv; exact key _ g
    | bl b => cases rv; exact key _ g
    | int b => cases rv; exact key _ g
    | str b => cases rv; exact key _ g
    | tup b => obtain ⟨_, _, rfl, _⟩ := rv; rw [ne]; exact key _ g
    | lst b => obtain ⟨_, _, rfl, _⟩ := rv; rw [ne]; exact key _ g
    | dic b => obtain ⟨_, _, _, rfl, _⟩ := rv; rw [ne]; exact key _ g
    | set b => exact (show False from rv).elim
    | ins c b => obtain ⟨_, _, _, rfl, _⟩ := rv; rw [ne]; exact key _ g
    | fn b => cases rv; rw [ne]; exact key _ g
    | cl b => cases rv; rw [ne]; exact key _ g
    | ty b => cases rv; rw [decide_eq_false (by intro z; cases z)]; exact key _ g
    | lam b c => obtain ⟨_, _, rfl, _⟩ := rv; rw [ne]; exact key _ g

/-! ### two-place operations -/
theorem te_bin {op : Operator} {o : Ev.BOp} {a b : Expr} {ca cb : Ev.CE} {pos : Pos} (ho : ∀ σ', OpR X (binaryOp op) (R2 E Wx σ' (Ev.binV E.P C o))) (ha : PEv E X Wx C a ca) (hb : PEv E X Wx C b cb) : PEv E X Wx C (.BinOp a op b pos) (.bin o ca cb) :=
  ⟨fun pins s σ H Q I h => (L2.pe_op (ho σ) ha hb).run pins s σ H Q I (TR.two (ma := Ev.evE E.P C ca) (mb := Ev.evE E.P C cb) h)⟩
theorem te_cmp {op : CmpOp} {o : Ev.COp} {a b : Expr} {ca cb : Ev.CE} {pos : Pos} (ho : ∀ σ', OpR X (compareOp op) (R2 E Wx σ' (Ev.cmpV E.P C o))) (ha : PEv E X Wx C a ca) (hb : PEv E X Wx C b cb) (hm : behindInMarks op b = false) : PEv E X Wx C (.Compare a [op] [b] pos) (.cmp o ca cb) :=
  ⟨fun pins s σ H Q I h => (L2.pe_cmpR (ho σ) ha hb hm).run pins s σ H Q I (TR.two (ma := Ev.evE E.P C ca) (mb := Ev.evE E.P C cb) h)⟩
theorem tt_cmp {op : CmpOp} {o : Ev.COp} {a b : Expr} {ca cb : Ev.CE} {pos : Pos} (ho : ∀ σ', OpR X (compareOp op) (R2 E Wx σ' (Ev.cmpV E.P C o))) (ha : PEv E X Wx C a ca) (hb : PEv E X Wx C b cb) (hm : behindInMarks op b = false) : PTv E X Wx C (.Compare a [op] [b] pos) (.cmp o ca cb) :=
  ⟨fun pins s σ H Q I h => (L2.pt_cmpR (ho σ) ha hb hm).run pins s σ H Q I (TR.two (ma := Ev.evE E.P C ca) (mb := Ev.evE E.P C cb) h)⟩
end
end Sb
set_option Elab.async false
set_option linter.all false
set_option autoImplicit false
set_option maxRecDepth 100000
set_option maxHeartbeats 2000000
/-! # Se: data: ==, in -/
namespace Sb
open PySem PySem.Spec
open PyProof.Rows hiding St
open L2 (V Hp HO upd upd_same upd_ne VK TE TT TA TS Ends WX XK PE PT PA PS PSs Inv OpR Dp DpAll)
open Ev (PV Val MO Hh Sg Exc Res SR)

mutual
def toD : PV → PyData
  | .non => .none
  | .bl b => .bool b
  | .int i => .int i
  | .str s => .str (St' s)
  | .tup xs => .tuple (toDs xs)
  | .lst xs => .list (toDs xs)
  | _ => .none
def toDs : List PV → List PyData
  | [] => []
  | x :: xs => toD x :: toDs xs
end
theorem okS_ok {s : List Nat} (h : Ev.okS s = true) : PyData.strOk (St' s) = true := by
  show (s.toArray).all (fun c => decide (c < 0x110000)) = true
  rw [Array.all_eq_true']
  intro x hx
  have := List.all_eq_true.mp h x (by simpa using hx)
  simpa using this
mutual
theorem shp_lay : ∀ (p : PV) (n : Nat), Ev.shp p n = true → (toD p).canLay0 = true ∧ (toD p).depth ≤ n
  | .non, n, _ => ⟨rfl, Nat.zero_le _⟩
  | .bl _, n, _ => ⟨rfl, Nat.zero_le _⟩
  | .int _, n, _ => ⟨rfl, Nat.zero_le _⟩
  | .str s, n, h => ⟨okS_ok h, Nat.zero_le _⟩
  | .tup xs, 0, h => nomatch h
  | .lst xs, 0, h => nomatch h
  | .tup xs, n + 1, h => by
    obtain ⟨h1, h2⟩ := shps_lay xs n h
    exact ⟨h1, Nat.succ_le_succ h2⟩
  | .lst xs, n + 1, h => by
    obtain ⟨h1, h2⟩ := shps_lay xs n h
    exact ⟨h1, Nat.succ_le_succ h2⟩
  | .dic _, n, h => nomatch h
  | .set _, n, h => nomatch h
  | .ins _ _, n, h => nomatch h
  | .fn _, n, h => nomatch h
  | .cl _, n, h => nomatch h
  | .ty _, n, h => nomatch h
  | .lam _ _, n, h => nomatch h
theorem shps_lay : ∀ (p : List PV) (n : Nat), Ev.shps p n = true → PyData.canLayAll0 (toDs p) = true ∧ PyData.depthAll (toDs p) ≤ n
  | [], n, _ => ⟨rfl, Nat.zero_le _⟩
  | x :: xs, n, h => by
    obtain ⟨h1, h2⟩ := Bool.and_eq_true_iff.mp h
    obtain ⟨a1, a2⟩ := shp_lay x n h1
    obtain ⟨b1, b2⟩ := shps_lay xs n h2
    exact ⟨by show (PyData.canLay0 _ && PyData.canLayAll0 _) = true; rw [a1, b1]; rfl, Nat.max_le.mpr ⟨a2, b2⟩⟩
end
theorem shp_shaped {p : PV} (h : Ev.shp p 60 = true) : SeqAt.shaped (toD p) = true := by
  obtain ⟨h1, h2⟩ := shp_lay p 60 h
  show ((toD p).canLay0 && decide ((toD p).depth ≤ 64)) = true
  rw [h1, decide_eq_true (Nat.le_trans h2 (by decide))]
  rfl
theorem shps_shaped {p : List PV} (h : Ev.shps p 59 = true) : SeqAt.shaped (.list (toDs p)) = true := by
  obtain ⟨h1, h2⟩ := shps_lay p 59 h
  show (PyData.canLayAll0 (toDs p) && decide (PyData.depthAll (toDs p) + 1 ≤ 64)) = true
  rw [h1, decide_eq_true (Nat.le_trans (Nat.succ_le_succ h2) (by decide))]
  rfl
theorem st_beq (s t : List Nat) : (St' s == St' t) = (s == t) := by
  rw [Bool.eq_iff_iff, beq_iff_eq, beq_iff_eq]
  exact ⟨fun h => by injection h with h; simpa using congrArg Array.toList h, fun h => by rw [h]⟩
mutual
theorem eqP_eqv : ∀ (a b : PV) (c : Bool) (n m : Nat), Ev.shp a n = true → Ev.shp b m = true → Ev.eqP a b = some c → PyData.eqv (toD a) (toD b) = c
  | .non, b, c, n, m, h1, h2, e => by
    cases b <;> first | (cases e; rfl) | (nomatch h2) | (cases e)
  | .bl x, b, c, n, m, h1, h2, e => by
    cases b <;> first | (cases e; rfl) | (nomatch h2) | (cases e)
  | .int x, b, c, n, m, h1, h2, e => by
    cases b <;> first | (cases e; rfl) | (nomatch h2) | (cases e)
  | .str x, b, c, n, m, h1, h2, e => by
    cases b with
    | str y => cases e; exact st_beq x y
    | _ => first | (cases e; rfl) | (nomatch h2) | (cases e)
  | .tup x, b, c, n, m, h1, h2, e => by
    cases b with
    | tup y =>
      cases n with
      | zero => nomatch h1
      | succ n =>
        cases m with
        | zero => nomatch h2
        | succ m => exact eqPs_eqv x y c n m h1 h2 e
    | _ => first | (cases e; rfl) | (nomatch h2) | (cases e)
  | .lst x, b, c, n, m, h1, h2, e => by
    cases b with
    | lst y =>
      cases n with
      | zero => nomatch h1
      | succ n =>
        cases m with
        | zero => nomatch h2
        | succ m => exact eqPs_eqv x y c n m h1 h2 e
    | _ => first | (cases e; rfl) | (nomatch h2) | (cases e)
  | .dic _, _, _, _, _, h, _, _ => nomatch h
  | .set _, _, _, _, _, h, _, _ => nomatch h
  | .ins _ _, _, _, _, _, h, _, _ => nomatch h
  | .fn _, _, _, _, _, h, _, _ => nomatch h
  | .cl _, _, _, _, _, h, _, _ => nomatch h
  | .ty _, _, _, _, _, h, _, _ => nomatch h
  | .lam _ _, _, _, _, _, h, _, _ => nomatch h
theorem eqPs_eqv : ∀ (a b : List PV) (c : Bool) (n m : Nat), Ev.shps a n = true → Ev.shps b m = true → Ev.eqPs a b = some c → PyData.eqvAll (toDs a) (toDs b) = c
  | [], [], c, n, m, h1, h2, e => by cases e; rfl
  | [], _ :: _, c, n, m, h1, h2, e => by cases e; rfl
  | _ :: _, [], c, n, m, h1, h2, e => by cases e; rfl
  | x :: xs, y :: ys, c, n, m, h1, h2, e => by
    obtain ⟨a1, a2⟩ := Bool.and_eq_true_iff.mp h1
    obtain ⟨b1, b2⟩ := Bool.and_eq_true_iff.mp h2
    show (PyData.eqv (toD x) (toD y) && PyData.eqvAll (toDs xs) (toDs ys)) = c
    unfold Ev.eqPs at e
    cases q : Ev.eqP x y with
    | none => rw [q] at e; cases e
    | some d =>
      rw [q] at e
      rw [eqP_eqv x y d n m a1 b1 q]
      cases d with
      | true => rw [eqPs_eqv xs ys c n m a2 b2 e]; rfl
      | false => cases e; rfl
end
section
variable {E : En} {X : L2.Cx} {Wx : WX} {C : Ev.Call} {W : Wd} {K : PySem.W.Frag}
mutual
theorem dp_rel : ∀ (p : PV) (n : Nat) (x : V), Ev.shp p n = true → RelP E W p x → Dp K W.H x (toD p)
  | .non, n, x, h, r => by cases r; exact .non
  | .bl b, n, x, h, r => by cases r; exact .bl b
  | .int b, n, x, h, r => by cases r; exact .int b
  | .str b, n, x, h, r => by cases r; exact .str _
  | .tup xs, 0, x, h, r => nomatch h
  | .lst xs, 0, x, h, r => nomatch h
  | .tup xs, n + 1, x, h, r => by
    obtain ⟨a, ys, rfl, _, e, rs⟩ := r
    exact .tup (L2.SqT.of e) (dps_rel xs n ys h rs)
  | .lst xs, n + 1, x, h, r => by
    obtain ⟨a, ys, rfl, _, e, rs⟩ := r
    exact .lst (L2.SqL.of e) (dps_rel xs n ys h rs)
  | .dic _, _, _, h, _ => nomatch h
  | .set _, _, _, h, _ => nomatch h
  | .ins _ _, _, _, h, _ => nomatch h
  | .fn _, _, _, h, _ => nomatch h
  | .cl _, _, _, h, _ => nomatch h
  | .ty _, _, _, h, _ => nomatch h
  | .lam _ _, _, _, h, _ => nomatch h
theorem dps_rel : ∀ (p : List PV) (n : Nat) (x : List V), Ev.shps p n = true → RelPs E W p x → DpAll K W.H x (toDs p)
  | [], n, x, h, r => by cases r; exact .nil
  | p :: ps, n, x, h, r => by
    obtain ⟨y, t, rfl, r1, r2⟩ := r
    obtain ⟨h1, h2⟩ := Bool.and_eq_true_iff.mp h
    exact .cons (dp_rel p n y h1 r1) (dps_rel ps n t h2 r2)
end
/-- data as it stands now -/
theorem dp_vwN {h : Hh} (rh : RelH E W h) : ∀ (k : Nat) (v : Val) (p : PV) (x : V) (n : Nat), Ev.vwN h k v = some p → Ev.shp p n = true → RelVal E W h.length v x → Dp K W.H x (toD p)
  | k, .p v, p, x, n, e, hs, r => by
    have e : some v = some p := by cases k <;> exact e
    cases e
    exact dp_rel _ n x hs r
  | 0, .r i, p, x, n, e, hs, r => by cases e
  | k + 1, .r i, p, x, n, e, hs, r => by
    obtain ⟨_, rfl⟩ := r
    unfold Ev.vwN at e
    cases q : Ev.getO h i with
    | none => simp only [q] at e; cases e
    | some o =>
      simp only [q] at e
      cases o with
      | lst xs =>
        cases z : Ev.vwL (Ev.vwN h k) xs with
        | none => simp only [z] at e; cases e
        | some vs =>
          simp only [z] at e
          cases e
          obtain ⟨ys, h1, h2⟩ := rh.lst q
          cases n with
          | zero => nomatch hs
          | succ n =>
            refine .lst (L2.SqL.of h1) ?_
            have go : ∀ (xs : List Val) (vs : List PV) (ys : List V), Ev.vwL (Ev.vwN h k) xs = some vs → Ev.shps vs n = true → RelVals E W h.length xs ys → DpAll K W.H ys (toDs vs) := by
              intro xs
              induction xs with
              | nil => intro vs ys e _ r; cases e; cases r; exact .nil
              | cons x xs ih =>
                intro vs ys e hs r
                obtain ⟨y, t, rfl, r1, r2⟩ := r
                unfold Ev.vwL at e
                cases q1 : Ev.vwN h k x with
                | none => rw [q1] at e; cases e
                | some p =>
                  rw [q1] at e
                  cases q2 : Ev.vwL (Ev.vwN h k) xs with
                  | none => rw [q2] at e; cases e
                  | some ps =>
                    rw [q2] at e
                    cases e
                    obtain ⟨s1, s2⟩ := Bool.and_eq_true_iff.mp hs
                    exact .cons (dp_vwN rh k x _ y n q1 s1 r1) (ih ps t q2 s2 r2)
            exact go xs vs ys z hs h2
      | dic kvs =>
        cases z : Ev.vwK (Ev.vwN h k) kvs with
        | none => simp only [z] at e; cases e
        | some vs => simp only [z] at e; cases e; nomatch hs
      | ins c fs => cases e
      | clo l env => cases e
      | lck u => cases e
end
/-- no own dunder -/
def NoDun (P : Ev.Prog) (sel : Ev.Cls → Option Nat) : Prop := ∀ (c : Nat) (K : Ev.Cls), P.clss[c]? = some K → sel K = none
theorem dun_none {P : Ev.Prog} {sel : Ev.Cls → Option Nat} (n : NoDun P sel) {h : Hh} {v : Val} : Ev.dun P sel h v = none ∨ Ev.dun P sel h v = some none := by
  unfold Ev.dun
  cases Ev.clsOf h v with
  | none => exact .inl rfl
  | some c =>
    refine .inr ?_
    show (match P.clss[c]? with
      | some K => some (sel K)
      | none => some none) = some none
    cases q : P.clss[c]? with
    | none => rfl
    | some K => show some (sel K) = some none; rw [n c K q]
section
variable {E : En} {X : L2.Cx} {Wx : WX} {C : Ev.Call} {σ' : L2.St}
/-- == of two values as they stand -/
theorem eqS_rel {W : Wd} {h : Hh} {K : PySem.W.Frag} (rh : RelH E W h) {a b : Val} {x y : V} {p q : PV} {c : Bool} (ra : RelVal E W h.length a x) (rb : RelVal E W h.length b y) (ea : Ev.vwD h a = some p) (eb : Ev.vwD h b = some q) (e : Ev.eqS p q = some c) :
    (L2.scal x y = true ∧ c = decide (x = y)) ∨ ∃ d e, Dp K W.H x d ∧ Dp K W.H y e ∧ SeqAt.shaped d = true ∧ SeqAt.shaped e = true ∧ c = PyData.eqv d e := by
  have flat : ∀ {v : Val} {z : V} {p : PV}, RelVal E W h.length v z → Ev.vwD h v = some p → (∀ xs, p ≠ .lst xs) → (∀ xs, p ≠ .dic xs) → RelP E W p z := fun {v z p} r e n1 n2 => by
    cases v with
    | p v => cases e; exact r
    | r i =>
      have e : Ev.vwN h 3 (.r i) = some p := e
      unfold Ev.vwN at e
      cases q : Ev.getO h i with
      | none => simp only [q] at e; cases e
      | some o =>
        simp only [q] at e
        cases o with
        | lst xs =>
          cases z : Ev.vwL (Ev.vwN h 2) xs with
          | none => simp only [z] at e; cases e
          | some vs => simp only [z] at e; cases e; exact absurd rfl (n1 _)
        | dic xs =>
          cases z : Ev.vwK (Ev.vwN h 2) xs with
          | none => simp only [z] at e; cases e
          | some vs => simp only [z] at e; cases e; exact absurd rfl (n2 _)
        | _ => cases e
  have deep : Ev.eqS p q = (match Ev.shp p 60 && Ev.shp q 60 with
      | true => Ev.eqP p q
      | false => none) → ∃ d e, Dp K W.H x d ∧ Dp K W.H y e ∧ SeqAt.shaped d = true ∧ SeqAt.shaped e = true ∧ c = PyData.eqv d e := fun e' => by
    rw [e'] at e
    cases s : Ev.shp p 60 && Ev.shp q 60 with
    | false => rw [s] at e; cases e
    | true =>
      rw [s] at e
      obtain ⟨s1, s2⟩ := Bool.and_eq_true_iff.mp s
      exact ⟨toD p, toD q, dp_vwN rh 3 a p x 60 ea s1 ra, dp_vwN rh 3 b q y 60 eb s2 rb, shp_shaped s1, shp_shaped s2, (eqP_eqv p q c 60 60 s1 s2 e).symm⟩
  cases p with
  | str s =>
    cases q with
    | str t =>
      refine .inl ?_
      have h1 : x = .str (St' s) := flat ra ea (fun _ z => nomatch z) (fun _ z => nomatch z)
      have h2 : y = .str (St' t) := flat rb eb (fun _ z => nomatch z) (fun _ z => nomatch z)
      subst h1 h2
      cases e
      exact ⟨rfl, by rw [L2.dec_str, st_beq]⟩
    | _ => exact .inr (deep rfl)
  | int s =>
    cases q with
    | int t =>
      refine .inl ?_
      have h1 : x = .int s := flat ra ea (fun _ z => nomatch z) (fun _ z => nomatch z)
      have h2 : y = .int t := flat rb eb (fun _ z => nomatch z) (fun _ z => nomatch z)
      subst h1 h2
      cases e
      exact ⟨rfl, by rw [L2.dec_int]⟩
    | _ => exact .inr (deep rfl)
  | bl s =>
    cases q with
    | bl t =>
      refine .inl ?_
      have h1 : x = .bl s := flat ra ea (fun _ z => nomatch z) (fun _ z => nomatch z)
      have h2 : y = .bl t := flat rb eb (fun _ z => nomatch z) (fun _ z => nomatch z)
      subst h1 h2
      cases e
      exact ⟨rfl, by rw [L2.dec_bl]⟩
    | _ => exact .inr (deep rfl)
  | _ => exact .inr (deep rfl)
theorem Go.ofB {W : Wd} {h : Hh} {o : Option Bool} {w : Nat} {Q : VK} {KX : Exc → Wd → Prop} (rh : RelH E W h) (g : Go E W h (Ev.ofB w o h) (KV E Q) KX) : ∃ b, o = some b ∧ Q (.bl b) W.H := by
  cases o with
  | none => exact g.elim
  | some b => exact ⟨b, rfl, Go.ok (α := Val) rh g (.bl b) rfl⟩
theorem Go.ofO {W : Wd} {h : Hh} {o : Option PV} {w : Nat} {Q : VK} {KX : Exc → Wd → Prop} (rh : RelH E W h) (g : Go E W h (Ev.ofO w o h) (KV E Q) KX) : ∃ b, o = some b ∧ ∀ W', Af E W h W' h → ∀ x, RelP E W' b x → Q x W'.H := by
  cases o with
  | none => exact g.elim
  | some b => exact ⟨b, rfl, fun W' a x r => g W' a x r⟩
theorem opEq (hu : X.A.units + 64 < cLine) (ne : NoDun E.P (·.eq)) : OpR X (compareOp .Eq) (R2 E Wx σ' (Ev.cmpV E.P C .eq)) := by
  intro pins s σ H x y v u Q I rx ry ⟨W, h, a, b, eH, rh, ra, rb, g⟩
  subst eH
  have g : Go E W h (match Ev.dun E.P (·.eq) h a with
    | some (some d) => C d [a, b] h
    | some none => .bad 14
    | none => match Ev.vwD h a, Ev.vwD h b with
      | some x, some y => Ev.ofB 15 (Ev.opC .eq x y) h
      | _, _ => .bad 15) (KV E Q) (KX E Wx σ') := g
  rcases dun_none (P := E.P) (sel := (·.eq)) ne (h := h) (v := a) with q | q
  · rw [q] at g
    cases ea : Ev.vwD h a with
    | none => rw [ea] at g; exact g.elim
    | some p =>
      cases eb : Ev.vwD h b with
      | none => rw [ea, eb] at g; exact g.elim
      | some q =>
        rw [ea, eb] at g
        obtain ⟨c, ec, q⟩ := Go.ofB rh g
        rcases eqS_rel (K := X.K) rh ra rb ea eb ec with ⟨h1, rfl⟩ | ⟨d, e, h1, h2, h3, h4, rfl⟩
        · exact L2.op_eq pins s σ W.H x y v u Q I rx ry ⟨h1, q⟩
        · exact L2.op_eqD hu pins s σ W.H x y v u Q I rx ry ⟨d, e, h1, h2, h3, h4, q⟩
  · rw [q] at g
    exact g.elim
theorem opNe (hu : X.A.units + 64 < cLine) (ne : NoDun E.P (·.eq)) : OpR X (compareOp .NotEq) (R2 E Wx σ' (Ev.cmpV E.P C .ne)) := by
  intro pins s σ H x y v u Q I rx ry ⟨W, h, a, b, eH, rh, ra, rb, g⟩
  subst eH
  have g : Go E W h (match Ev.dun E.P (·.eq) h a with
    | some (some d) => Ev.truthNot (C d [a, b] h)
    | some none => .bad 14
    | none => match Ev.vwD h a, Ev.vwD h b with
      | some x, some y => Ev.ofB 15 (Ev.opC .ne x y) h
      | _, _ => .bad 15) (KV E Q) (KX E Wx σ') := g
  rcases dun_none (P := E.P) (sel := (·.eq)) ne (h := h) (v := a) with q | q
  · rw [q] at g
    cases ea : Ev.vwD h a with
    | none => rw [ea] at g; exact g.elim
    | some p =>
      cases eb : Ev.vwD h b with
      | none => rw [ea, eb] at g; exact g.elim
      | some q =>
        rw [ea, eb] at g
        obtain ⟨c, ec, q'⟩ := Go.ofB rh g
        obtain ⟨c0, ec0, rfl⟩ := Option.map_eq_some_iff.mp (show (Ev.eqS p q).map (!·) = some c from ec)
        rcases eqS_rel (K := X.K) rh ra rb ea eb ec0 with ⟨h1, rfl⟩ | ⟨d, e, h1, h2, h3, h4, rfl⟩
        · exact L2.op_ne pins s σ W.H x y v u Q I rx ry ⟨h1, q'⟩
        · exact L2.op_neD hu pins s σ W.H x y v u Q I rx ry ⟨d, e, h1, h2, h3, h4, q'⟩
  · rw [q] at g
    exact g.elim
end
end Sb
set_option Elab.async false
set_option linter.all false
set_option autoImplicit false
set_option maxRecDepth 100000
set_option maxHeartbeats 2000000
/-! # Sf: arithmetic, order -/
namespace Sb
open PySem PySem.Spec
open PyProof.Rows hiding St
open L2 (V Hp HO upd upd_same upd_ne VK TE TT TA TS Ends WX XK PE PT PA PS PSs Inv OpR SqL SqT)
open Ev (PV Val MO Hh Sg Exc Res SR)

def NoOps (P : Ev.Prog) : Prop := ∀ (c : Nat) (K : Ev.Cls), P.clss[c]? = some K → K.ops = []
theorem sizeLine_max : Ev.sizeMax = sizeLine := by rw [sizeLine_eq]; rfl
theorem fits_ok {n : Nat} (h : Ev.fits n = true) : n ≤ sizeLine := by rw [← sizeLine_max]; exact Nat.le_of_ble_eq_true h
theorem okLen_ok {α : Type} {xs : List α} (h : Ev.okLen xs = true) : xs.length ≤ sizeLine := by rw [← sizeLine_max]; exact Nat.le_of_ble_eq_true h
theorem st_len (s : List Nat) : (St' s).length = s.length := by simp [Str.length]
theorem st_cat (s t : List Nat) : St' s ++ St' t = St' (s ++ t) := by
  show (⟨s.toArray ++ t.toArray⟩ : Str) = ⟨(s ++ t).toArray⟩
  simp
theorem st_tl (s : List Nat) : (St' s).cps.toList = s := by simp
section
variable {E : En} {W W' : Wd}
theorem RelPs.length : ∀ {xs : List PV} {ys : List V}, RelPs E W xs ys → ys.length = xs.length
  | [], _, r => by cases r; rfl
  | _ :: _, _, ⟨y, t, e, _, r⟩ => by subst e; simp [RelPs.length r]
theorem RelPs.append : ∀ {xs xs' : List PV} {ys ys' : List V}, RelPs E W xs ys → RelPs E W xs' ys' → RelPs E W (xs ++ xs') (ys ++ ys')
  | [], _, _, _, r, r' => by cases r; exact r'
  | _ :: _, _, _, _, ⟨y, t, e, h, r⟩, r' => by subst e; exact ⟨y, _, rfl, h, RelPs.append r r'⟩
theorem RelPs.get : ∀ {xs : List PV} {ys : List V} {n : Nat} {p : PV}, RelPs E W xs ys → xs[n]? = some p → ∃ y, ys[n]? = some y ∧ RelP E W p y
  | [], _, n, p, r, e => by simp at e
  | x :: xs, _, 0, p, ⟨y, t, e', h, r⟩, e => by subst e'; simp at e; subst e; exact ⟨y, rfl, h⟩
  | x :: xs, _, n + 1, p, ⟨y, t, e', h, r⟩, e => by subst e'; exact RelPs.get (xs := xs) (n := n) r (by simpa using e)
theorem RelPs.take : ∀ {xs : List PV} {ys : List V} (n : Nat), RelPs E W xs ys → RelPs E W (xs.take n) (ys.take n)
  | _, _, 0, r => by simp; rfl
  | [], _, n + 1, r => by cases r; rfl
  | x :: xs, _, n + 1, ⟨y, t, e', h, r⟩ => by subst e'; exact ⟨y, _, rfl, h, RelPs.take n r⟩
theorem RelPs.drop : ∀ {xs : List PV} {ys : List V} (n : Nat), RelPs E W xs ys → RelPs E W (xs.drop n) (ys.drop n)
  | _, _, 0, r => r
  | [], _, n + 1, r => by cases r; rfl
  | x :: xs, _, n + 1, ⟨y, t, e', h, r⟩ => by subst e'; exact RelPs.drop (xs := xs) n r
theorem RelPs.rep {xs : List PV} {ys : List V} (r : RelPs E W xs ys) : ∀ n : Nat, RelPs E W (Ev.repL xs n) (List.replicate n ys).flatten
  | 0 => rfl
  | n + 1 => r.append (RelPs.rep r n)
theorem RelVals.length {n : Nat} : ∀ {xs : List Val} {ys : List V}, RelVals E W n xs ys → ys.length = xs.length
  | [], _, r => by cases r; rfl
  | _ :: _, _, ⟨y, t, e, _, r⟩ => by subst e; simp [RelVals.length r]
end
theorem repL_len (n : Nat) : ∀ k : Nat, ∀ s : List Nat, Ev.repL s k = (List.replicate k s).flatten
  | 0, _ => rfl
  | k + 1, s => by show s ++ Ev.repL s k = _; rw [repL_len n k, List.replicate_succ, List.flatten_cons]
theorem foldl_cat (l : List (Array Nat)) : ∀ a : Array Nat, (l.foldl (· ++ ·) a).toList = a.toList ++ (l.map Array.toList).flatten := by
  induction l with
  | nil => intro a; simp
  | cons x l ih => intro a; simp [ih, List.append_assoc]
theorem mul_St (s : List Nat) (j : Nat) : Txt.mul (St' s) (j : Int) = St' (Ev.repL s j) := by
  have inj : ∀ x : Str, x.cps.toList = Ev.repL s j → x = St' (Ev.repL s j) := fun x e => by
    cases x with
    | mk cps =>
      show (⟨cps⟩ : Str) = ⟨(Ev.repL s j).toArray⟩
      rw [← e]
  refine inj _ ?_
  unfold Txt.mul
  rw [repL_len 0]
  by_cases h1 : (j : Int) < 1
  · rw [if_pos h1]
    have : j = 0 := by omega
    subst this
    rfl
  · rw [if_neg h1]
    by_cases h2 : ((j : Int) == 1 || (St' s).length == 0) = true
    · rw [if_pos h2]
      rcases Bool.or_eq_true_iff.mp h2 with z | z
      · have : j = 1 := by
          have := beq_iff_eq.mp z
          omega
        subst this
        simp
      · have z := beq_iff_eq.mp z
        rw [st_len] at z
        have : s = [] := List.length_eq_zero_iff.mp z
        subst this
        simp
    · rw [if_neg h2]
      show ((List.replicate (j : Int).toNat (St' s).cps).foldl (· ++ ·) #[]).toList = _
      rw [foldl_cat]
      simp
section
variable {E : En} {X : L2.Cx} {Wx : WX} {C : Ev.Call} {σ' : L2.St}
/-- two values, viewed -/
theorem bin_view {o : Ev.BOp} {W : Wd} {h : Hh} {a b : Val} {x y : V} {Q : VK} {KX : Exc → Wd → Prop} (no : NoOps E.P) (rh : RelH E W h) (ra : RelVal E W h.length a x) (rb : RelVal E W h.length b y) (g : Go E W h (Ev.binV E.P C o a b h) (KV E Q) KX) :
    ∃ p q, RelC E W p x ∧ RelC E W q y ∧ ∃ r, Ev.opB o p q = some r ∧ ∀ W', Af E W h W' h → ∀ z, RelP E W' r z → Q z W'.H := by
  have g : Go E W h (match Ev.clsOf h a with
    | some c => match E.P.clss[c]? with
      | some K => match Ev.lookOp o K.ops with
        | some d => C d [a, b] h
        | none => .bad 16
      | none => .bad 16
    | none => match Ev.vw h a, Ev.vw h b with
      | some x, some y => Ev.ofO 16 (Ev.opB o x y) h
      | _, _ => .bad 16) (KV E Q) KX := g
  cases q : Ev.clsOf h a with
  | some c =>
    rw [q] at g
    cases q2 : E.P.clss[c]? with
    | none => simp only [q2] at g; exact g.elim
    | some K => simp only [q2, no c K q2] at g; exact g.elim
  | none =>
    rw [q] at g
    cases ea : Ev.vw h a with
    | none => rw [ea] at g; exact g.elim
    | some p =>
      cases eb : Ev.vw h b with
      | none => rw [ea, eb] at g; exact g.elim
      | some q =>
        rw [ea, eb] at g
        obtain ⟨r, e, k⟩ := Go.ofO rh g
        exact ⟨p, q, vw_rel rh ea ra, vw_rel rh eb rb, r, e, k⟩
theorem opAdd (no : NoOps E.P) : OpR X (binaryOp .Add) (R2 E Wx σ' (Ev.binV E.P C .add)) := by
  intro pins s σ H x y v u Q I rx ry ⟨W, h, a, b, eH, rh, ra, rb, g⟩
  subst eH
  obtain ⟨p, q, rp, rq, r, e, k⟩ := bin_view no rh ra rb g
  have nw : ∀ {z : V} {r}, RelP E W r z → (∀ W', Af E W h W' h → ∀ z, RelP E W' r z → Q z W'.H) → Q z W.H := fun rz k => k W (Af.refl rh) _ rz
  cases p with
  | int i =>
    cases q with
    | int j =>
      cases rp; cases rq; cases e
      exact L2.op_add pins s σ W.H _ _ v u Q I rx ry ⟨i, j, rfl, rfl, nw (r := PV.int (i + j)) rfl k⟩
    | _ => cases e
  | str i =>
    cases q with
    | str j =>
      cases rp; cases rq
      have e : (if Ev.fits (i.length + j.length) = true then some (PV.str (i ++ j)) else none) = some r := e
      split at e
      · rename_i hf
        cases e
        refine L2.op_add_str pins s σ W.H _ _ v u Q I rx ry ⟨St' i, St' j, rfl, rfl, ?_, ?_⟩
        · rw [st_len, st_len]; exact fits_ok hf
        · rw [st_cat]; exact nw (r := PV.str (i ++ j)) rfl k
      · cases e
    | _ => cases e
  | lst i =>
    cases q with
    | lst j =>
      have e : (if Ev.fits (i.length + j.length) = true then some (PV.lst (i ++ j)) else none) = some r := e
      split at e
      · rename_i hf
        cases e
        obtain ⟨a1, y1, rfl, h1, r1⟩ := rp
        obtain ⟨a2, y2, rfl, h2, r2⟩ := rq
        refine L2.op_cat pins s σ W.H _ _ v u Q I rx ry ⟨a1, a2, y1, y2, rfl, rfl, h1, h2, ?_, fun t ht => ?_⟩
        · rw [r1.length, r2.length]; exact fits_ok hf
        · exact k _ (af_new rh ht) _ (new_lst rh ht (r1.append r2))
      · cases e
    | _ => cases e
  | tup i =>
    cases q with
    | tup j =>
      have e : (if Ev.fits (i.length + j.length) = true then some (PV.tup (i ++ j)) else none) = some r := e
      split at e
      · rename_i hf
        cases e
        obtain ⟨a1, y1, rfl, f1, h1, r1⟩ := rp
        obtain ⟨a2, y2, rfl, f2, h2, r2⟩ := rq
        refine L2.op_catA pins s σ W.H _ _ v u Q I rx ry ⟨a1, a2, y1, y2, rfl, rfl, L2.SqT.of h1, L2.SqT.of h2, ?_, fun z => ?_, fun z z2 => ?_, fun _ _ t ht => ?_⟩
        · rw [r1.length, r2.length]; exact fits_ok hf
        · subst z
          have : i = [] := by cases i with
            | nil => rfl
            | cons _ _ => have := r1.length; simp at this
          subst this
          exact nw (r := PV.tup ([] ++ j)) ⟨a2, y2, rfl, f2, h2, r2⟩ k
        · subst z2
          have : j = [] := by cases j with
            | nil => rfl
            | cons _ _ => have := r2.length; simp at this
          subst this
          refine nw (r := PV.tup (i ++ [])) ?_ k
          rw [List.append_nil]
          exact ⟨a1, y1, rfl, f1, h1, r1⟩
        · exact k _ (af_new rh ht) _ (new_tup rh ht (r1.append r2))
      · cases e
    | _ => cases e
  | _ => cases q <;> cases e
theorem opSub (no : NoOps E.P) : OpR X (binaryOp .Sub) (R2 E Wx σ' (Ev.binV E.P C .sub)) := by
  intro pins s σ H x y v u Q I rx ry ⟨W, h, a, b, eH, rh, ra, rb, g⟩
  subst eH
  obtain ⟨p, q, rp, rq, r, e, k⟩ := bin_view no rh ra rb g
  cases p with
  | int i =>
    cases q with
    | int j =>
      cases rp; cases rq; cases e
      exact L2.op_sub pins s σ W.H _ _ v u Q I rx ry ⟨i, j, rfl, rfl, k W (Af.refl rh) _ rfl⟩
    | _ => cases e
  | _ => cases q <;> cases e
theorem opMul (no : NoOps E.P) : OpR X (binaryOp .Mult) (R2 E Wx σ' (Ev.binV E.P C .mul)) := by
  intro pins s σ H x y v u Q I rx ry ⟨W, h, a, b, eH, rh, ra, rb, g⟩
  subst eH
  obtain ⟨p, q, rp, rq, r, e, k⟩ := bin_view no rh ra rb g
  cases p with
  | int i =>
    cases q with
    | int j =>
      cases rp; cases rq
      have e : (if Nat.blt (i.natAbs.log2 + j.natAbs.log2) 1000000 = true then some (PV.int (i * j)) else none) = some r := e
      split at e
      · rename_i hf
        cases e
        exact L2.op_mulW pins s σ W.H _ _ v u Q I rx ry ⟨i, j, rfl, rfl, by simpa [L2.CMulW] using hf, k W (Af.refl rh) _ rfl⟩
      · cases e
    | _ => cases e
  | str i =>
    cases q with
    | int j =>
      cases j with
      | negSucc _ => cases e
      | ofNat j =>
        have e : (if (Nat.ble j 100000 && Nat.ble i.length 16) = true then some (PV.str (Ev.repL i j)) else none) = some r := e
        split at e
        · rename_i hf
          obtain ⟨f1, f2⟩ := Bool.and_eq_true_iff.mp hf
          have f1 := Nat.le_of_ble_eq_true f1
          cases e; cases rp; cases rq
          obtain ⟨t1, rfl⟩ := rx
          obtain ⟨t2, rfl⟩ := ry
          refine PySem.W.KXi.mul (st_len i) (Nat.le_of_ble_eq_true f2) (show -(2 ^ 63 : Int) ≤ (j : Int) by omega) (show (j : Int) ≤ ((1048576 : Nat) : Int) by omega) fun t' k' _ _ => ⟨.str (Txt.mul (St' i) (j : Int)), W.H, I.tok _, ⟨_, rfl⟩, k W (Af.refl rh) _ ?_⟩
          show V.str _ = V.str _
          rw [mul_St]
        · cases e
    | _ => cases e
  | lst i =>
    cases q with
    | int j =>
      cases j with
      | negSucc _ => cases e
      | ofNat j =>
        have e : (if (Nat.ble j 100000 && Ev.fits (i.length * j)) = true then some (PV.lst (Ev.repL i j)) else none) = some r := e
        split at e
        · rename_i hf
          obtain ⟨f1, f2⟩ := Bool.and_eq_true_iff.mp hf
          have f1 := Nat.le_of_ble_eq_true f1
          cases e
          obtain ⟨a1, y1, rfl, h1, r1⟩ := rp
          cases rq
          refine L2.op_rep pins s σ W.H _ _ v u Q I rx ry ⟨a1, (j : Int), y1, rfl, rfl, h1, by omega, by omega, ?_, fun t ht => ?_⟩
          · rw [r1.length]; exact fits_ok f2
          · exact k _ (af_new rh ht) _ (new_lst rh ht (r1.rep j))
        · cases e
    | _ => cases e
  | _ => cases q <;> first | (cases e) | (rename_i z; cases z <;> cases e)
theorem opFdiv (no : NoOps E.P) : OpR X (binaryOp .FloorDiv) (R2 E Wx σ' (Ev.binV E.P C .fdiv)) := by
  intro pins s σ H x y v u Q I rx ry ⟨W, h, a, b, eH, rh, ra, rb, g⟩
  subst eH
  obtain ⟨p, q, rp, rq, r, e, k⟩ := bin_view no rh ra rb g
  cases p with
  | int i =>
    cases q with
    | int j =>
      cases rp; cases rq
      have e : (if (decide (0 < j) && Nat.blt j.natAbs.log2 9000) = true then some (PV.int (i / j)) else none) = some r := e
      split at e
      · rename_i hf
        obtain ⟨f1, f2⟩ := Bool.and_eq_true_iff.mp hf
        cases e
        exact L2.op_fdivW pins s σ W.H _ _ v u Q I rx ry ⟨i, j, rfl, rfl, ⟨of_decide_eq_true f1, by simpa using f2⟩, k W (Af.refl rh) _ rfl⟩
      · cases e
    | _ => cases e
  | _ => cases q <;> cases e
theorem opMod (no : NoOps E.P) : OpR X (binaryOp .Mod) (R2 E Wx σ' (Ev.binV E.P C .mod)) := by
  intro pins s σ H x y v u Q I rx ry ⟨W, h, a, b, eH, rh, ra, rb, g⟩
  subst eH
  obtain ⟨p, q, rp, rq, r, e, k⟩ := bin_view no rh ra rb g
  cases p with
  | int i =>
    cases q with
    | int j =>
      cases rp; cases rq
      have e : (if decide (0 < j) = true then some (PV.int (i % j)) else none) = some r := e
      split at e
      · rename_i hf
        cases e
        exact L2.op_mod pins s σ W.H _ _ v u Q I rx ry ⟨i, j, rfl, rfl, of_decide_eq_true hf, k W (Af.refl rh) _ rfl⟩
      · cases e
    | _ => cases e
  | _ => cases q <;> cases e
theorem opPow (no : NoOps E.P) : OpR X (binaryOp .Pow) (R2 E Wx σ' (Ev.binV E.P C .pow)) := by
  intro pins s σ H x y v u Q I rx ry ⟨W, h, a, b, eH, rh, ra, rb, g⟩
  subst eH
  obtain ⟨p, q, rp, rq, r, e, k⟩ := bin_view no rh ra rb g
  cases p with
  | int i =>
    cases q with
    | int j =>
      cases j with
      | negSucc _ => cases e
      | ofNat j =>
        have e : (if Nat.ble ((i.natAbs.log2 + 1) * j) 134217728 = true then some (PV.int (i ^ j)) else none) = some r := e
        split at e
        · rename_i hf
          have hf := Nat.le_of_ble_eq_true hf
          cases e; cases rp; cases rq
          obtain ⟨t1, rfl⟩ := rx
          obtain ⟨t2, rfl⟩ := ry
          refine pow_int (show (0 : Int) ≤ Int.ofNat j from Int.natCast_nonneg j) ?_ ⟨.int (i ^ j), W.H, I.tok _, ⟨_, rfl⟩, k W (Af.refl rh) _ rfl⟩
          have b : Builtin.Int.intBits i ≤ i.natAbs.log2 + 1 := by
            unfold Builtin.Int.intBits
            split <;> omega
          have b2 : Builtin.Int.intBits i * j ≤ 134217728 := Nat.le_trans (Nat.mul_le_mul_right j b) hf
          show ((Builtin.Int.intBits i : Nat) : Int) * ((j : Nat) : Int) ≤ 2 ^ 27
          rw [← Int.natCast_mul]
          exact Int.ofNat_le.mpr b2
        · cases e
    | _ => cases e
  | _ => cases q <;> first | (cases e) | (rename_i z; cases z <;> cases e)
end
end Sb
set_option Elab.async false
set_option linter.all false
set_option autoImplicit false
set_option maxRecDepth 100000
set_option maxHeartbeats 2000000
/-! # Sg: order, in, items, slices -/
namespace Sb
open PySem PySem.Spec
open PyProof.Rows hiding St
open L2 (V Hp HO upd upd_same upd_ne VK TE TT TA TS Ends WX XK PE PT PA PS PSs Inv OpR SqL SqT)
open Ev (PV Val MO Hh Sg Exc Res SR)

theorem ltN_lt : ∀ a b : List Nat, Ev.ltN a b = decide (a < b)
  | [], [] => rfl
  | [], _ :: _ => by simp [Ev.ltN]
  | _ :: _, [] => by simp [Ev.ltN]
  | a :: as, b :: bs => by
    have ih := ltN_lt as bs
    unfold Ev.ltN
    by_cases h : a = b
    · subst h
      simp [ih]
    · rw [if_neg (by simpa using h)]
      have : (Nat.blt a b) = decide (a < b) := by
        rw [Bool.eq_iff_iff]
        simp [Nat.blt]
        omega
      rw [this]
      simp [List.cons_lt_cons_iff, h]
section
variable {E : En} {X : L2.Cx} {Wx : WX} {C : Ev.Call} {σ' : L2.St}
theorem cmp_view {o : Ev.COp} {W : Wd} {h : Hh} {a b : Val} {x y : V} {Q : VK} {KX : Exc → Wd → Prop} (ho : o = .lt ∨ o = .le ∨ o = .gt ∨ o = .ge) (rh : RelH E W h) (ra : RelVal E W h.length a x) (rb : RelVal E W h.length b y) (g : Go E W h (Ev.cmpV E.P C o a b h) (KV E Q) KX) :
    ∃ p q, RelC E W p x ∧ RelC E W q y ∧ ∃ r, Ev.opC o p q = some r ∧ Q (.bl r) W.H := by
  have g : Go E W h (match Ev.vw h a, Ev.vw h b with
      | some x, some y => Ev.ofB 15 (Ev.opC o x y) h
      | _, _ => .bad 15) (KV E Q) KX := by
    rcases ho with rfl | rfl | rfl | rfl <;> exact g
  cases ea : Ev.vw h a with
  | none => rw [ea] at g; exact g.elim
  | some p =>
    cases eb : Ev.vw h b with
    | none => rw [ea, eb] at g; exact g.elim
    | some q =>
      rw [ea, eb] at g
      obtain ⟨r, e, k⟩ := Go.ofB rh g
      exact ⟨p, q, vw_rel rh ea ra, vw_rel rh eb rb, r, e, k⟩
theorem opLt : OpR X (compareOp .Lt) (R2 E Wx σ' (Ev.cmpV E.P C .lt)) := by
  intro pins s σ H x y v u Q I rx ry ⟨W, h, a, b, eH, rh, ra, rb, g⟩
  subst eH
  obtain ⟨p, q, rp, rq, r, e, k⟩ := cmp_view (.inl rfl) rh ra rb g
  cases p with
  | int i =>
    cases q with
    | int j => cases rp; cases rq; cases e; exact L2.op_lt pins s σ W.H _ _ v u Q I rx ry ⟨i, j, rfl, rfl, k⟩
    | _ => cases e
  | str i =>
    cases q with
    | str j => cases rp; cases rq; cases e; exact L2.op_lt_str pins s σ W.H _ _ v u Q I rx ry ⟨St' i, St' j, rfl, rfl, by rw [st_tl, st_tl, ← ltN_lt]; exact k⟩
    | _ => cases e
  | _ => cases q <;> cases e
theorem opLe : OpR X (compareOp .LtE) (R2 E Wx σ' (Ev.cmpV E.P C .le)) := by
  intro pins s σ H x y v u Q I rx ry ⟨W, h, a, b, eH, rh, ra, rb, g⟩
  subst eH
  obtain ⟨p, q, rp, rq, r, e, k⟩ := cmp_view (.inr (.inl rfl)) rh ra rb g
  cases p with
  | int i =>
    cases q with
    | int j => cases rp; cases rq; cases e; exact L2.op_le pins s σ W.H _ _ v u Q I rx ry ⟨i, j, rfl, rfl, k⟩
    | _ => cases e
  | str i =>
    cases q with
    | str j => cases rp; cases rq; cases e; exact L2.op_le_str pins s σ W.H _ _ v u Q I rx ry ⟨St' i, St' j, rfl, rfl, by rw [st_tl, st_tl, ← ltN_lt]; exact k⟩
    | _ => cases e
  | _ => cases q <;> cases e
theorem opGt : OpR X (compareOp .Gt) (R2 E Wx σ' (Ev.cmpV E.P C .gt)) := by
  intro pins s σ H x y v u Q I rx ry ⟨W, h, a, b, eH, rh, ra, rb, g⟩
  subst eH
  obtain ⟨p, q, rp, rq, r, e, k⟩ := cmp_view (.inr (.inr (.inl rfl))) rh ra rb g
  cases p with
  | int i =>
    cases q with
    | int j => cases rp; cases rq; cases e; exact L2.op_gt pins s σ W.H _ _ v u Q I rx ry ⟨i, j, rfl, rfl, k⟩
    | _ => cases e
  | str i =>
    cases q with
    | str j => cases rp; cases rq; cases e; exact L2.op_gt_str pins s σ W.H _ _ v u Q I rx ry ⟨St' i, St' j, rfl, rfl, by rw [st_tl, st_tl, ← ltN_lt]; exact k⟩
    | _ => cases e
  | _ => cases q <;> cases e
theorem opGe : OpR X (compareOp .GtE) (R2 E Wx σ' (Ev.cmpV E.P C .ge)) := by
  intro pins s σ H x y v u Q I rx ry ⟨W, h, a, b, eH, rh, ra, rb, g⟩
  subst eH
  obtain ⟨p, q, rp, rq, r, e, k⟩ := cmp_view (.inr (.inr (.inr rfl))) rh ra rb g
  cases p with
  | int i =>
    cases q with
    | int j => cases rp; cases rq; cases e; exact L2.op_ge pins s σ W.H _ _ v u Q I rx ry ⟨i, j, rfl, rfl, k⟩
    | _ => cases e
  | str i =>
    cases q with
    | str j => cases rp; cases rq; cases e; exact L2.op_ge_str pins s σ W.H _ _ v u Q I rx ry ⟨St' i, St' j, rfl, rfl, by rw [st_tl, st_tl, ← ltN_lt]; exact k⟩
    | _ => cases e
  | _ => cases q <;> cases e
end

/-! ### flat data -/
theorem flat_rel {E : En} {W : Wd} {p : PV} {x : V} (h : Ev.flatP p = true) (r : RelP E W p x) : L2.flatV x = true := by
  cases p with
  | non => cases r; rfl
  | bl b => cases r; rfl
  | int b => cases r; rfl
  | str b => cases r; rfl
  | _ => nomatch h
theorem flat_eqV {E : En} {W : Wd} {p q : PV} {x y : V} {c : Bool} (h : Ev.flatP p = true) (h' : Ev.flatP q = true) (r : RelP E W p x) (r' : RelP E W q y) (e : Ev.eqP p q = some c) : L2.eqV x y = c := by
  cases p with
  | non => cases r; cases q <;> first | (cases r'; cases e; rfl) | (nomatch h')
  | bl b => cases r; cases q <;> first | (cases r'; cases e; rfl) | (nomatch h')
  | int b => cases r; cases q <;> first | (cases r'; cases e; rfl) | (nomatch h')
  | str b =>
    cases r
    cases q with
    | str c => cases r'; cases e; exact st_beq _ _
    | _ => first | (cases r'; cases e; rfl) | (nomatch h')
  | _ => nomatch h
theorem flats_rel {E : En} {W : Wd} : ∀ {ps : List PV} {xs : List V}, ps.all Ev.flatP = true → RelPs E W ps xs → xs.all L2.flatV = true
  | [], _, _, r => by cases r; rfl
  | p :: ps, _, h, ⟨y, t, e, r1, r2⟩ => by
    subst e
    obtain ⟨h1, h2⟩ := Bool.and_eq_true_iff.mp (show (Ev.flatP p && ps.all Ev.flatP) = true from h)
    show (L2.flatV y && t.all L2.flatV) = true
    rw [flat_rel h1 r1, flats_rel h2 r2]
    rfl
theorem mem_flat {E : En} {W : Wd} {a : PV} {x : V} (h : Ev.flatP a = true) (r : RelP E W a x) : ∀ {ps : List PV} {xs : List V} {c : Bool}, ps.all Ev.flatP = true → RelPs E W ps xs → Ev.memP a ps = some c → L2.inV x xs = c
  | [], _, c, _, r, e => by cases r; cases e; rfl
  | p :: ps, _, c, hs, ⟨y, t, e', r1, r2⟩, e => by
    subst e'
    obtain ⟨h1, h2⟩ := Bool.and_eq_true_iff.mp (show (Ev.flatP p && ps.all Ev.flatP) = true from hs)
    show (L2.eqV y x || t.any fun y => L2.eqV y x) = c
    unfold Ev.memP at e
    cases q : Ev.eqP p a with
    | none => rw [q] at e; cases e
    | some d =>
      rw [q] at e
      rw [flat_eqV h1 h r1 r q]
      cases d with
      | true => cases e; rfl
      | false => exact mem_flat h r h2 r2 e
theorem mem_deep {a : PV} {n m : Nat} (h : Ev.shp a n = true) : ∀ {ps : List PV} {c : Bool}, Ev.shps ps m = true → Ev.memP a ps = some c → ((toDs ps).any fun z => PyData.eqv z (toD a)) = c
  | [], c, _, e => by cases e; rfl
  | p :: ps, c, hs, e => by
    obtain ⟨h1, h2⟩ := Bool.and_eq_true_iff.mp (show (Ev.shp p m && Ev.shps ps m) = true from hs)
    show (PyData.eqv (toD p) (toD a) || (toDs ps).any fun z => PyData.eqv z (toD a)) = c
    unfold Ev.memP at e
    cases q : Ev.eqP p a with
    | none => rw [q] at e; cases e
    | some d =>
      rw [q] at e
      rw [eqP_eqv p a d m n h1 h q]
      cases d with
      | true => cases e; rfl
      | false => exact mem_deep h h2 e

/-! ### dicts that are read, flat keys -/
section
variable {E : En} {W : Wd} {β : Type}
def RelG (Rv : β → V → Prop) : List (PV × β) → List (L2.Key × V) → Prop
  | [], ks => ks = []
  | (k, v) :: r, ks => ∃ z y t, ks = (z, y) :: t ∧ keyF k = some z ∧ Rv v y ∧ RelG Rv r t
theorem RelG.ofKs : ∀ {kvs : List (PV × PV)} {ks : List (L2.Key × V)}, RelKs E W kvs ks → RelG (RelP E W) kvs ks
  | [], _, r => r
  | (_, _) :: _, _, ⟨z, y, t, e, h1, h2, h3⟩ => ⟨z, y, t, e, h1, h2, RelG.ofKs h3⟩
theorem RelG.ofVKs {n : Nat} : ∀ {kvs : List (PV × Val)} {ks : List (L2.Key × V)}, RelVKs E W n kvs ks → RelG (RelVal E W n) kvs ks
  | [], _, r => r
  | (_, _) :: _, _, ⟨z, y, t, e, h1, h2, h3⟩ => ⟨z, y, t, e, h1, h2, RelG.ofVKs h3⟩
theorem keyF_rel {k : PV} {z : L2.Key} {x : V} (h : keyF k = some z) (r : RelP E W k x) : x = L2.kV z := by
  cases k with
  | int i => cases h; exact r
  | str s => cases h; exact r
  | _ => cases h
theorem eqP_keyF {k j : PV} {z y : L2.Key} (h : keyF k = some z) (h' : keyF j = some y) : Ev.eqP k j = some (decide (z = y)) := by
  cases k with
  | int i =>
    cases h
    cases j with
    | int j => cases h'; show some (i == j) = _; rw [L2.key_ll]
    | str s => cases h'; rfl
    | _ => cases h'
  | str s =>
    cases h
    cases j with
    | int j => cases h'; rfl
    | str t => cases h'; show some (s == t) = _; rw [L2.key_rr, ← st_beq, Bool.beq_eq_decide_eq]
    | _ => cases h'
  | _ => cases h
theorem look_flat {Rv : β → V → Prop} {k : PV} {z : L2.Key} (hk : keyF k = some z) : ∀ {kvs : List (PV × β)} {ks : List (L2.Key × V)} {o : Option β}, RelG Rv kvs ks → Ev.lookP k kvs = some o → (∀ v, o = some v → ∃ y, L2.valV ks z = some y ∧ Rv v y) ∧ (o = none → L2.valV ks z = none)
  | [], _, o, r, e => by
    cases r; cases e
    exact ⟨(fun _ z => nomatch z), fun _ => rfl⟩
  | (j, v) :: r, _, o, ⟨y, x, t, e', h1, h2, h3⟩, e => by
    subst e'
    unfold Ev.lookP at e
    rw [eqP_keyF h1 hk] at e
    by_cases q : y = z
    · rw [decide_eq_true q] at e
      cases e
      exact ⟨fun w hw => by cases hw; exact ⟨x, L2.valV_pos (p := (y, x)) q, h2⟩, (fun z => nomatch z)⟩
    · rw [decide_eq_false q] at e
      have ih := look_flat hk h3 e
      rw [show L2.valV ((y, x) :: t) z = L2.valV t z from L2.valV_neg (p := (y, x)) q]
      exact ih
/-- a key that fits is a flat one, where the dict has flat ones -/
theorem keyK_flat {Rv : β → V → Prop} {k : PV} {kvs : List (PV × β)} {ks : List (L2.Key × V)} (h : Ev.keyK k kvs = true) (r : RelG Rv kvs ks) : (∃ z, keyF k = some z) ∨ (kvs = [] ∧ ∃ xs, k = .tup xs) := by
  obtain ⟨h1, h2⟩ := Bool.and_eq_true_iff.mp h
  cases k with
  | int i => exact .inl ⟨_, rfl⟩
  | str i => exact .inl ⟨_, rfl⟩
  | tup xs =>
    refine .inr ?_
    cases kvs with
    | nil => exact ⟨rfl, xs, rfl⟩
    | cons q kvs =>
      obtain ⟨j, v⟩ := q
      obtain ⟨z, y, t, e, hz, _⟩ := r
      obtain ⟨h3, _⟩ := Bool.and_eq_true_iff.mp (show ((Ev.isTup j == true) && _) = true from h2)
      cases j with
      | int _ => nomatch h3
      | str _ => nomatch h3
      | _ => nomatch hz
  | _ => nomatch h1
end
end Sb
set_option Elab.async false
set_option linter.all false
set_option autoImplicit false
set_option maxRecDepth 100000
set_option maxHeartbeats 2000000
/-! # Sh: dicts that are read -/
namespace Sb
open PySem PySem.Spec
open PyProof.Rows hiding St
open L2 (V Hp HO upd upd_same upd_ne VK TE TT TA TS Ends WX XK PE PT PA PS PSs Inv OpR SqL SqT)
open Ev (PV Val MO Hh Sg Exc Res SR)

/-! ### nested keys -/
mutual
theorem keyN_depth : ∀ (p : PV) (n : Nat), Ev.keyN p n = true → (nk p).depth ≤ n
  | .non, n, _ => Nat.zero_le _
  | .bl _, n, _ => Nat.zero_le _
  | .int _, n, _ => Nat.zero_le _
  | .str _, n, _ => Nat.zero_le _
  | .tup xs, 0, h => nomatch h
  | .tup xs, n + 1, h => Nat.succ_le_succ (keyNs_depth xs n h)
  | .lst _, n, h => nomatch h
  | .dic _, n, h => nomatch h
  | .set _, n, h => nomatch h
  | .ins _ _, n, h => nomatch h
  | .fn _, n, h => nomatch h
  | .cl _, n, h => nomatch h
  | .ty _, n, h => nomatch h
  | .lam _ _, n, h => nomatch h
theorem keyNs_depth : ∀ (p : List PV) (n : Nat), Ev.keyNs p n = true → NestedKey.depthAll (nks p) ≤ n
  | [], n, _ => Nat.zero_le _
  | x :: xs, n, h => by
    obtain ⟨h1, h2⟩ := Bool.and_eq_true_iff.mp (show (Ev.keyN x n && Ev.keyNs xs n) = true from h)
    exact Nat.max_le.mpr ⟨keyN_depth x n h1, keyNs_depth xs n h2⟩
end
mutual
theorem eqP_nk : ∀ (a b : PV) (c : Bool) (n m : Nat), Ev.keyN a n = true → Ev.keyN b m = true → Ev.eqP a b = some c → NestedKey.beq (nk a) (nk b) = c
  | .non, b, c, n, m, h1, h2, e => by
    cases b <;> first | (cases e; rfl) | (nomatch h2) | (cases e)
  | .bl x, b, c, n, m, h1, h2, e => by
    cases b with
    | bl y => cases e; cases x <;> cases y <;> rfl
    | int y => cases e; show decide _ = _; rw [← Bool.beq_eq_decide_eq]
    | _ => first | (cases e; rfl) | (nomatch h2) | (cases e)
  | .int x, b, c, n, m, h1, h2, e => by
    cases b with
    | bl y => cases e; show decide _ = _; rw [← Bool.beq_eq_decide_eq]
    | int y => cases e; show decide _ = _; rw [← Bool.beq_eq_decide_eq]
    | _ => first | (cases e; rfl) | (nomatch h2) | (cases e)
  | .str x, b, c, n, m, h1, h2, e => by
    cases b with
    | str y => cases e; show decide _ = _; rw [← Bool.beq_eq_decide_eq]; exact st_beq x y
    | _ => first | (cases e; rfl) | (nomatch h2) | (cases e)
  | .tup x, b, c, n, m, h1, h2, e => by
    cases b with
    | tup y =>
      cases n with
      | zero => nomatch h1
      | succ n =>
        cases m with
        | zero => nomatch h2
        | succ m => exact eqPs_nk x y c n m h1 h2 e
    | _ => first | (cases e; rfl) | (nomatch h2) | (cases e)
  | .lst _, _, _, _, _, h, _, _ => nomatch h
  | .dic _, _, _, _, _, h, _, _ => nomatch h
  | .set _, _, _, _, _, h, _, _ => nomatch h
  | .ins _ _, _, _, _, _, h, _, _ => nomatch h
  | .fn _, _, _, _, _, h, _, _ => nomatch h
  | .cl _, _, _, _, _, h, _, _ => nomatch h
  | .ty _, _, _, _, _, h, _, _ => nomatch h
  | .lam _ _, _, _, _, _, h, _, _ => nomatch h
theorem eqPs_nk : ∀ (a b : List PV) (c : Bool) (n m : Nat), Ev.keyNs a n = true → Ev.keyNs b m = true → Ev.eqPs a b = some c → NestedKey.beqAll (nks a) (nks b) = c
  | [], [], c, n, m, h1, h2, e => by cases e; rfl
  | [], _ :: _, c, n, m, h1, h2, e => by cases e; rfl
  | _ :: _, [], c, n, m, h1, h2, e => by cases e; rfl
  | x :: xs, y :: ys, c, n, m, h1, h2, e => by
    obtain ⟨a1, a2⟩ := Bool.and_eq_true_iff.mp (show (Ev.keyN x n && Ev.keyNs xs n) = true from h1)
    obtain ⟨b1, b2⟩ := Bool.and_eq_true_iff.mp (show (Ev.keyN y m && Ev.keyNs ys m) = true from h2)
    show (NestedKey.beq (nk x) (nk y) && NestedKey.beqAll (nks xs) (nks ys)) = c
    unfold Ev.eqPs at e
    cases q : Ev.eqP x y with
    | none => rw [q] at e; cases e
    | some d =>
      rw [q] at e
      rw [eqP_nk x y d n m a1 b1 q]
      cases d with
      | true => rw [eqPs_nk xs ys c n m a2 b2 e]; rfl
      | false => cases e; rfl
end
section
variable {E : En} {X : L2.Cx} {pins : List (Addr × Obj)} {σ : L2.St} {s : Shared} {W : Wd}
mutual
theorem nk_is (I : Inv X pins σ W.H s) : ∀ (p : PV) (n : Nat) (x : V) (v : Value), Ev.keyN p n = true → RelP E W p x → L2.RelV x v → NestedIs s.heap (nk p) v
  | .non, n, x, v, _, r, rv => by cases r; cases rv; exact .none
  | .bl b, n, x, v, _, r, rv => by cases r; cases rv; exact .bool rfl
  | .int b, n, x, v, _, r, rv => by cases r; obtain ⟨t, rfl⟩ := rv; exact .int _ _
  | .str b, n, x, v, _, r, rv => by cases r; obtain ⟨t, rfl⟩ := rv; exact .text _ _
  | .tup xs, 0, x, v, h, _, _ => nomatch h
  | .tup xs, n + 1, x, v, h, r, rv => by
    obtain ⟨a, ys, rfl, _, e, rs⟩ := r
    cases rv
    obtain ⟨_, its, r2, ⟨o, ho, hc, m, hd⟩⟩ := (show L2.ObjOk X.prog X.w W.H s.heap a (.tup ys) from I.hok a _ e)
    exact .tup ho hc hd (by
      have := nks_is I xs n ys its h rs r2
      simpa using this)
  | .lst _, n, _, _, h, _, _ => nomatch h
  | .dic _, n, _, _, h, _, _ => nomatch h
  | .set _, n, _, _, h, _, _ => nomatch h
  | .ins _ _, n, _, _, h, _, _ => nomatch h
  | .fn _, n, _, _, h, _, _ => nomatch h
  | .cl _, n, _, _, h, _, _ => nomatch h
  | .ty _, n, _, _, h, _, _ => nomatch h
  | .lam _ _, n, _, _, h, _, _ => nomatch h
theorem nks_is (I : Inv X pins σ W.H s) : ∀ (p : List PV) (n : Nat) (x : List V) (v : List Value), Ev.keyNs p n = true → RelPs E W p x → L2.Vals x v → NestedAll s.heap (nks p) v
  | [], n, x, v, _, r, rv => by cases r; cases rv; exact .nil
  | p :: ps, n, x, v, h, ⟨y, t, e, r1, r2⟩, rv => by
    subst e
    obtain ⟨h1, h2⟩ := Bool.and_eq_true_iff.mp (show (Ev.keyN p n && Ev.keyNs ps n) = true from h)
    cases rv with
    | cons a b => exact .cons (nk_is I p n _ _ h1 r1 a) (nks_is I ps n _ _ h2 r2 b)
end
theorem tup_is (hp : E.prog = X.prog) (hw : E.w = X.w) (I : Inv X pins σ W.H s) {p : PV} {b : Addr} (h : tupK p = true) (r : RelP E W p (.ref b)) : (nestedKind E.prog E.w).is s.heap (nk p) b := by
  obtain ⟨h1, h2⟩ := Bool.and_eq_true_iff.mp h
  exact ⟨nk_is I p 8 _ _ h2 r rfl, keyN_depth p 8 h2⟩
end

/-! ### dicts as they stand -/
section
variable {E : En} {X : L2.Cx} {pins : List (Addr × Obj)} {σ : L2.St} {s : Shared} {W : Wd} {β : Type} {Rv : β → V → Prop}
def RelGT (E : En) (W : Wd) {β : Type} (Rv : β → V → Prop) : List (PV × β) → List Addr → List V → Prop
  | [], bs, ys => bs = [] ∧ ys = []
  | (k, v) :: r, bs, ys => ∃ b bt y yt, bs = b :: bt ∧ ys = y :: yt ∧ tupK k = true ∧ RelP E W k (.ref b) ∧ Rv v y ∧ RelGT E W Rv r bt yt
def DV (E : En) (W : Wd) {β : Type} (Rv : β → V → Prop) (kvs : List (PV × β)) (a : Addr) (o : HO) : Prop := (∃ ks, o = .dK ks ∧ RelG Rv kvs ks) ∨ ∃ bs ys, o = DicN E a (nks (Ev.keysP kvs)) bs ys ∧ kvs ≠ [] ∧ RelGT E W Rv kvs bs ys
theorem RelGT.ofTs : ∀ {kvs : List (PV × PV)} {bs : List Addr} {ys : List V}, RelTs E W kvs bs ys → RelGT E W (RelP E W) kvs bs ys
  | [], _, _, r => r
  | (_, _) :: _, _, _, ⟨b, bt, y, yt, e1, e2, h1, h2, h3, h4⟩ => ⟨b, bt, y, yt, e1, e2, h1, h2, h3, RelGT.ofTs h4⟩
theorem RelGT.ofVTs {n : Nat} : ∀ {kvs : List (PV × Val)} {bs : List Addr} {ys : List V}, RelVTs E W n kvs bs ys → RelGT E W (RelVal E W n) kvs bs ys
  | [], _, _, r => r
  | (_, _) :: _, _, _, ⟨b, bt, y, yt, e1, e2, h1, h2, h3, h4⟩ => ⟨b, bt, y, yt, e1, e2, h1, h2, h3, RelGT.ofVTs h4⟩
theorem RelD.dv {n : Nat} {kvs : List (PV × Val)} {a : Addr} {o : HO} (r : RelD E W n kvs a o) : DV E W (RelVal E W n) kvs a o := by
  rcases r with ⟨ks, e, r⟩ | ⟨bs, ys, e, ne, r⟩
  · exact .inl ⟨ks, e, RelG.ofVKs r⟩
  · exact .inr ⟨bs, ys, e, ne, RelGT.ofVTs r⟩
/-- what can be read of a pure dict -/
theorem RelC.dv {kvs : List (PV × PV)} {x : V} (r : RelC E W (.dic kvs) x) : ∃ a o, x = .ref a ∧ L2.Rd W.H a o ∧ DV E W (RelP E W) kvs a o := by
  obtain ⟨a, o, e, h, r⟩ := r
  refine ⟨a, o, e, h, ?_⟩
  rcases r with ⟨ks, e, r⟩ | ⟨bs, ys, e, ne, r⟩
  · exact .inl ⟨ks, e, RelG.ofKs r⟩
  · exact .inr ⟨bs, ys, e, ne, RelGT.ofTs r⟩
/-- the entries of a dict with tuples as keys: (key, (its tuple, its value)) -/
theorem gt_vals : ∀ {kvs : List (PV × β)} {bs : List Addr} {ys : List V} {us : List Value} {k : PV} {n : Nat} {o : Option β}, Ev.keyN k n = true → RelGT E W Rv kvs bs ys → L2.Vals ys us → Ev.lookP k kvs = some o →
    (∀ v, o = some v → ∃ y u b, atKey ((nks (Ev.keysP kvs)).zip (bs.zip us)) (nk k) = some (b, u) ∧ Rv v y ∧ L2.RelV y u) ∧ (o = none → atKey ((nks (Ev.keysP kvs)).zip (bs.zip us)) (nk k) = none)
  | [], _, _, us, k, n, o, hk, r, rv, e => by
    obtain ⟨rfl, rfl⟩ := r
    cases rv
    cases e
    exact ⟨(fun _ z => nomatch z), fun _ => rfl⟩
  | (j, v) :: r, _, _, us, k, n, o, hk, ⟨b, bt, y, yt, e1, e2, h1, h2, h3, h4⟩, rv, e => by
    subst e1 e2
    cases rv with
    | @cons _ u _ ut ru rt =>
      unfold Ev.lookP at e
      obtain ⟨_, kn⟩ := Bool.and_eq_true_iff.mp h1
      have step : ∀ c, NestedKey.beq (nk j) (nk k) = c → atKey ((nks (Ev.keysP ((j, v) :: r))).zip ((b :: bt).zip (u :: ut))) (nk k) = if c = true then some (b, u) else atKey ((nks (Ev.keysP r)).zip (bt.zip ut)) (nk k) := fun c hc => by
        show (List.find? _ ((nk j, (b, u)) :: (nks (Ev.keysP r)).zip (bt.zip ut))).map _ = _
        unfold atKey
        rw [List.find?_cons]
        rw [show decide ((nk j, (b, u)).1 = nk k) = c from by rw [← hc]; exact NestedKey.decide_eq _ _]
        cases c <;> rfl
      cases q : Ev.eqP j k with
      | none => rw [q] at e; cases e
      | some c =>
        rw [q] at e
        rw [step c (eqP_nk j k c 8 n kn hk q)]
        cases c with
        | true =>
          cases e
          exact ⟨fun w hw => by cases hw; exact ⟨y, u, b, rfl, h3, ru⟩, (fun z => nomatch z)⟩
        | false => exact gt_vals hk h4 rt e
/-- a dict with tuples as keys, in the heap -/
theorem dicN_at (hp : E.prog = X.prog) (hw : E.w = X.w) (I : Inv X pins σ W.H s) {kvs : List (PV × β)} {a : Addr} {bs : List Addr} {ys : List V} (h : L2.Rd W.H a (DicN E a (nks (Ev.keysP kvs)) bs ys)) (r : RelGT E W Rv kvs bs ys) :
    (a == sysModules) = false ∧ ∃ us, L2.Vals ys us ∧ s.heap.DictOfH (nestedKind E.prog E.w) a ((nks (Ev.keysP kvs)).zip (bs.zip us)) := by
  obtain ⟨⟨h1, h2, us, rv, o, es, ep, ho, hx, hd, he, hn⟩, _⟩ := h.ok I.hok
  refine ⟨h1, us, rv, o, es, ep, ho, hx, hd, he, ?_, ?_⟩
  · have go : ∀ {kvs : List (PV × β)} {bs : List Addr} {ys : List V} {us : List Value}, RelGT E W Rv kvs bs ys → ∀ x ∈ (nks (Ev.keysP kvs)).zip (bs.zip us), (nestedKind E.prog E.w).is s.heap x.1 x.2.1 := by
      intro kvs
      induction kvs with
      | nil => intro bs ys us _ x hx; exact absurd hx (by simp [Ev.keysP, nks])
      | cons q kvs ih =>
        intro bs ys us r x hx
        obtain ⟨b, bt, y, yt, e1, e2, h1, h2, h3, h4⟩ := r
        subst e1 e2
        cases us with
        | nil => exact absurd hx (by simp)
        | cons u us =>
          have hx : x ∈ (nk q.1, (b, u)) :: (nks (Ev.keysP kvs)).zip (bt.zip us) := hx
          rcases List.mem_cons.mp hx with rfl | hx
          · exact tup_is hp hw I h1 h2
          · exact ih h4 x hx
    exact go r
  · have go : ∀ {kvs : List (PV × β)} {bs : List Addr} {ys : List V} {us : List Value}, RelGT E W Rv kvs bs ys → L2.Vals ys us → ((nks (Ev.keysP kvs)).zip (bs.zip us)).map (·.1) = nks (Ev.keysP kvs) := by
      intro kvs
      induction kvs with
      | nil => intro bs ys us _ _; rfl
      | cons q kvs ih =>
        intro bs ys us r rv
        obtain ⟨b, bt, y, yt, e1, e2, h1, h2, h3, h4⟩ := r
        subst e1 e2
        cases rv with
        | cons ru rt =>
          show nk q.1 :: ((nks (Ev.keysP kvs)).zip (bt.zip _)).map (·.1) = nk q.1 :: nks (Ev.keysP kvs)
          rw [ih h4 rt]
    rw [go r rv]
    exact hn
theorem tup_ref {k : PV} {x : V} (h : tupK k = true) (r : RelP E W k x) : ∃ b, x = .ref b := by
  obtain ⟨h1, _⟩ := Bool.and_eq_true_iff.mp h
  cases k with
  | tup xs => obtain ⟨a, _, e, _⟩ := r; exact ⟨a, e⟩
  | _ => nomatch h1
theorem keyK_tup {k : PV} {kvs : List (PV × β)} (h : Ev.keyK k kvs = true) (hk : keyF k = none) : tupK k = true := by
  obtain ⟨h1, _⟩ := Bool.and_eq_true_iff.mp h
  cases k with
  | int _ => nomatch hk
  | str _ => nomatch hk
  | tup xs => exact h1
  | _ => nomatch h1
/-- how a key of a dict stands: a flat one in a flat dict, a tuple in a dict of tuples (or in an empty one) -/
theorem DV.key {kvs : List (PV × β)} {a : Addr} {o : HO} {k : PV} (d : DV E W Rv kvs a o) (h : Ev.keyK k kvs = true) :
    (∃ z ks, keyF k = some z ∧ o = .dK ks ∧ RelG Rv kvs ks) ∨ (tupK k = true ∧ kvs = [] ∧ o = .dK []) ∨ (tupK k = true ∧ ∃ bs ys, o = DicN E a (nks (Ev.keysP kvs)) bs ys ∧ RelGT E W Rv kvs bs ys) := by
  rcases d with ⟨ks, e, r⟩ | ⟨bs, ys, e, ne, r⟩
  · rcases keyK_flat h r with ⟨z, hz⟩ | ⟨rfl, xs, rfl⟩
    · exact .inl ⟨z, ks, hz, e, r⟩
    · cases r
      exact .inr (.inl ⟨keyK_tup h rfl, rfl, e⟩)
  · refine .inr (.inr ⟨?_, bs, ys, e, r⟩)
    cases kvs with
    | nil => exact absurd rfl ne
    | cons q kvs =>
      obtain ⟨_, _, _, _, _, _, h1, _⟩ := r
      obtain ⟨h2, h3⟩ := Bool.and_eq_true_iff.mp h
      obtain ⟨h4, _⟩ := Bool.and_eq_true_iff.mp (show ((Ev.isTup q.1 == Ev.isTup k) && _) = true from h3)
      obtain ⟨h5, _⟩ := Bool.and_eq_true_iff.mp h1
      rw [h5] at h4
      cases k with
      | int _ => nomatch h4
      | str _ => nomatch h4
      | tup xs => exact h2
      | _ => nomatch h2
theorem nest_room {P : Program} {w : World} {A : Around} (hu : A.units + 64 < cLine) : (nestedKind P w).room A.in1 := by
  show A.units + 1 + 8 < cLine
  omega
/-- an empty dict, as one of tuples -/
theorem empty_H (I : Inv X pins σ W.H s) {a : Addr} (h : L2.Rd W.H a (.dK [])) : (a == sysModules) = false ∧ s.heap.DictOfH (nestedKind E.prog E.w) a [] := by
  obtain ⟨_, h1, vs, r, d⟩ := h.ok I.hok
  cases r
  obtain ⟨o, es, ep, ho, hx, hd, _, he, hn⟩ := d
  have he : es.toList = [] := by cases q : es.toList with
    | nil => rfl
    | cons _ _ => rw [q] at he; cases he
  exact ⟨h1, o, es, ep, ho, hx, hd, he, (fun x hx => absurd hx (by simp)), by simp⟩
/-- a dict that is asked for a key -/
theorem DV.read (hp : E.prog = X.prog) (hw : E.w = X.w) (I : Inv X pins σ W.H s) {kvs : List (PV × β)} {a : Addr} {o : HO} {k : PV} {x : V} {r : Option β} (h : L2.Rd W.H a o) (d : DV E W Rv kvs a o) (hk : Ev.keyK k kvs = true) (rk : RelP E W k x) (e : Ev.lookP k kvs = some r) :
    (∃ ov, L2.DGet W.H a x ov ∧ (∀ v, r = some v → ∃ y, ov = some y ∧ Rv v y) ∧ (r = none → ov = none)) ∨
    ∃ b xs, x = .ref b ∧ (a == sysModules) = false ∧ s.heap.DictOfH (nestedKind X.prog X.w) a xs ∧ (nestedKind X.prog X.w).is s.heap (nk k) b ∧ (∀ v, r = some v → ∃ y u b', atKey xs (nk k) = some (b', u) ∧ Rv v y ∧ L2.RelV y u) ∧ (r = none → atKey xs (nk k) = none) := by
  rcases d.key hk with ⟨z, ks, hz, rfl, rg⟩ | ⟨hz, rfl, rfl⟩ | ⟨hz, bs, ys, rfl, rg⟩
  · exact .inl ⟨L2.valV ks z, .inl ⟨ks, z, h, keyF_rel hz rk, rfl⟩, look_flat hz rg e⟩
  · obtain ⟨b, rfl⟩ := tup_ref hz rk
    obtain ⟨h1, d⟩ := empty_H (E := E) I h
    have t := tup_is hp hw I hz rk
    rw [hp, hw] at d t
    cases e
    exact .inr ⟨b, [], rfl, h1, d, t, (fun _ z => nomatch z), fun _ => rfl⟩
  · obtain ⟨b, rfl⟩ := tup_ref hz rk
    obtain ⟨h1, us, rv, d⟩ := dicN_at hp hw I h rg
    have t := tup_is hp hw I hz rk
    rw [hp, hw] at d t
    exact .inr ⟨b, _, rfl, h1, d, t, gt_vals (Bool.and_eq_true_iff.mp hz).2 rg rv e⟩
section
variable (hp : E.prog = X.prog) (hw : E.w = X.w) {A : Around} {Ex Q : Value → Shared → Prop} (hu : A.units + 64 < cLine) (I : Inv X pins σ W.H s) {kvs : List (PV × β)} {a : Addr} {o : HO} {k : PV} {x : V} {u : Value} {r : Option β} (h : L2.Rd W.H a o) (d : DV E W Rv kvs a o) (hk : Ev.keyK k kvs = true)
    (rk : RelP E W k x) (ru : L2.RelV x u)
include hp hw hu I h d hk rk ru
/-- k in d -/
theorem DV.isIn (e : Ev.lookP k kvs = some r) (q : ∀ s', Inv X pins σ W.H s' → Q (.bool r.isSome) s') : wpAny (model X.prog X.w) A (compareOp .In u (.ref a)) Q Ex s := by
  rcases d.read hp hw I h hk rk e with ⟨ov, g, l1, l2⟩ | ⟨b, xs, rfl, h1, d, t, l1, l2⟩
  · refine L2.d_in (by omega) I g ru fun s' I' => ?_
    cases r with
    | none => rw [l2 rfl]; exact q s' I'
    | some v => obtain ⟨y, e, _⟩ := l1 v rfl; rw [e]; exact q s' I'
  · cases ru
    refine wpAny_in_heap (nest_room hu) t h1 d ?_
    cases r with
    | none => rw [l2 rfl]; exact q _ (I.tok _)
    | some v => obtain ⟨y, u, b, e, _⟩ := l1 v rfl; rw [e]; exact q _ (I.tok _)
theorem DV.notIn (e : Ev.lookP k kvs = some r) (q : ∀ s', Inv X pins σ W.H s' → Q (.bool (!r.isSome)) s') : wpAny (model X.prog X.w) A (compareOp .NotIn u (.ref a)) Q Ex s := by
  rcases d.read hp hw I h hk rk e with ⟨ov, g, l1, l2⟩ | ⟨b, xs, rfl, h1, d, t, l1, l2⟩
  · refine L2.d_notIn (by omega) I g ru fun s' I' => ?_
    cases r with
    | none => rw [l2 rfl]; exact q s' I'
    | some v => obtain ⟨y, e, _⟩ := l1 v rfl; rw [e]; exact q s' I'
  · cases ru
    refine notIn_keyed (nest_room hu) t h1 ⟨_, d, rfl⟩ ?_
    rw [valueAt_pairsH, Option.isSome_map]
    cases r with
    | none => rw [l2 rfl]; exact q _ (I.tok _)
    | some v => obtain ⟨y, u, b, e, _⟩ := l1 v rfl; rw [e]; exact q _ (I.tok _)
/-- d[k] -/
theorem DV.item {v : β} (e : Ev.lookP k kvs = some (some v)) (q : ∀ y w' s', Inv X pins σ W.H s' → Rv v y → L2.RelV y w' → Q w' s') : wpAny (model X.prog X.w) A (getItem (.ref a) u) Q Ex s := by
  rcases d.read hp hw I h hk rk e with ⟨ov, g, l1, l2⟩ | ⟨b, xs, rfl, h1, d, t, l1, l2⟩
  · obtain ⟨y, e, rv⟩ := l1 v rfl
    rw [e] at g
    exact L2.d_getItem (by omega) I g ru fun w' s' I' r' => q y w' s' I' rv r'
  · cases ru
    obtain ⟨y, u, b', e, rv, r'⟩ := l1 v rfl
    exact wpAny_getItem_heap (nest_room hu) t d e (q y u _ (I.tok _) rv r')
/-- d.get(k) -/
theorem DV.get1 (e : Ev.lookP k kvs = some r) (q : ∀ y w' s', Inv X pins σ W.H s' → ((∃ v, r = some v ∧ Rv v y) ∨ (r = none ∧ y = .non)) → L2.RelV y w' → Q w' s') : wpAny (model X.prog X.w) A (call (.builtin "dict.get") [.ref a, u]) Q Ex s := by
  rcases d.read hp hw I h hk rk e with ⟨ov, g, l1, l2⟩ | ⟨b, xs, rfl, h1, d, t, l1, l2⟩
  · refine L2.d_get1 (by omega) I g ru fun w' s' I' r' => ?_
    cases r with
    | none => rw [l2 rfl] at r'; exact q _ w' s' I' (.inr ⟨rfl, rfl⟩) r'
    | some v => obtain ⟨y, e, rv⟩ := l1 v rfl; rw [e] at r'; exact q y w' s' I' (.inl ⟨v, rfl, rv⟩) r'
  · cases ru
    refine get_keyed (nest_room hu) t h1 ⟨_, d, rfl⟩ ?_
    rw [valueAt_pairsH]
    cases r with
    | none => rw [l2 rfl]; exact q .non _ _ (I.tok _) (.inr ⟨rfl, rfl⟩) rfl
    | some v => obtain ⟨y, u, b, e, rv, r'⟩ := l1 v rfl; rw [e]; exact q y u _ (I.tok _) (.inl ⟨v, rfl, rv⟩) r'
theorem DV.get2 {z : V} {zv : Value} (rz : L2.RelV z zv) (e : Ev.lookP k kvs = some r) (q : ∀ y w' s', Inv X pins σ W.H s' → ((∃ v, r = some v ∧ Rv v y) ∨ (r = none ∧ y = z)) → L2.RelV y w' → Q w' s') : wpAny (model X.prog X.w) A (call (.builtin "dict.get") [.ref a, u, zv]) Q Ex s := by
  rcases d.read hp hw I h hk rk e with ⟨ov, g, l1, l2⟩ | ⟨b, xs, rfl, h1, d, t, l1, l2⟩
  · refine L2.d_get2 (by omega) I g ru rz fun w' s' I' r' => ?_
    cases r with
    | none => rw [l2 rfl] at r'; exact q _ w' s' I' (.inr ⟨rfl, rfl⟩) r'
    | some v => obtain ⟨y, e, rv⟩ := l1 v rfl; rw [e] at r'; exact q y w' s' I' (.inl ⟨v, rfl, rv⟩) r'
  · cases ru
    refine getOr_keyed (nest_room hu) t h1 ⟨_, d, rfl⟩ ?_
    rw [valueAt_pairsH]
    cases r with
    | none => rw [l2 rfl]; exact q z _ _ (I.tok _) (.inr ⟨rfl, rfl⟩) rz
    | some v => obtain ⟨y, u, b, e, rv, r'⟩ := l1 v rfl; rw [e]; exact q y u _ (I.tok _) (.inl ⟨v, rfl, rv⟩) r'
end
end
end Sb
set_option Elab.async false
set_option linter.all false
set_option autoImplicit false
set_option maxRecDepth 100000
set_option maxHeartbeats 2000000
/-! # Si: in, items, slices -/
namespace Sb
open PySem PySem.Spec
open PyProof.Rows hiding St
open L2 (V Hp HO upd upd_same upd_ne VK TE TT TA TS Ends WX XK PE PT PA PS PSs Inv OpR SqL SqT Dp)
open Ev (PV Val MO Hh Sg Exc Res SR)
section
variable {E : En} {X : L2.Cx} {Wx : WX} {C : Ev.Call} {σ' : L2.St}
/-- what «in» asks -/
inductive InC (E : En) (W : Wd) (n : Nat) (K : PySem.W.Frag) (c : Bool) (x y : V) : Prop where
  | flat (p : Addr) (xs : List V) (e : y = .ref p) (h : SqL K W.H p xs ∨ SqT K W.H p xs) (f : L2.flatV x = true) (g : xs.all L2.flatV = true) (q : c = L2.inV x xs)
  | deep (d : PyData) (ds : List PyData) (h1 : Dp K W.H x d) (h2 : Dp K W.H y (.list ds)) (s1 : SeqAt.shaped d = true) (s2 : SeqAt.shaped (.list ds) = true) (q : c = ds.any fun z => PyData.eqv z d)
  | dicP (kvs : List (PV × PV)) (a : Addr) (o : HO) (k : PV) (r : Option PV) (e : y = .ref a) (h : L2.Rd W.H a o) (d : DV E W (RelP E W) kvs a o) (hk : Ev.keyK k kvs = true) (rk : RelP E W k x) (l : Ev.lookP k kvs = some r) (q : c = r.isSome)
  | dicV (kvs : List (PV × Val)) (a : Addr) (o : HO) (k : PV) (r : Option Val) (e : y = .ref a) (h : L2.Rd W.H a o) (d : DV E W (RelVal E W n) kvs a o) (hk : Ev.keyK k kvs = true) (rk : RelP E W k x) (l : Ev.lookP k kvs = some r) (q : c = r.isSome)
  | sign (s : List Nat) (ch : Nat) (e1 : x = .str (St' [ch])) (e2 : y = .str (St' s)) (q : c = decide (ch ∈ s))
theorem inS_case {W : Wd} {n : Nat} {K : PySem.W.Frag} {c : Bool} {x : V} {p : Addr} {a : PV} {ps : List PV} {xs : List V} (hp : SqL K W.H p xs) (r : RelP E W a x) (rs : RelPs E W ps xs) (e : Ev.inS a ps = some c) : InC E W n K c x (.ref p) := by
  unfold Ev.inS at e
  cases q : Ev.flatP a && ps.all Ev.flatP with
  | true =>
    rw [q] at e
    obtain ⟨h1, h2⟩ := Bool.and_eq_true_iff.mp q
    exact .flat p xs rfl (.inl hp) (flat_rel h1 r) (flats_rel h2 rs) (mem_flat h1 r h2 rs e).symm
  | false =>
    rw [q] at e
    cases q2 : Ev.shp a 60 && Ev.shps ps 59 with
    | false => rw [q2] at e; cases e
    | true =>
      rw [q2] at e
      obtain ⟨h1, h2⟩ := Bool.and_eq_true_iff.mp q2
      exact .deep (toD a) (toDs ps) (dp_rel a 60 x h1 r) (.lst hp (dps_rel ps 59 xs h2 rs)) (shp_shaped h1) (shps_shaped h2) (mem_deep h1 h2 e).symm
theorem relC_flat {W : Wd} {p : PV} {x : V} (r : RelC E W p x) (n1 : ∀ xs, p ≠ .lst xs) (n2 : ∀ xs, p ≠ .dic xs) : RelP E W p x := by
  cases p with
  | lst xs => exact absurd rfl (n1 xs)
  | dic xs => exact absurd rfl (n2 xs)
  | _ => exact r
theorem keyK_np {β : Type} {k : PV} {kvs : List (PV × β)} (h : Ev.keyK k kvs = true) : (∀ xs, k ≠ .lst xs) ∧ ∀ xs, k ≠ .dic xs := by
  obtain ⟨h1, _⟩ := Bool.and_eq_true_iff.mp h
  exact ⟨(fun xs e => by subst e; exact nomatch h1), (fun xs e => by subst e; exact nomatch h1)⟩
theorem inn_case {W : Wd} {h : Hh} {K : PySem.W.Frag} {a b : Val} {x y : V} {c : Bool} {p q : PV} (rh : RelH E W h) (ra : RelVal E W h.length a x) (rb : RelVal E W h.length b y) (ea : Ev.vw h a = some p) (eb : Ev.vw h b = some q) (e : Ev.opC.inn p q = some c) : InC E W h.length K c x y := by
  have rp := vw_rel rh ea ra
  have rq := vw_rel rh eb rb
  cases q with
  | lst xs =>
    obtain ⟨l, ys, rfl, h1, r1⟩ := rq
    have e : Ev.inS p xs = some c := e
    -- the item itself is to be pure: a view of a mutable list is data
    by_cases hn : (∀ xs, p ≠ .lst xs) ∧ ∀ xs, p ≠ .dic xs
    · exact inS_case (SqL.of h1) (relC_flat rp hn.1 hn.2) r1 e
    · unfold Ev.inS at e
      cases q : Ev.flatP p && xs.all Ev.flatP with
      | true =>
        obtain ⟨h1, _⟩ := Bool.and_eq_true_iff.mp q
        exact absurd ⟨(fun xs e => by subst e; exact nomatch h1), (fun xs e => by subst e; exact nomatch h1)⟩ hn
      | false =>
        rw [q] at e
        cases q2 : Ev.shp p 60 && Ev.shps xs 59 with
        | false => rw [q2] at e; cases e
        | true =>
          rw [q2] at e
          obtain ⟨s1, s2⟩ := Bool.and_eq_true_iff.mp q2
          have dx : Dp K W.H x (toD p) := by
            cases p with
            | lst ps =>
              obtain ⟨l2, ys2, rfl, h2, r2⟩ := rp
              exact .lst (SqL.of h2) (dps_rel ps 59 ys2 s1 r2)
            | dic ps => nomatch s1
            | _ => exact dp_rel (E := E) _ 60 x s1 rp
          exact .deep (toD p) (toDs xs) dx (.lst (SqL.of h1) (dps_rel xs 59 ys s2 r1)) (shp_shaped s1) (shps_shaped s2) (mem_deep s1 s2 e).symm
  | tup xs =>
    obtain ⟨l, ys, rfl, _, h1, r1⟩ := rq
    have e : (match Ev.flatP p && xs.all Ev.flatP with
      | true => Ev.memP p xs
      | false => none) = some c := e
    cases q : Ev.flatP p && xs.all Ev.flatP with
    | false => rw [q] at e; cases e
    | true =>
      rw [q] at e
      obtain ⟨f1, f2⟩ := Bool.and_eq_true_iff.mp q
      have rp := relC_flat rp (fun xs e => by subst e; nomatch f1) (fun xs e => by subst e; nomatch f1)
      exact .flat l ys rfl (.inr (SqT.of h1)) (flat_rel f1 rp) (flats_rel f2 r1) (mem_flat f1 rp f2 r1 e).symm
  | dic kvs =>
    obtain ⟨l, o, rfl, h1, d⟩ := RelC.dv rq
    have e : (if Ev.keyK p kvs then (Ev.lookP p kvs).map (·.isSome) else none) = some c := e
    split at e
    · rename_i hk
      obtain ⟨r, el, rfl⟩ := Option.map_eq_some_iff.mp e
      exact .dicP kvs l o p r rfl h1 d hk (relC_flat rp (keyK_np hk).1 (keyK_np hk).2) el rfl
    · cases e
  | str s =>
    cases p with
    | str t =>
      cases t with
      | nil => cases e
      | cons ch t =>
        cases t with
        | cons _ _ => cases e
        | nil =>
          cases rp; cases rq
          have e : some (s.contains ch) = some c := e
          cases e
          exact .sign s ch rfl rfl (by rw [Bool.eq_iff_iff]; simp)
    | _ => cases e
  | _ => cases e
theorem inn_go {W : Wd} {h : Hh} {K : PySem.W.Frag} {a b : Val} {x y : V} {Q : VK} {KX : Exc → Wd → Prop} (rh : RelH E W h) (ra : RelVal E W h.length a x) (rb : RelVal E W h.length b y)
    (g : Go E W h (match (generalizing := false) a, b with
      | .p k, .r i => Ev.cmpV.hasR h k i
      | _, _ => match Ev.vw h a, Ev.vw h b with
        | some x, some y => Ev.ofB 15 (Ev.opC .inn x y) h
        | _, _ => .bad 15) (KV E Q) KX) : ∃ c, InC E W h.length K c x y ∧ Q (.bl c) W.H := by
  have view : Go E W h (match Ev.vw h a, Ev.vw h b with
        | some x, some y => Ev.ofB 15 (Ev.opC .inn x y) h
        | _, _ => .bad 15) (KV E Q) KX → ∃ c, InC E W h.length K c x y ∧ Q (.bl c) W.H := fun g => by
    cases ea : Ev.vw h a with
    | none => rw [ea] at g; exact g.elim
    | some p =>
      cases eb : Ev.vw h b with
      | none => rw [ea, eb] at g; exact g.elim
      | some q =>
        rw [ea, eb] at g
        obtain ⟨c, ec, q⟩ := Go.ofB rh g
        exact ⟨c, inn_case rh ra rb ea eb ec, q⟩
  cases a with
  | r i => exact view g
  | p k =>
    cases b with
    | p q => exact view g
    | r i =>
      obtain ⟨_, rfl⟩ := rb
      have g : Go E W h (Ev.cmpV.hasR h k i) (KV E Q) KX := g
      unfold Ev.cmpV.hasR at g
      cases q : Ev.getO h i with
      | none => rw [q] at g; exact g.elim
      | some o =>
        rw [q] at g
        cases o with
        | dic kvs =>
          have g : Go E W h (if Ev.keyK k kvs then Ev.ofB 15 ((Ev.lookP k kvs).map (·.isSome)) h else .bad 15) (KV E Q) KX := g
          split at g
          · rename_i hk
            obtain ⟨c, ec, q'⟩ := Go.ofB rh g
            obtain ⟨r, el, rfl⟩ := Option.map_eq_some_iff.mp ec
            obtain ⟨o, h1, d⟩ := rh.dic q
            exact ⟨_, .dicV kvs _ o k r rfl h1 d.dv hk ra el rfl, q'⟩
          · exact g.elim
        | lst xs =>
          have g : Go E W h (match Ev.pures xs with
            | some ys => Ev.ofB 15 (Ev.inS k ys) h
            | none => .bad 15) (KV E Q) KX := g
          cases z : Ev.pures xs with
          | none => rw [z] at g; exact g.elim
          | some ps =>
            rw [z] at g
            obtain ⟨c, ec, q'⟩ := Go.ofB rh g
            obtain ⟨ys, h1, r1⟩ := rh.lst q
            exact ⟨c, inS_case (SqL.of h1) ra (pures_rel z r1) ec, q'⟩
        | _ => exact g.elim
theorem opIn (hp : E.prog = X.prog) (hw : E.w = X.w) (hu : X.A.units + 65 < cLine) (nh : NoDun E.P (·.has)) : OpR X (compareOp .In) (R2 E Wx σ' (Ev.cmpV E.P C .inn)) := by
  intro pins s σ H x y v u Q I rx ry ⟨W, h, a, b, eH, rh, ra, rb, g⟩
  subst eH
  have g : Go E W h (match Ev.dun E.P (·.has) h b with
    | some (some d) => C d [b, a] h
    | some none => .bad 14
    | none => match (generalizing := false) a, b with
      | .p k, .r i => Ev.cmpV.hasR h k i
      | _, _ => match Ev.vw h a, Ev.vw h b with
        | some x, some y => Ev.ofB 15 (Ev.opC .inn x y) h
        | _, _ => .bad 15) (KV E Q) (KX E Wx σ') := g
  rcases dun_none (P := E.P) (sel := (·.has)) nh (h := h) (v := b) with q | q
  · rw [q] at g
    obtain ⟨c, ic, q⟩ := inn_go (K := X.K) rh ra rb g
    cases ic with
    | flat p xs e hs f g2 qc => exact L2.op_in_seq pins s σ W.H x y v u Q I rx ry ⟨p, xs, e, hs, f, g2, by subst qc; exact q⟩
    | deep d ds h1 h2 s1 s2 qc => exact L2.op_inD (by omega) pins s σ W.H x y v u Q I rx ry ⟨d, ds, h1, h2, s1, s2, by subst qc; exact q⟩
    | dicP kvs a o k r e hr d hk rk l qc => subst e qc; cases ry; exact d.isIn hp hw (by omega) I hr hk rk rx l fun s' I' => ⟨.bl r.isSome, W.H, I', rfl, q⟩
    | dicV kvs a o k r e hr d hk rk l qc => subst e qc; cases ry; exact d.isIn hp hw (by omega) I hr hk rk rx l fun s' I' => ⟨.bl r.isSome, W.H, I', rfl, q⟩
    | sign s' ch e1 e2 qc => exact L2.op_in_sign pins s σ W.H x y v u Q I rx ry ⟨ch, St' s', e1, e2, by subst qc; rw [st_tl]; exact q⟩
  · rw [q] at g
    exact g.elim
theorem Go.not {W : Wd} {h : Hh} {r : Res Val} {Q : VK} {KX : Exc → Wd → Prop} (g : Go E W h (Ev.truthNot r) (KV E Q) KX) : Go E W h r (KV E fun x H1 => ∃ b, x = .bl b ∧ Q (.bl (!b)) H1) KX := by
  cases r with
  | bad w => exact g
  | exc e h' => exact g
  | ok v h' =>
    cases v with
    | r i => exact g.elim
    | p v =>
      cases v with
      | bl b => exact fun W' a x r => ⟨b, r, g W' a (.bl (!b)) rfl⟩
      | _ => exact g.elim
theorem opNin (hp : E.prog = X.prog) (hw : E.w = X.w) (hu : X.A.units + 65 < cLine) (nh : NoDun E.P (·.has)) : OpR X (compareOp .NotIn) (R2 E Wx σ' (Ev.cmpV E.P C .nin)) := by
  intro pins s σ H x y v u Q I rx ry ⟨W, h, a, b, eH, rh, ra, rb, g⟩
  subst eH
  have fin : ∃ c, InC E W h.length X.K c x y ∧ Q (.bl (!c)) W.H := by
    have g : Go E W h (match Ev.dun E.P (·.has) h b with
      | some (some d) => Ev.truthNot (C d [b, a] h)
      | some none => .bad 14
      | none => match (generalizing := false) a, b with
        | .p k, .r i => Ev.truthNot (Ev.cmpV.hasR h k i)
        | _, _ => match Ev.vw h a, Ev.vw h b with
          | some x, some y => Ev.ofB 15 (Ev.opC .nin x y) h
          | _, _ => .bad 15) (KV E Q) (KX E Wx σ') := g
    rcases dun_none (P := E.P) (sel := (·.has)) nh (h := h) (v := b) with q | q
    · rw [q] at g
      have view : Go E W h (match Ev.vw h a, Ev.vw h b with
          | some x, some y => Ev.ofB 15 (Ev.opC .nin x y) h
          | _, _ => .bad 15) (KV E Q) (KX E Wx σ') → ∃ c, InC E W h.length X.K c x y ∧ Q (.bl (!c)) W.H := fun g => by
        cases ea : Ev.vw h a with
        | none => rw [ea] at g; exact g.elim
        | some p =>
          cases eb : Ev.vw h b with
          | none => rw [ea, eb] at g; exact g.elim
          | some q =>
            rw [ea, eb] at g
            obtain ⟨c, ec, q⟩ := Go.ofB rh g
            obtain ⟨c0, ec0, rfl⟩ := Option.map_eq_some_iff.mp (show (Ev.opC.inn p _).map (!·) = some c from ec)
            exact ⟨c0, inn_case rh ra rb ea eb ec0, q⟩
      cases a with
      | r i => exact view g
      | p k =>
        cases b with
        | p q => exact view g
        | r i =>
          have g := Go.not g
          obtain ⟨c, ic, b, eb, q⟩ := inn_go (a := .p k) (b := .r i) (K := X.K) rh ra rb g
          cases eb
          exact ⟨c, ic, q⟩
    · rw [q] at g
      exact g.elim
  obtain ⟨c, ic, q⟩ := fin
  cases ic with
  | flat p xs e hs f g2 qc => exact L2.op_notIn_seq pins s σ W.H x y v u Q I rx ry ⟨p, xs, e, hs, f, g2, by subst qc; exact q⟩
  | deep d ds h1 h2 s1 s2 qc => exact L2.op_notInD (by omega) pins s σ W.H x y v u Q I rx ry ⟨d, ds, h1, h2, s1, s2, by subst qc; exact q⟩
  | dicP kvs a o k r e hr d hk rk l qc => subst e qc; cases ry; exact d.notIn hp hw (by omega) I hr hk rk rx l fun s' I' => ⟨.bl (!r.isSome), W.H, I', rfl, q⟩
  | dicV kvs a o k r e hr d hk rk l qc => subst e qc; cases ry; exact d.notIn hp hw (by omega) I hr hk rk rx l fun s' I' => ⟨.bl (!r.isSome), W.H, I', rfl, q⟩
  | sign s' ch e1 e2 qc => exact L2.op_notIn_sign pins s σ W.H x y v u Q I rx ry ⟨ch, St' s', e1, e2, by subst qc; rw [st_tl]; exact q⟩
end
end Sb
set_option Elab.async false
set_option linter.all false
set_option autoImplicit false
set_option maxRecDepth 100000
set_option maxHeartbeats 2000000
/-! # Sj: items, slices -/
namespace Sb
open PySem PySem.Spec
open PyProof.Rows hiding St
open L2 (V Hp HO upd upd_same upd_ne VK TE TT TA TS Ends WX XK PE PT PA PS PSs Inv OpR SqL SqT Dp)
open Ev (PV Val MO Hh Sg Exc Res SR)
theorem blt_t {k n : Nat} : Nat.blt k n = true ↔ k < n := ⟨fun h => Nat.le_of_ble_eq_true h, fun h => Nat.ble_eq_true_of_le h⟩
theorem place_ix (n : Nat) (i : Int) : Ev.place n i = L2.ixN n i := by
  cases i with
  | ofNat k =>
    show (if Nat.blt k n = true then some k else none) = _
    unfold L2.ixN
    rw [if_pos (show (0 : Int) ≤ Int.ofNat k from Int.natCast_nonneg k)]
    by_cases h : k < n
    · rw [if_pos (blt_t.mpr h), if_pos (show Int.ofNat k < (n : Int) from Int.ofNat_lt.mpr h)]
      rfl
    · rw [if_neg (fun z => h (blt_t.mp z)), if_neg (show ¬ Int.ofNat k < (n : Int) from fun z => h (Int.ofNat_lt.mp z))]
  | negSucc k =>
    show (if Nat.blt k n = true then some (n - (k + 1)) else none) = _
    unfold L2.ixN
    rw [if_neg (show ¬ (0 : Int) ≤ Int.negSucc k by omega)]
    by_cases h : k < n
    · rw [if_pos (blt_t.mpr h), if_pos (by omega)]
      congr 1
      omega
    · rw [if_neg (fun z => h (blt_t.mp z)), if_neg (by omega)]
theorem sIx_some (n d : Nat) (i : Int) : HT.sIx n d (some i) = if i < 0 then (i + (n : Int)).toNat else min i.toNat n := rfl
theorem clampI_ix (n d : Nat) (i : Int) : Ev.clampI n i = HT.sIx n d (some i) := by
  rw [sIx_some]
  cases i with
  | ofNat k =>
    rw [if_neg (show ¬ Int.ofNat k < 0 from Int.not_lt.mpr (Int.natCast_nonneg k))]
    have e : Ev.clampI n (Int.ofNat k) = if Nat.ble k n = true then k else n := rfl
    rw [e]
    show _ = min k n
    by_cases h : k ≤ n
    · rw [if_pos (by simpa using h)]; omega
    · rw [if_neg (by simpa using h)]; omega
  | negSucc k =>
    have e : Ev.clampI n (Int.negSucc k) = if Nat.blt k n = true then n - (k + 1) else 0 := rfl
    rw [if_pos (Int.negSucc_lt_zero k), e]
    by_cases h : k < n
    · rw [if_pos (blt_t.mpr h)]; omega
    · rw [if_neg (fun z => h (blt_t.mp z))]; omega
theorem loI_ix (n : Nat) (o : Option Int) : Ev.loI n o = HT.sIx n 0 o := by
  cases o with
  | none => rfl
  | some i => exact clampI_ix n 0 i
theorem hiI_ix (n : Nat) (o : Option Int) : Ev.hiI n o = HT.sIx n n o := by
  cases o with
  | none => rfl
  | some i => exact clampI_ix n n i
section
variable {E : En} {X : L2.Cx} {Wx : WX} {C : Ev.Call} {σ' : L2.St}
theorem RelVals.get {W : Wd} {n : Nat} : ∀ {xs : List Val} {ys : List V} {m : Nat} {p : Val}, RelVals E W n xs ys → xs[m]? = some p → ∃ y, ys[m]? = some y ∧ RelVal E W n p y
  | [], _, m, p, r, e => by simp at e
  | x :: xs, _, 0, p, ⟨y, t, e', h, r⟩, e => by subst e'; simp at e; subst e; exact ⟨y, rfl, h⟩
  | x :: xs, _, m + 1, p, ⟨y, t, e', h, r⟩, e => by subst e'; exact RelVals.get (xs := xs) (m := m) r (by simpa using e)
theorem atI_of {α : Type} {xs : List α} {i : Int} {n : Nat} {v : α} (e : Ev.place xs.length i = some n) (h : xs[n]? = some v) : L2.atI xs i = some v := by
  unfold L2.atI
  rw [← place_ix, e]
  exact h
theorem ix_items {W : Wd} {β : Type} {Rv : β → V → Prop} {xs : List β} {ys : List V} {i : Int} {n : Nat} {v : β} (hl : ys.length = xs.length) (hg : ∀ (m : Nat) (p : β), xs[m]? = some p → ∃ y, ys[m]? = some y ∧ Rv p y) (e : Ev.place xs.length i = some n) (h : xs[n]? = some v) : ∃ y, L2.atI ys i = some y ∧ Rv v y := by
  obtain ⟨y, h1, h2⟩ := hg n v h
  exact ⟨y, atI_of (by rw [hl]; exact e) h1, h2⟩
theorem dv_type {W : Wd} {pins : List (Addr × Obj)} {σ : L2.St} {s : Shared} {β : Type} {Rv : β → V → Prop} {kvs : List (PV × β)} {a : Addr} {o : HO} (I : Inv X pins σ W.H s) (h : L2.Rd W.H a o) (d : DV E W Rv kvs a o) : s.TypeIs (.ref a) "dict" := by
  rcases d with ⟨ks, rfl, _⟩ | ⟨bs, ys, rfl, _⟩
  · obtain ⟨_, _, vs, _, dd⟩ := h.ok I.hok
    exact dd.typeIs
  · obtain ⟨⟨_, _, us, _, ob, es, ep, ho, hx, _⟩, _⟩ := h.ok I.hok
    exact ⟨ob, ho, hx.1⟩
theorem Scr.sq {W : Wd} {a : Addr} {ns : List Int} (h : Scr E W a ns) (hK : E.K = X.K) : SqL X.K W.H a (ns.map V.int) := by
  rcases h with ⟨_, q⟩ | q
  · exact .inl q
  · rw [← hK]
    exact .inr q
theorem ixP_run (hK : E.K = X.K) (hp : E.prog = X.prog) (hw : E.w = X.w) (hu : X.A.units + 64 < cLine) {value slice : Expr} {pins : List (Addr × Obj)} {s : Shared} {σ : L2.St} {W : Wd} {x y : V} {v u : Value} {Q : VK} {p q r : PV} (I : Inv X pins σ W.H s) (rx : L2.RelV x v) (ry : L2.RelV y u)
    (rp : RelP E W p x) (rq : RelC E W q y) (e : Ev.ixP p q = some r) (k : ∀ z, RelP E W r z → Q z W.H) (hs : subscripted slice false v u = operate [v, u] (getItem v u)) : wpAny (model X.prog X.w) X.A (subscriptTail value slice v u) (L2.EP X pins σ Q) X.xe s := by
  cases p with
  | lst xs =>
    cases q with
    | int i =>
      cases rq
      have e : (match Ev.place xs.length i with | some j => xs[j]? | none => none) = some r := e
      cases z : Ev.place xs.length i with
      | none => rw [z] at e; cases e
      | some n =>
        rw [z] at e
        obtain ⟨a, ys, rfl, _, h, rs⟩ := rp
        obtain ⟨z', h1, h2⟩ := ix_items (W := W) (Rv := RelP E W) rs.length (fun m p hm => rs.get hm) z e
        exact L2.ix_list value slice pins s σ W.H _ _ v u Q I rx ry ⟨a, ys, i, z', rfl, rfl, SqL.of h, h1, k z' h2⟩ hs
    | _ => cases e
  | tup xs =>
    cases q with
    | int i =>
      cases rq
      have e : (match Ev.place xs.length i with | some j => xs[j]? | none => none) = some r := e
      cases z : Ev.place xs.length i with
      | none => rw [z] at e; cases e
      | some n =>
        rw [z] at e
        obtain ⟨a, ys, rfl, _, h, rs⟩ := rp
        obtain ⟨z', h1, h2⟩ := ix_items (W := W) (Rv := RelP E W) rs.length (fun m p hm => rs.get hm) z e
        exact L2.ix_tup value slice pins s σ W.H _ _ v u Q I rx ry ⟨a, ys, i, z', rfl, rfl, SqT.of h, h1, k z' h2⟩ hs
    | _ => cases e
  | str xs =>
    cases q with
    | int i =>
      cases rq; cases rp
      have e : (if Ev.fits xs.length = true then match Ev.place xs.length i with | some j => (xs[j]?).map fun c => PV.str [c] | none => none else none) = some r := e
      split at e
      · rename_i hf
        cases z : Ev.place xs.length i with
        | none => rw [z] at e; cases e
        | some n =>
          rw [z] at e
          obtain ⟨c, h1, rfl⟩ := Option.map_eq_some_iff.mp e
          exact L2.ix_str value slice pins s σ W.H _ _ v u Q I rx ry ⟨St' xs, i, c, rfl, rfl, by rw [st_len]; exact fits_ok hf, by rw [st_tl]; exact atI_of z h1, k _ rfl⟩ hs
      · cases e
    | _ => cases e
  | dic kvs =>
    obtain ⟨a, o, rfl, h, d⟩ := RelC.dv (RelC.of rp)
    cases rx
    have e : (if Ev.keyK q kvs then match Ev.lookP q kvs with
      | some (some v) => some v
      | _ => none else none) = some r := e
    split at e
    · rename_i hk
      cases z : Ev.lookP q kvs with
      | none => rw [z] at e; cases e
      | some o' =>
        cases o' with
        | none => rw [z] at e; cases e
        | some v' =>
          rw [z] at e
          cases e
          exact tail_any (dv_type I h d) slot_dict_getitem.lookup (d.item hp hw hu I h hk (relC_flat rq (keyK_np hk).1 (keyK_np hk).2) ry z fun y' w' s' I' r1 r2 => ⟨y', W.H, I', r2, k y' r1⟩) hs
    · cases e
  | lam l xs =>
    cases q with
    | int i =>
      cases rq
      have e : (match Ev.place xs.length i with | some j => xs[j]? | none => none) = some r := e
      cases z : Ev.place xs.length i with
      | none => rw [z] at e; cases e
      | some n =>
        rw [z] at e
        obtain ⟨a, ns, rfl, rfl, sc⟩ := rp
        have e : (List.map PV.int ns)[n]? = some r := e
        rw [List.getElem?_map] at e
        obtain ⟨m, e1, e2⟩ := Option.map_eq_some_iff.mp e
        rw [List.length_map] at z
        subst e2
        refine L2.ix_list value slice pins s σ W.H _ _ v u Q I rx ry ⟨a, ns.map V.int, i, .int m, rfl, rfl, sc.sq hK, atI_of (by rw [List.length_map]; exact z) (by rw [List.getElem?_map, e1]; rfl), k _ rfl⟩ hs
    | _ => cases e
  | _ => cases q <;> cases e
theorem opIx (hK : E.K = X.K) (hp : E.prog = X.prog) (hw : E.w = X.w) (hu : X.A.units + 64 < cLine) (nd : NoDun E.P (·.get)) : L2.IxR X (R2 E Wx σ' (Ev.ixV E.P C)) := by
  intro value slice pins s σ H x y v u Q I rx ry ⟨W, h, a, b, eH, rh, ra, rb, g⟩ hs
  subst eH
  have g : Go E W h (match Ev.dun E.P (·.get) h a with
    | some (some d) => C d [a, b] h
    | some none => .bad 17
    | none => match (generalizing := false) a with
      | .p x => match Ev.vw h b with
        | some j => Ev.ofO 17 (Ev.ixP x j) h
        | none => .bad 17
      | .r k => match Ev.getO h k, Ev.vw h b with
        | some (.lst xs), some (.int j) => match Ev.place xs.length j with
          | some n => match xs[n]? with
            | some v => .ok v h
            | none => .bad 17
          | none => .bad 17
        | some (.dic kvs), some j => if Ev.keyK j kvs then match Ev.lookP j kvs with
            | some (some v) => .ok v h
            | _ => .bad 17
          else .bad 17
        | _, _ => .bad 17) (KV E Q) (KX E Wx σ') := g
  rcases dun_none (P := E.P) (sel := (·.get)) nd (h := h) (v := a) with q | q
  · rw [q] at g
    cases eb : Ev.vw h b with
    | none =>
      rw [eb] at g
      cases a with
      | p a => exact g.elim
      | r i =>
        cases z : Ev.getO h i with
        | none => simp only [z] at g; exact g.elim
        | some o => simp only [z] at g; cases o <;> exact g.elim
    | some j =>
      rw [eb] at g
      have rj := vw_rel rh eb rb
      cases a with
      | p a =>
        obtain ⟨r, e, k⟩ := Go.ofO rh g
        exact ixP_run hK hp hw hu I rx ry ra rj e (k W (Af.refl rh)) hs
      | r i =>
        obtain ⟨_, rfl⟩ := ra
        cases z : Ev.getO h i with
        | none => simp only [z] at g; exact g.elim
        | some o =>
          simp only [z] at g
          cases o with
          | lst xs =>
            obtain ⟨ys, h1, r1⟩ := rh.lst z
            cases j with
            | int j =>
              cases rj
              have g : Go E W h (match Ev.place xs.length j with
                | some n => match xs[n]? with
                  | some v => .ok v h
                  | none => .bad 17
                | none => .bad 17) (KV E Q) (KX E Wx σ') := g
              cases z1 : Ev.place xs.length j with
              | none => rw [z1] at g; exact g.elim
              | some n =>
                simp only [z1] at g
                cases z2 : xs[n]? with
                | none => rw [z2] at g; exact g.elim
                | some w =>
                  rw [z2] at g
                  obtain ⟨z', h2, h3⟩ := ix_items (W := W) (Rv := RelVal E W h.length) r1.length (fun m p hm => r1.get hm) z1 z2
                  exact L2.ix_list value slice pins s σ W.H _ _ v u Q I rx ry ⟨_, ys, j, z', rfl, rfl, SqL.of h1, h2, Go.ok rh g z' h3⟩ hs
            | _ => exact g.elim
          | dic kvs =>
            obtain ⟨o, h1, d⟩ := rh.dic z
            have g : Go E W h (if Ev.keyK j kvs then match Ev.lookP j kvs with
              | some (some v) => .ok v h
              | _ => .bad 17
              else .bad 17) (KV E Q) (KX E Wx σ') := g
            cases rx
            split at g
            · rename_i hk
              cases z1 : Ev.lookP j kvs with
              | none => rw [z1] at g; exact g.elim
              | some o' =>
                cases o' with
                | none => rw [z1] at g; exact g.elim
                | some v' =>
                  rw [z1] at g
                  exact tail_any (dv_type I h1 d.dv) slot_dict_getitem.lookup (d.dv.item hp hw hu I h1 hk (relC_flat rj (keyK_np hk).1 (keyK_np hk).2) ry z1 fun y' w' s' I' r1 r2 => ⟨y', W.H, I', r2, Go.ok rh g y' r1⟩) hs
            · exact g.elim
          | _ => exact g.elim
  · rw [q] at g
    exact g.elim
theorem te_ix {a b : Expr} {ca cb : Ev.CE} {pos : Pos} (ho : ∀ σ', L2.IxR X (R2 E Wx σ' (Ev.ixV E.P C))) (ha : PEv E X Wx C a ca) (hb : PEv E X Wx C b cb) (hs : L2.PlainIx b) : PEv E X Wx C (.Subscript a b pos) (.ix ca cb) :=
  ⟨fun pins s σ H Q I h => (L2.pe_ix (ho σ) ha hb hs).run pins s σ H Q I (TR.two (ma := Ev.evE E.P C ca) (mb := Ev.evE E.P C cb) h)⟩
/-! ### slices -/
def TRo (E : En) (Wx : WX) (m : Sg → Hh → Res (Option Int)) : L2.St → Hp → (Option Int → Hp → Prop) → Prop := fun σ' H Q => ∃ (W : Wd) (σ : Sg) (h : Hh), W.H = H ∧ RelS E W h.length σ σ' ∧ RelH E W h ∧ Go E W h (m σ h) (fun o W _ => Q o W.H) (KX E Wx σ')
theorem po_none {m : Sg → Hh → Res (Option Int)} (hm : ∀ σ h, m σ h = .ok none h) : L2.PO X none (TRo E Wx m) := ⟨fun pins s σ' H Q I ⟨W, σ, h, e, r, rh, g⟩ => by
  subst e
  rw [hm] at g
  exact L2.po_none.run pins s σ' W.H Q I (Go.ok rh g)⟩
theorem po_some {e : Expr} {c : Ev.CE} (he : PEv E X Wx C e c) : L2.PO X (some e) (TRo E Wx (Ev.evO E.P C (.cons c .nil))) := ⟨fun pins s σ' H Q I ⟨W, σ, h, eH, r, rh, g⟩ => by
  subst eH
  refine (L2.po_some he).run pins s σ' W.H Q I ⟨W, σ, h, rfl, r, rh, ?_⟩
  have g : Go E W h ((Ev.evE E.P C c σ h).bind fun x h => match x with
    | .p (.int i) => .ok (some i) h
    | _ => .bad 42) (fun o W _ => Q o W.H) (KX E Wx σ') := g
  refine (Go.bind g).imp fun v W' h' a q x rx => ?_
  cases v with
  | r i => exact q.elim
  | p v =>
    cases v with
    | int i => cases rx; exact ⟨i, rfl, Go.ok a.rel q⟩
    | _ => exact q.elim⟩
theorem slr (E : En) (X : L2.Cx) (Wx : WX) (σ' : L2.St) : L2.SlR X (fun x lo hi H Q => ∃ (W : Wd) (h : Hh) (a : Val), W.H = H ∧ RelH E W h ∧ RelVal E W h.length a x ∧ Go E W h (match Ev.vw h a with
    | some v => Ev.ofO 33 (Ev.slP v lo hi) h
    | none => .bad 33) (KV E Q) (KX E Wx σ')) := by
  intro pins s σ H x v vl vu lo hi sl Q I rx hs pl pu ⟨W, h, a, eH, rh, ra, g⟩
  subst eH
  cases ea : Ev.vw h a with
  | none => rw [ea] at g; exact g.elim
  | some p =>
    rw [ea] at g
    have rp := vw_rel rh ea ra
    obtain ⟨r, e, k⟩ := Go.ofO rh g
    cases p with
    | lst xs =>
      cases e
      obtain ⟨l, ys, rfl, h1, r1⟩ := rp
      refine L2.sl_list pins s σ W.H _ v vl vu lo hi sl Q I rx hs pl pu ⟨l, ys, rfl, SqL.of h1, fun t ht => k _ (af_new rh ht) _ (new_lst rh ht ?_)⟩
      unfold Ev.cutL L2.cutV
      rw [loI_ix, hiI_ix, r1.length]
      exact (r1.drop _).take _
    | tup xs =>
      cases e
      obtain ⟨l, ys, rfl, f1, h1, r1⟩ := rp
      refine L2.sl_tupA pins s σ W.H _ v vl vu lo hi sl Q I rx hs pl pu ⟨l, ys, rfl, SqT.of h1, fun ⟨z1, z2⟩ => ?_, fun _ t ht => k _ (af_new rh ht) _ (new_tup rh ht ?_)⟩
      · refine k W (Af.refl rh) _ ?_
        rw [r1.length] at z1 z2
        unfold Ev.cutL
        rw [loI_ix, hiI_ix, z1, z2, List.drop_zero, Nat.sub_zero, List.take_length]
        exact ⟨l, ys, rfl, f1, h1, r1⟩
      · unfold Ev.cutL L2.cutV
        rw [loI_ix, hiI_ix, r1.length]
        exact (r1.drop _).take _
    | str xs =>
      cases rp
      have e : (if Ev.fits xs.length = true then some (PV.str (Ev.cutL xs lo hi)) else none) = some r := e
      split at e
      · rename_i hf
        cases e
        refine L2.sl_str pins s σ W.H _ v vl vu lo hi sl Q I rx hs pl pu ⟨St' xs, rfl, by rw [st_len]; exact fits_ok hf, ?_⟩
        have : L2.cutS (St' xs) lo hi = St' (Ev.cutL xs lo hi) := by
          unfold L2.cutS Ev.cutL
          rw [loI_ix, hiI_ix, st_len, st_tl]
        rw [this]
        exact k W (Af.refl rh) _ rfl
      · cases e
    | _ => cases e
theorem te_sl {a : Expr} {lo hi : Option Expr} {ca cl ch : Ev.CE} {p2 pos : Pos} (ha : PEv E X Wx C a ca) (hl : L2.PO X lo (TRo E Wx (Ev.evO E.P C cl))) (hh : L2.PO X hi (TRo E Wx (Ev.evO E.P C ch))) : PEv E X Wx C (.Subscript a (.Slice lo hi none p2) pos) (.sl ca cl ch) :=
  ⟨fun pins s σ' H Q I t => (L2.pe_slice (slr E X Wx σ') ha hl hh).run pins s σ' H Q I (by
    refine (TR.first (m := Ev.evE E.P C ca) (f := fun σ x h => (Ev.evO E.P C cl σ h).bind fun l h => (Ev.evO E.P C ch σ h).bind fun u h => match Ev.vw h x with
      | some v => Ev.ofO 33 (Ev.slP v l u) h
      | none => .bad 33) t).imp fun x H1 ⟨W, σ, h, v, e, r, rh, rv, g⟩ => ?_
    refine ⟨W, σ, h, e, r, rh, (Go.bind g).imp fun l W1 h1 a1 g1 => ⟨W1, σ, h1, rfl, a1.sg r, a1.rel, (Go.bind g1).imp fun u W2 h2 a2 g2 => ⟨W2, h2, v, rfl, a2.rel, a2.val (a1.val rv), g2⟩⟩⟩)⟩
end
end Sb
set_option Elab.async false
set_option linter.all false
set_option autoImplicit false
set_option maxRecDepth 100000
set_option maxHeartbeats 2000000
/-! # Sk: rows of arguments, displays, calls -/
namespace Sb
open PySem PySem.Spec
open PyProof.Rows hiding St
open L2 (V Hp HO upd upd_same upd_ne VK TE TT TA TS Ends WX XK PE PT PA PS PSs Inv OpR SqL SqT Dp Sp Room)
open Ev (PV Val MO Hh Sg Exc Res SR)
section
variable {E : En} {X : L2.Cx} {Wx : WX} {C : Ev.Call} {σ' : L2.St} {H : Hp}
theorem TRs.imp {m : Sg → Hh → Res (List Val)} {Q Q' : List V → Hp → Prop} (t : TRs E Wx m σ' H Q) (k : ∀ x H1, Q x H1 → Q' x H1) : TRs E Wx m σ' H Q' := by
  obtain ⟨W, σ, h, e, r, rh, g⟩ := t
  exact ⟨W, σ, h, e, r, rh, g.imp fun v W' h' _ q x rx => k x W'.H (q x rx)⟩
/-- a row, then the rest -/
theorem TRs.first {m : Sg → Hh → Res (List Val)} {f : Sg → List Val → Hh → Res Val} {Q : VK} (t : TR E Wx (fun σ h => (m σ h).bind (f σ)) σ' H Q) :
    TRs E Wx m σ' H fun x H1 => ∃ (W : Wd) (σ : Sg) (h : Hh) (v : List Val), W.H = H1 ∧ RelS E W h.length σ σ' ∧ RelH E W h ∧ RelVals E W h.length v x ∧ Go E W h (f σ v h) (KV E Q) (KX E Wx σ') := by
  obtain ⟨W, σ, h, e, r, rh, g⟩ := t
  exact ⟨W, σ, h, e, r, rh, (Go.bind g).imp fun v W' h' a q x rx => ⟨W', σ, h', v, rfl, a.sg r, a.rel, rx, q⟩⟩
theorem ta_nil : PAv E X Wx C [] .nil := pa_weak L2.pa_nil fun σ' H Q ⟨W, σ, h, e, r, rh, g⟩ => by
  subst e
  exact Go.ok (v := ([] : List Val)) rh g [] rfl
theorem ta_cons {e : Expr} {es : List Expr} {c cs : Ev.CE} (he : PEv E X Wx C e c) (hr : PAv E X Wx C es cs) (hs : starEach (e :: es) X.env = (false, eval e X.env) :: starEach es X.env := by rfl) : PAv E X Wx C (e :: es) (.cons c cs) :=
  pa_weak (L2.pa_cons he hr hs) fun σ' H Q ⟨W, σ, h, e, r, rh, g⟩ => by
    have g : Go E W h ((Ev.evE E.P C c σ h).bind fun x h => (Ev.evA E.P C cs σ h).bind fun xs h => .ok (x :: xs) h) (KVs E Q) (KX E Wx σ') := g
    refine ⟨W, σ, h, e, r, rh, (Go.bind g).imp fun v W1 h1 a1 g1 x rx => ⟨W1, σ, h1, rfl, a1.sg r, a1.rel, (Go.bind g1).imp fun vs W2 h2 a2 g2 xs rxs => ?_⟩⟩
    exact Go.ok a2.rel g2 (x :: xs) ⟨x, xs, rfl, a2.val rx, rxs⟩
theorem liftP_rel {W : Wd} {n : Nat} : ∀ {ps : List PV} {ys : List V}, RelPs E W ps ys → RelVals E W n (Ev.liftP ps) ys
  | [], _, r => r
  | _ :: _, _, ⟨y, t, e, h, r⟩ => ⟨y, t, e, h, liftP_rel r⟩
theorem RelVals.append {W : Wd} {n : Nat} : ∀ {xs xs' : List Val} {ys ys' : List V}, RelVals E W n xs ys → RelVals E W n xs' ys' → RelVals E W n (xs ++ xs') (ys ++ ys')
  | [], _, _, _, r, r' => by cases r; exact r'
  | _ :: _, _, _, _, ⟨y, t, e, h, r⟩, r' => by subst e; exact ⟨y, _, rfl, h, RelVals.append r r'⟩
theorem ta_star {e : Expr} {es : List Expr} {c cs : Ev.CE} {p : Pos} (he : PEv E X Wx C e c) (hr : PAv E X Wx C es cs) (hs : starEach (.Starred e p :: es) X.env = (true, eval e X.env) :: starEach es X.env := by rfl) : PAv E X Wx C (.Starred e p :: es) (.star c cs) :=
  pa_weak (StX.pa_star he hr hs) fun σ' H Q ⟨W, σ, h, e, r, rh, g⟩ => by
    have g : Go E W h ((Ev.evE E.P C c σ h).bind fun x h => match Ev.vw h x with
      | some v => match Ev.starOf v with
        | some ys => (Ev.evA E.P C cs σ h).bind fun xs h => .ok (Ev.liftP ys ++ xs) h
        | none => .bad 43
      | none => .bad 43) (KVs E Q) (KX E Wx σ') := g
    refine ⟨W, σ, h, e, r, rh, (Go.bind g).imp fun v W1 h1 a1 g1 x rx => ?_⟩
    cases ev : Ev.vw h1 v with
    | none => simp only [ev] at g1; exact g1.elim
    | some p =>
      simp only [ev] at g1
      have rp := vw_rel a1.rel ev rx
      have fin : ∀ (a : Addr) (ys : List PV) (zs : List V), RelPs E W1 ys zs → (SqT X.K W1.H a zs ∨ SqL X.K W1.H a zs) → x = .ref a → Go E W1 h1 ((Ev.evA E.P C cs σ h1).bind fun xs h => .ok (Ev.liftP ys ++ xs) h) (KVs E Q) (KX E Wx σ') →
          ∃ (p : Addr) (xs : List V), x = V.ref p ∧ (SqT X.K W1.H p xs ∨ SqL X.K W1.H p xs) ∧ TRs E Wx (Ev.evA E.P C cs) σ' W1.H fun ys H2 => Q (xs ++ ys) H2 := fun a ys zs rz hz ex g2 =>
        ⟨a, zs, ex, hz, W1, σ, h1, rfl, a1.sg r, a1.rel, (Go.bind g2).imp fun vs W2 h2 a2 g3 xs rxs => Go.ok a2.rel g3 (zs ++ xs) ((liftP_rel (rz.mono a2.ex)).append rxs)⟩
      cases p with
      | lst ys =>
        obtain ⟨a, zs, ex, hz, rz⟩ := rp
        exact fin a ys zs rz (.inr (SqL.of hz)) ex g1
      | tup ys =>
        obtain ⟨a, zs, ex, _, hz, rz⟩ := rp
        exact fin a ys zs rz (.inl (SqT.of hz)) ex g1
      | _ => exact g1.elim
/-! ### displays -/
theorem te_tup {es : List Expr} {cs : Ev.CE} {x1 pos} (h : PAv E X Wx C es cs) : PEv E X Wx C (.Tuple es x1 pos) (.tup cs) := pe_weak (L2.pe_tup h) fun σ' H Q t => by
  refine (TRs.first (m := Ev.evA E.P C cs) (f := fun _ vs h => match Ev.pures vs, Ev.okLen vs with
    | some xs, true => .ok (.p (.tup xs)) h
    | _, _ => .bad 35) t).imp fun xs H1 ⟨W, σ, h, vs, e, r, rh, rv, g⟩ => ?_
  subst e
  cases ep : Ev.pures vs with
  | none => simp only [ep] at g; exact g.elim
  | some ps =>
    simp only [ep] at g
    cases el : Ev.okLen vs with
    | false => simp only [el] at g; exact g.elim
    | true =>
      simp only [el] at g
      exact ⟨by rw [rv.length]; exact okLen_ok el, fun p hp => g _ (af_new rh hp) _ (new_tup rh hp (pures_rel ep rv))⟩
/-- a new list -/
theorem mkL_go {W : Wd} {h : Hh} {m : Bool} {vs : List Val} {xs : List V} {Q : VK} {KX : Exc → Wd → Prop} (rh : RelH E W h) (rv : RelVals E W h.length vs xs) (g : Go E W h (Ev.mkL m vs h) (KV E Q) KX) : xs.length ≤ sizeLine ∧ ∀ p, W.H p = none → Q (.ref p) (upd W.H p (.lst xs)) := by
  unfold Ev.mkL at g
  cases el : Ev.okLen vs with
  | false => rw [el] at g; exact g.elim
  | true =>
    rw [el] at g
    refine ⟨by rw [rv.length]; exact okLen_ok el, fun p hp => ?_⟩
    cases m with
    | true => exact g _ (af_mk rh hp ⟨xs, upd_same, rv.mono (ex_mk rh hp) (Nat.le_succ _) fun i hi => mk_rho hi⟩) (.ref p) (by
        rw [List.length_append]
        exact mk_val)
    | false =>
      cases ep : Ev.pures vs with
      | none => simp only [ep] at g; exact g.elim
      | some ps =>
        simp only [ep] at g
        exact g _ (af_new rh hp) _ (new_lst rh hp (pures_rel ep rv))
theorem te_lst {m : Bool} {es : List Expr} {cs : Ev.CE} {pos} (h : PAv E X Wx C es cs) : PEv E X Wx C (.List es pos) (.lst m cs) := pe_weak (L2.pe_lst h) fun σ' H Q t =>
  (TRs.first (m := Ev.evA E.P C cs) (f := fun _ vs h => Ev.mkL m vs h) t).imp fun xs H1 ⟨W, σ, h, vs, e, r, rh, rv, g⟩ => by
    subst e
    exact mkL_go rh rv g
end
end Sb
set_option Elab.async false
set_option linter.all false
set_option autoImplicit false
set_option maxRecDepth 100000
set_option maxHeartbeats 2000000
/-! # Sl: calls, methods, attributes, freezing, new instances -/
namespace Sb
open PySem PySem.Spec
open PyProof.Rows hiding St
open L2 (V Hp HO upd upd_same upd_ne VK TE TT TA TS Ends WX XK PE PT PA PS PSs Inv OpR SqL SqT Dp Sp Room)
open Ev (PV Val MO Hh Sg Exc Res SR)

/-- the promise of the def f, its calls k deep -/
def spEv (E : En) (k f : Nat) : Sp := fun vs H Q Ex => ∃ (W : Wd) (h : Hh) (as : List Val) (d : Ev.Def), W.H = H ∧ RelH E W h ∧ RelVals E W h.length as vs ∧ E.P.defs[f]? = some d ∧ d.star = false ∧ as.length = d.np ∧ Go E W h (Ev.callD E.P k f as h) (KV E Q) (fun e W' => ∀ C d, RelX E W' e C d → Ex C d W'.H)
/-- it keeps it, with every parameter given -/
structure FnK (E : En) (P : Program) (w : World) (K : PySem.W.Frag) (mg : Str → Option Value) (base : Heap) (k f : Nat) : Prop where
  ex : ∃ fd ps, L2.FnOk P w K mg base (L2.CX P w) (4 * k) (E.adr f) fd ps (spEv E k f) ∧ L2.Binds K fd ps []
  kp : PySem.W.keepIn K (.ref (E.adr f)) = true
/-- a def without defaults, without a star -/
def PlainD (P : Ev.Prog) (f : Nat) : Prop := ∃ d, P.defs[f]? = some d ∧ d.star = false ∧ d.dfl = []
theorem callD_np {P : Ev.Prog} {k f : Nat} {d : Ev.Def} {as : List Val} {h : Hh} (hl : Nat.ble 1000000 f = false) (hd : P.defs[f]? = some d) (hs : d.star = false) (hf : d.dfl = []) (hn : ∀ w, Ev.callD P k f as h ≠ .bad w) : as.length = d.np := by
  cases k with
  | zero => exact absurd rfl (hn 71)
  | succ k =>
    have e : Ev.bindArgs d as = none → False := fun z => by
      refine hn 74 ?_
      show (if Nat.ble 1000000 f = true then _ else _) = _
      rw [hl, if_neg (by decide), hd]
      simp only [z]
    by_cases q : as.length = d.np
    · exact q
    · exfalso
      apply e
      unfold Ev.bindArgs
      rw [hs, hf]
      have e1 : (as.length == d.np) = false := beq_eq_false_iff_ne.mpr q
      simp only [e1]
      have e2 : (Nat.blt as.length d.np && Nat.ble d.np (as.length + ([] : List PV).length)) = false := by
        rw [Bool.and_eq_false_iff]
        by_cases q2 : as.length < d.np
        · right
          rw [Bool.eq_false_iff]
          intro z
          have := Nat.le_of_ble_eq_true z
          simp at this
          omega
        · left
          rw [Bool.eq_false_iff]
          intro z
          exact q2 (blt_t.mp z)
      rw [if_neg (by decide), if_neg (by decide), if_neg (by rw [e2]; decide)]
section
variable {E : En} {X : L2.Cx} {Wx : WX} {σ' : L2.St} {H : Hp} {k f : Nat}
theorem Go.nbad {α : Type} {W : Wd} {h : Hh} {r : Res α} {J : α → Wd → Hh → Prop} {KX : Exc → Wd → Prop} (g : Go E W h r J KX) : ∀ w, r ≠ .bad w := fun w z => by subst z; exact g
theorem sp_of {W : Wd} {h : Hh} {as : List Val} {vs : List V} {Q : VK} (pd : PlainD E.P f) (hl : Nat.ble 1000000 f = false) (rh : RelH E W h) (rv : RelVals E W h.length as vs) (g : Go E W h (Ev.callD E.P k f as h) (KV E Q) (KX E Wx σ')) : spEv E k f vs W.H Q (L2.WE Wx σ') := by
  obtain ⟨d, hd, hs, hf⟩ := pd
  exact ⟨W, h, as, d, rfl, rh, rv, hd, hs, callD_np hl hd hs hf g.nbad, g⟩
theorem te_call {x : Str} {p pos : Pos} {e : Expr} {es : List Expr} {cs : Ev.CE} (F : FnK E X.prog X.w X.K X.mg X.base k f) (pd : PlainD E.P f) (hl : Nat.ble 1000000 f = false) (hr : Room (4 * k) X.A) (hg : L2.Gl X x) (hm : X.mg x = some (.ref (E.adr f))) (tk : L2.Takes X Wx)
    (ha : PAv E X Wx (Ev.callD E.P k) (e :: es) cs) (hdb : (x == ("__debug__" : Str)) = false := by decide) (he : starEach (e :: es) X.env = (false, eval e X.env) :: starEach es X.env := by rfl) (hpl : (backTo pos (starEach es X.env)).any (·.1) = false := by rfl) :
    PEv E X Wx (Ev.callD E.P k) (.Call (.Name x p) (e :: es) [] pos) (.call f cs) := by
  obtain ⟨fd, ps, F1, b⟩ := F.ex
  refine pe_weak (L2.pe_callSD F1 hr hg hm F.kp b .nil (fun σ => L2.passAt tk σ) ha hdb he hpl) fun σ' H Q t => ?_
  refine (TRs.first (m := Ev.evA E.P (Ev.callD E.P k) cs) (f := fun _ vs h => Ev.callD E.P k f vs h) t).imp fun xs H1 ⟨W, σ, h, vs, e, r, rh, rv, g⟩ => ?_
  subst e
  rw [List.append_nil]
  exact sp_of pd hl rh rv g
theorem te_call0 {x : Str} {p pos : Pos} (F : FnK E X.prog X.w X.K X.mg X.base k f) (pd : PlainD E.P f) (hl : Nat.ble 1000000 f = false) (hr : Room (4 * k) X.A) (hg : L2.Gl X x) (hm : X.mg x = some (.ref (E.adr f))) (tk : L2.Takes X Wx) (hdb : (x == ("__debug__" : Str)) = false := by decide) :
    PEv E X Wx (Ev.callD E.P k) (.Call (.Name x p) [] [] pos) (.call f .nil) := by
  obtain ⟨fd, ps, F1, b⟩ := F.ex
  refine ⟨fun pins s σ' H Q I ⟨W, σ, h, e, r, rh, g⟩ => ?_⟩
  subst e
  have g : Go E W h (Ev.callD E.P k f [] h) (KV E Q) (KX E Wx σ') := g
  refine wpAny_Call_Name_kw (L2.ld_glob I hg hm ?_ hdb)
  exact PySem.W.callWith_K0 I.kIn F.kp (L2.run_fnSD (us := []) (vs := []) (dvs := []) F1 hr b .nil (L2.passAt tk σ') I .nil (sp_of (as := []) (vs := []) pd hl rh rfl g))

/-! ### attributes -/
theorem look_fs {W : Wd} {n : Nat} {m : Nat} : ∀ {fs : List (Nat × Val)} {ys : List (Str × V)}, RelFs E W n fs ys → (∀ v, Ev.lookF m fs = some v → ∃ y, ys.lookup (E.fnm m) = some y ∧ RelVal E W n v y) ∧ (Ev.lookF m fs = none → ys.lookup (E.fnm m) = none)
  | [], _, r => by cases r; exact ⟨(fun _ z => nomatch z), fun _ => rfl⟩
  | (g, v) :: fs, _, ⟨y, t, e, h1, h2⟩ => by
    subst e
    show (∀ u, (if (m == g) = true then some v else Ev.lookF m fs) = some u → _) ∧ ((if (m == g) = true then some v else Ev.lookF m fs) = none → _)
    rw [List.lookup_cons]
    by_cases q : m = g
    · subst q
      rw [if_pos (by simp), beq_self_eq_true]
      exact ⟨fun u hu => by cases hu; exact ⟨y, rfl, h1⟩, (fun z => nomatch z)⟩
    · rw [if_neg (by simpa using q), show (E.fnm m == E.fnm g) = false from beq_eq_false_iff_ne.mpr fun z => q (E.inj _ _ z)]
      exact look_fs h2
/-- the attributes of a pure instance -/
theorem look_ins {W : Wd} {m : Nat} : ∀ {fs : List Nat} {vs : List PV} {ys : List V}, RelPs E W vs ys → vs.length = fs.length → (∀ v, Ev.fldAt fs vs m = some v → ∃ y, ((fs.map E.fnm).zip ys).lookup (E.fnm m) = some y ∧ RelP E W v y) ∧ (fs.contains m = false → ((fs.map E.fnm).zip ys).lookup (E.fnm m) = none)
  | [], _, _, r, hl => ⟨(fun _ z => by cases z), fun _ => rfl⟩
  | f :: fs, [], _, r, hl => by cases hl
  | f :: fs, v :: vs, _, ⟨y, t, e, h1, h2⟩, hl => by
    subst e
    show (∀ u, (if (f == m) = true then some v else Ev.fldAt fs vs m) = some u → _) ∧ _
    show (∀ u, _ → ∃ y', ((E.fnm f, y) :: (fs.map E.fnm).zip t).lookup (E.fnm m) = some y' ∧ _) ∧ (_ → ((E.fnm f, y) :: (fs.map E.fnm).zip t).lookup (E.fnm m) = none)
    rw [List.lookup_cons]
    have ih := look_ins (m := m) h2 (Nat.succ.inj hl)
    by_cases q : f = m
    · subst q
      rw [if_pos (by simp), beq_self_eq_true]
      exact ⟨fun u hu => by cases hu; exact ⟨y, rfl, h1⟩, fun z => absurd z (by simp)⟩
    · rw [if_neg (by simpa using q), show (E.fnm m == E.fnm f) = false from beq_eq_false_iff_ne.mpr fun z => q (E.inj _ _ z.symm)]
      exact ⟨ih.1, fun z => ih.2 (by simp at z; simpa using z.2)⟩
theorem fieldsOf_eq {c : Nat} {D : Ev.Cls} (h : E.P.clss[c]? = some D) : fieldsOf E c = D.fields.map E.fnm := by unfold fieldsOf; rw [h]
theorem fldAt_mem {m : Nat} : ∀ {fs : List Nat} {vs : List PV} {v : PV}, Ev.fldAt fs vs m = some v → m ∈ fs
  | [], _, _, e => by cases e
  | f :: fs, [], _, e => by cases e
  | f :: fs, v :: vs, w, e => by
    have e : (if (f == m) = true then some v else Ev.fldAt fs vs m) = some w := e
    split at e
    · rename_i h
      rw [beq_iff_eq.mp h]
      exact List.mem_cons_self
    · exact List.mem_cons_of_mem _ (fldAt_mem e)
/-- the classes that have this attribute -/
def FldK (E : En) (K : PySem.W.Frag) (m : Nat) : Prop := ∀ (c : Nat) (D : Ev.Cls), E.P.clss[c]? = some D → D.fields.contains m = true → L2.Cls K (E.cad c) ∧ L2.NoAttr K (E.cad c) (E.fnm m)
def NoProp (P : Ev.Prog) (m : Nat) : Prop := ∀ (c : Nat) (D : Ev.Cls), P.clss[c]? = some D → Ev.lookN m D.props = none
theorem te_fld {C : Ev.Call} {e : Expr} {ce : Ev.CE} {m : Nat} {f : Str} {pos : Pos} (he : PEv E X Wx C e ce) (hf : E.fnm m = f) (F : FldK E X.K m) (np : NoProp E.P m) (hb : attributeBase e f X.env (eval e X.env) = eval e X.env) : PEv E X Wx C (.Attribute e f pos) (.fld ce m) := pe_weak (L2.pe_fld he hb) fun σ' H Q t => by
  refine (TR.one (ma := Ev.evE E.P C ce) (f := fun x h => Ev.getFld E.P C x m h) t).imp fun x H1 ⟨W, h, v, e, rh, rv, g⟩ => ?_
  subst e hf
  cases v with
  | p v =>
    cases v with
    | ins c vs =>
      obtain ⟨a, dx, ys, rfl, _, h1, hl, rs⟩ := rv
      have g : Go E W h (match E.P.clss[c]? with
        | some K => match K.fields.contains m with
          | true => Ev.ofO 7 (Ev.fldAt K.fields vs m) h
          | false => match Ev.lookN m K.props with
            | some d => C d [.p (.ins c vs)] h
            | none => .bad 7
        | none => .bad 7) (KV E Q) (KX E Wx σ') := g
      cases q : E.P.clss[c]? with
      | none => rw [q] at g; exact g.elim
      | some D =>
        simp only [q] at g
        cases q2 : D.fields.contains m with
        | false => simp only [q2, np c D q] at g; exact g.elim
        | true =>
          simp only [q2] at g
          obtain ⟨c1, c2⟩ := F c D q q2
          obtain ⟨r, e, k⟩ := Go.ofO rh g
          rw [fieldsOf_eq q] at h1 hl
          rw [List.length_map] at hl
          obtain ⟨y, l, ry⟩ := (look_ins (m := m) rs hl).1 r e
          exact ⟨a, _, dx, _, y, rfl, h1, c1, c2, l, k W (Af.refl rh) y ry⟩
    | _ => exact g.elim
  | r i =>
    obtain ⟨_, rfl⟩ := rv
    have g : Go E W h (match Ev.getO h i with
      | some (.ins c fs) => match E.P.clss[c]? with
        | some K => match K.fields.contains m with
          | true => match Ev.lookF m fs with
            | some v => .ok v h
            | none => .bad 8
          | false => match Ev.lookN m K.props with
            | some d => C d [.r i] h
            | none => .bad 8
        | none => .bad 8
      | _ => .bad 8) (KV E Q) (KX E Wx σ') := g
    cases z : Ev.getO h i with
    | none => simp only [z] at g; exact g.elim
    | some o =>
      simp only [z] at g
      cases o with
      | ins c fs =>
        obtain ⟨dx, ys, h1, rs⟩ := rh.ins z
        cases q : E.P.clss[c]? with
        | none => simp only [q] at g; exact g.elim
        | some D =>
          simp only [q] at g
          cases q2 : D.fields.contains m with
          | false => simp only [q2, np c D q] at g; exact g.elim
          | true =>
            simp only [q2] at g
            obtain ⟨c1, c2⟩ := F c D q q2
            cases q3 : Ev.lookF m fs with
            | none => simp only [q3] at g; exact g.elim
            | some u =>
              simp only [q3] at g
              obtain ⟨y, l, ry⟩ := (look_fs (m := m) rs).1 u q3
              exact ⟨_, _, dx, ys, y, rfl, h1, c1, c2, l, Go.ok rh g y ry⟩
      | _ => exact g.elim

/-! ### methods -/
/-- the classes that have this method, at these defs -/
def MetK (E : En) (K : PySem.W.Frag) (m : Nat) : Prop := ∀ (c : Nat) (D : Ev.Cls) (d : Nat), E.P.clss[c]? = some D → Ev.lookN m D.meths = some d → L2.Cls K (E.cad c) ∧ L2.Meth K (E.cad c) (E.fnm m) (E.adr d)
def MetD (P : Ev.Prog) (m : Nat) : Prop := ∀ (c : Nat) (D : Ev.Cls) (d : Nat), P.clss[c]? = some D → Ev.lookN m D.meths = some d → PlainD P d ∧ Nat.ble 1000000 d = false
theorem meth_of {W : Wd} {h : Hh} {m d : Nat} {v : Val} {x : V} {K : PySem.W.Frag} (M : MetK E K m) (rh : RelH E W h) (rv : RelVal E W h.length v x) (e : Ev.methOf E.P m v h = some d) :
    ∃ a c dx fs, x = .ref a ∧ W.H a = some (.ins (E.cad c) dx fs) ∧ fs.lookup (E.fnm m) = none ∧ L2.Cls K (E.cad c) ∧ L2.Meth K (E.cad c) (E.fnm m) (E.adr d) := by
  cases v with
  | p v =>
    cases v with
    | ins c vs =>
      obtain ⟨a, dx, ys, rfl, _, h1, hl, rs⟩ := rv
      have e : (match E.P.clss[c]? with
        | some K => if K.fields.contains m then none else Ev.lookN m K.meths
        | none => none) = some d := e
      cases q : E.P.clss[c]? with
      | none => rw [q] at e; cases e
      | some D =>
        simp only [q] at e
        split at e
        · cases e
        · rename_i q2
          obtain ⟨c1, c2⟩ := M c D d q e
          rw [fieldsOf_eq q] at h1 hl
          rw [List.length_map] at hl
          exact ⟨a, c, dx, _, rfl, h1, (look_ins (m := m) rs hl).2 (by simpa using q2), c1, c2⟩
    | _ => cases e
  | r i =>
    obtain ⟨_, rfl⟩ := rv
    have e : (match Ev.getO h i with
      | some (.ins c fs) => match E.P.clss[c]? with
        | some K => match Ev.lookF m fs with
          | some _ => none
          | none => Ev.lookN m K.meths
        | none => none
      | _ => none) = some d := e
    cases z : Ev.getO h i with
    | none => simp only [z] at e; cases e
    | some o =>
      simp only [z] at e
      cases o with
      | ins c fs =>
        obtain ⟨dx, ys, h1, rs⟩ := rh.ins z
        cases q : E.P.clss[c]? with
        | none => simp only [q] at e; cases e
        | some D =>
          simp only [q] at e
          cases q3 : Ev.lookF m fs with
          | some u => simp only [q3] at e; cases e
          | none =>
            simp only [q3] at e
            obtain ⟨c1, c2⟩ := M c D d q e
            exact ⟨_, c, dx, ys, rfl, h1, (look_fs (m := m) rs).2 q3, c1, c2⟩
      | _ => cases e
theorem meth_pd {h : Hh} {m d : Nat} {v : Val} (pd : MetD E.P m) (q : Ev.methOf E.P m v h = some d) : PlainD E.P d ∧ Nat.ble 1000000 d = false := by
  cases v with
  | p v =>
    cases v with
    | ins c vs =>
      have e : (match E.P.clss[c]? with
        | some K => if K.fields.contains m then none else Ev.lookN m K.meths
        | none => none) = some d := q
      cases q : E.P.clss[c]? with
      | none => rw [q] at e; cases e
      | some D =>
        simp only [q] at e
        split at e
        · cases e
        · exact pd c D d q e
    | _ => cases q
  | r i =>
    have e : (match Ev.getO h i with
      | some (.ins c fs) => match E.P.clss[c]? with
        | some K => match Ev.lookF m fs with
          | some _ => none
          | none => Ev.lookN m K.meths
        | none => none
      | _ => none) = some d := q
    cases z : Ev.getO h i with
    | none => simp only [z] at e; cases e
    | some o =>
      simp only [z] at e
      cases o with
      | ins c fs =>
        cases q : E.P.clss[c]? with
        | none => simp only [q] at e; cases e
        | some D =>
          simp only [q] at e
          cases q3 : Ev.lookF m fs with
          | some u => simp only [q3] at e; cases e
          | none => simp only [q3] at e; exact pd c D d q e
      | _ => cases e
theorem te_meth {o e : Expr} {es : List Expr} {co cs : Ev.CE} {m : Nat} {x : Str} {apos pos : Pos} {pl : Sem Bool} (F : ∀ d, FnK E X.prog X.w X.K X.mg X.base k d) (pd : MetD E.P m) (M : MetK E X.K m) (hx : E.fnm m = x) (hr : Room (4 * k) X.A) (tk : L2.Takes X Wx)
    (ho : PEv E X Wx (Ev.callD E.P k) o co) (ha : PAv E X Wx (Ev.callD E.P k) (e :: es) cs)
    (hst : starEach (e :: es) X.env = (false, eval e X.env) :: starEach es X.env := by rfl) (hpl : (backTo pos (starEach es X.env)).any (·.1) = false := by rfl)
    (ht : eval (.Call (.Attribute o x apos) (e :: es) [] pos) X.env = (do
      let ov ← eval o X.env
      standAt apos.atName
      let (f, first) ← holding [ov] (getMethod ov x pl)
      callWith pos f first (backTo pos (starEach (e :: es) X.env)) (backToKw pos (keywordEach [] X.env))) := by rfl) :
    PEv E X Wx (Ev.callD E.P k) (.Call (.Attribute o x apos) (e :: es) [] pos) (.meth co m cs) := by
  subst hx
  refine ⟨fun pins s σ' H Q I t => ?_⟩
  have t := TR.first (m := Ev.evE E.P (Ev.callD E.P k) co) (f := fun σ x h => match Ev.methOf E.P m x h with
    | some d => (Ev.evA E.P (Ev.callD E.P k) cs σ h).bind fun vs h => Ev.callD E.P k d (x :: vs) h
    | none => .bad 37) t
  refine PySem.W.methodCall_KW (pl := pl) (L2.thn (ho.run pins s σ' H _ I t) fun u s1 ⟨x, H1, I1, rx, W, σ, h, v, eH, r, rh, rv, g⟩ => ?_) ht
  subst eH
  cases q : Ev.methOf E.P m v h with
  | none => simp only [q] at g; exact g.elim
  | some d =>
    simp only [q] at g
    obtain ⟨a, c, dx, fs, rfl, h1, l, c1, c2⟩ := meth_of M rh rv q
    obtain rfl : u = Value.ref a := rx
    obtain ⟨fd, ps, F1, b⟩ := (F d).ex
    have pdd := meth_pd pd q
    refine L2.getmeth_ok I1 h1 c1 c2 l ?_
    have ta : TRs E Wx (Ev.evA E.P (Ev.callD E.P k) cs) σ' W.H fun vs H2 => spEv E k d (.ref a :: vs) H2 Q (L2.WE Wx σ') := ⟨W, σ, h, rfl, r, rh, (Go.bind g).imp fun vs W2 h2 a2 g2 xs rxs => sp_of (as := v :: vs) (vs := .ref a :: xs) pdd.1 pdd.2 a2.rel ⟨.ref a, xs, rfl, a2.val rv, rxs⟩ g2⟩
    refine PySem.W.callWith_K (first := [.ref a]) (h₀ := X.base) I1.ok.mod.kin c2.kp (L2.thn (ha.run pos pins s1 σ' W.H _ I1 ta) fun us s2 ⟨vs, H2, I2, r, q2⟩ => ⟨I2.kIn, ?_⟩) hst hpl
    exact L2.run_fnSD (us := .ref a :: us) (vs := .ref a :: vs) (dvs := []) F1 hr b .nil (L2.passAt tk σ') I2 (.cons rfl r) (by rw [List.append_nil]; exact q2)
theorem te_meth0 {o : Expr} {co : Ev.CE} {m : Nat} {x : Str} {apos pos : Pos} {pl : Sem Bool} (F : ∀ d, FnK E X.prog X.w X.K X.mg X.base k d) (pd : MetD E.P m) (M : MetK E X.K m) (hx : E.fnm m = x) (hr : Room (4 * k) X.A) (tk : L2.Takes X Wx)
    (ho : PEv E X Wx (Ev.callD E.P k) o co)
    (ht : eval (.Call (.Attribute o x apos) [] [] pos) X.env = (do
      let ov ← eval o X.env
      standAt apos.atName
      let (f, first) ← holding [ov] (getMethod ov x pl)
      callWith pos f first (backTo pos (starEach [] X.env)) (backToKw pos (keywordEach [] X.env))) := by rfl) :
    PEv E X Wx (Ev.callD E.P k) (.Call (.Attribute o x apos) [] [] pos) (.meth co m .nil) := by
  subst hx
  refine ⟨fun pins s σ' H Q I t => ?_⟩
  have t := TR.first (m := Ev.evE E.P (Ev.callD E.P k) co) (f := fun σ x h => match Ev.methOf E.P m x h with
    | some d => (Ev.evA E.P (Ev.callD E.P k) .nil σ h).bind fun vs h => Ev.callD E.P k d (x :: vs) h
    | none => .bad 37) t
  refine PySem.W.methodCall_KW (pl := pl) (L2.thn (ho.run pins s σ' H _ I t) fun u s1 ⟨x, H1, I1, rx, W, σ, h, v, eH, r, rh, rv, g⟩ => ?_) ht
  subst eH
  cases q : Ev.methOf E.P m v h with
  | none => simp only [q] at g; exact g.elim
  | some d =>
    simp only [q] at g
    obtain ⟨a, c, dx, fs, rfl, h1, l, c1, c2⟩ := meth_of M rh rv q
    obtain rfl : u = Value.ref a := rx
    obtain ⟨fd, ps, F1, b⟩ := (F d).ex
    have pdd := meth_pd pd q
    refine L2.getmeth_ok I1 h1 c1 c2 l ?_
    exact PySem.W.callWith_K0 (first := [.ref a]) I1.kIn c2.kp (L2.run_fnSD (us := [.ref a]) (vs := [.ref a]) (dvs := []) F1 hr b .nil (L2.passAt tk σ') I1 (.cons rfl .nil) (sp_of (as := [v]) (vs := [.ref a]) pdd.1 pdd.2 rh ⟨.ref a, [], rfl, rv, rfl⟩ g))
end
end Sb
set_option Elab.async false
set_option linter.all false
set_option autoImplicit false
set_option maxRecDepth 100000
set_option maxHeartbeats 2000000
/-! # Sm: statements -/
namespace Sb
open PySem PySem.Spec
open PyProof.Rows hiding St
open L2 (V Hp HO upd upd_same upd_ne VK TE TT TA TS Ends WX XK PE PT PA PS PSs Inv OpR SqL SqT Dp Sp Room)
open Ev (PV Val MO Hh Sg Exc Res SR)

def GoS (E : En) (W : Wd) (h : Hh) (r : SR) (D : Ends) (Wx : WX) : Prop := match r with
  | .nx σ1 h1 => ∀ W', Af E W h W' h1 → ∀ σ1', RelS E W' h1.length σ1 σ1' → D.nx σ1' W'.H
  | .rt v h1 => ∀ W', Af E W h W' h1 → ∀ x, RelVal E W' h1.length v x → D.rt x W'.H
  | .bk σ1 h1 => ∀ W', Af E W h W' h1 → ∀ σ1', RelS E W' h1.length σ1 σ1' → D.bk σ1' W'.H
  | .ct σ1 h1 => ∀ W', Af E W h W' h1 → ∀ σ1', RelS E W' h1.length σ1 σ1' → D.ct σ1' W'.H
  | .exc e σ1 h1 => ∀ W', Af E W h W' h1 → ∀ σ1', RelS E W' h1.length σ1 σ1' → ∀ C d, RelX E W' e C d → Wx C d σ1' W'.H
  | .bad _ => False
def TRS (E : En) (Wx : WX) (m : Sg → Hh → SR) : TS := fun D σ' H => ∃ (W : Wd) (σ : Sg) (h : Hh), W.H = H ∧ RelS E W h.length σ σ' ∧ RelH E W h ∧ GoS E W h (m σ h) D Wx
abbrev PSv (E : En) (X : L2.Cx) (Wx : WX) (C : Ev.Call) (s : Stmt) (c : Ev.CS) : Prop := PS X s (TRS E Wx (Ev.exS E.P C c))
abbrev PSsv (E : En) (X : L2.Cx) (Wx : WX) (C : Ev.Call) (s : List Stmt) (c : Ev.CS) : Prop := PSs X s (TRS E Wx (Ev.exS E.P C c))
section
variable {E : En} {X : L2.Cx} {Wx : WX} {C : Ev.Call} {σ' : L2.St} {H : Hp} {W W1 : Wd} {h h1 : Hh} {D D' : Ends}
theorem GoS.later {r : SR} (a : Af E W h W1 h1) (g : GoS E W h r D Wx) : GoS E W1 h1 r D Wx := by
  cases r with
  | nx σ h' => exact fun W' b => g W' (a.trans b)
  | rt v h' => exact fun W' b => g W' (a.trans b)
  | bk σ h' => exact fun W' b => g W' (a.trans b)
  | ct σ h' => exact fun W' b => g W' (a.trans b)
  | exc e σ h' => exact fun W' b => g W' (a.trans b)
  | bad w => exact g
theorem GoS.nx {σ : Sg} {σ1' : L2.St} (rh : RelH E W h) (r : RelS E W h.length σ σ1') (g : GoS E W h (.nx σ h) D Wx) : D.nx σ1' W.H := g W (Af.refl rh) σ1' r
theorem GoS.rt {v : Val} {x : V} (rh : RelH E W h) (r : RelVal E W h.length v x) (g : GoS E W h (.rt v h) D Wx) : D.rt x W.H := g W (Af.refl rh) x r
/-- an expression, then the rest -/
theorem TRS.first {m : Sg → Hh → Res Val} {f : Sg → Val → Hh → SR} (t : TRS E Wx (fun σ h => Ev.srE (m σ h) σ (f σ)) D σ' H) :
    TR E Wx m σ' H fun x H1 => ∃ (W : Wd) (σ : Sg) (h : Hh) (v : Val), W.H = H1 ∧ RelS E W h.length σ σ' ∧ RelH E W h ∧ RelVal E W h.length v x ∧ GoS E W h (f σ v h) D Wx := by
  obtain ⟨W, σ, h, e, r, rh, g⟩ := t
  refine ⟨W, σ, h, e, r, rh, ?_⟩
  have g : GoS E W h (Ev.srE (m σ h) σ (f σ)) D Wx := g
  cases q : m σ h with
  | ok v h1 =>
    rw [q] at g
    exact fun W' a x rx => ⟨W', σ, h1, v, rfl, a.sg r, a.rel, rx, GoS.later a g⟩
  | exc ex h1 =>
    rw [q] at g
    exact fun W' a Cc d rx => g W' a σ' (a.sg r) Cc d rx
  | bad w => rw [q] at g; exact g
theorem TRS.firstA {m : Sg → Hh → Res (List Val)} {f : Sg → List Val → Hh → SR} (t : TRS E Wx (fun σ h => Ev.srA (m σ h) σ (f σ)) D σ' H) :
    TRs E Wx m σ' H fun x H1 => ∃ (W : Wd) (σ : Sg) (h : Hh) (v : List Val), W.H = H1 ∧ RelS E W h.length σ σ' ∧ RelH E W h ∧ RelVals E W h.length v x ∧ GoS E W h (f σ v h) D Wx := by
  obtain ⟨W, σ, h, e, r, rh, g⟩ := t
  refine ⟨W, σ, h, e, r, rh, ?_⟩
  have g : GoS E W h (Ev.srA (m σ h) σ (f σ)) D Wx := g
  cases q : m σ h with
  | ok v h1 =>
    rw [q] at g
    exact fun W' a x rx => ⟨W', σ, h1, v, rfl, a.sg r, a.rel, rx, GoS.later a g⟩
  | exc ex h1 =>
    rw [q] at g
    exact fun W' a Cc d rx => g W' a σ' (a.sg r) Cc d rx
  | bad w => rw [q] at g; exact g
/-! ### blocks -/
theorem tss_nil : PSsv E X Wx C [] .skip := pss_weak L2.pss_nil fun D σ' H ⟨W, σ, h, e, r, rh, g⟩ => by
  subst e
  exact GoS.nx rh r g
theorem tss_one {s : Stmt} {c : Ev.CS} (h1 : PSv E X Wx C s c) : PSsv E X Wx C [s] c := L2.pss_one h1
theorem tss_cons {s : Stmt} {r : List Stmt} {c cs : Ev.CS} (h1 : PSv E X Wx C s c) (h2 : PSsv E X Wx C r cs) : PSsv E X Wx C (s :: r) (.seq c cs) := pss_weak (L2.pss_cons h1 h2) fun D σ' H ⟨W, σ, h, e, r, rh, g⟩ => by
  refine ⟨W, σ, h, e, r, rh, ?_⟩
  have g : GoS E W h (match Ev.exS E.P C c σ h with
    | .nx σ h => Ev.exS E.P C cs σ h
    | r => r) D Wx := g
  cases q : Ev.exS E.P C c σ h with
  | nx σ1 h1 =>
    rw [q] at g
    exact fun W' a σ1' r1 => ⟨W', σ1, h1, rfl, r1, a.rel, GoS.later a g⟩
  | rt v h1 => rw [q] at g; exact g
  | bk σ1 h1 => rw [q] at g; exact g
  | ct σ1 h1 => rw [q] at g; exact g
  | exc ex σ1 h1 => rw [q] at g; exact g
  | bad w => rw [q] at g; exact g
/-- a docstring ahead -/
theorem tss_doc {x j pos pos'} {r : List Stmt} {cs : Ev.CS} (h2 : PSsv E X Wx C r cs) : PSsv E X Wx C (.Expr (.Constant (.str x) j pos) pos' :: r) cs := pss_weak (L2.pss_cons L2.ps_doc h2) fun D σ' H t => t
theorem ts_pass {pos} : PSv E X Wx C (.Pass pos) .skip := ps_weak L2.ps_pass fun D σ' H ⟨W, σ, h, e, r, rh, g⟩ => by
  subst e
  exact GoS.nx rh r g
theorem ts_brk {pos} : PSv E X Wx C (.Break pos) .brk := ps_weak L2.ps_break fun D σ' H ⟨W, σ, h, e, r, rh, g⟩ => by
  subst e
  exact g W (Af.refl rh) σ' r
theorem ts_cnt {pos} : PSv E X Wx C (.Continue pos) .cnt := ps_weak L2.ps_continue fun D σ' H ⟨W, σ, h, e, r, rh, g⟩ => by
  subst e
  exact g W (Af.refl rh) σ' r
theorem ts_never {s : Stmt} : PSv E X Wx C s .hnil := ps_weak L2.ps_never fun D σ' H ⟨W, σ, h, e, r, rh, g⟩ => g
theorem ts_expr {e : Expr} {c : Ev.CE} {pos : Pos} (he : PEv E X Wx C e c) (hs : swapsWith e none pos.line X.env = pure false := by rfl) : PSv E X Wx C (.Expr e pos) (.ex c) := ps_weak (L2.ps_expr he hs) fun D σ' H t =>
  (TRS.first (m := Ev.evE E.P C c) (f := fun σ _ h => .nx σ h) t).imp fun x H1 ⟨W, σ, h, v, e, r, rh, rv, g⟩ => by
    subst e
    exact GoS.nx rh r g
theorem ts_ret {e : Expr} {c : Ev.CE} {pos : Pos} (he : PEv E X Wx C e c) : PSv E X Wx C (.Return (some e) pos) (.ret c) := ps_weak (L2.ps_ret he) fun D σ' H t =>
  (TRS.first (m := Ev.evE E.P C c) (f := fun σ v h => .rt v h) t).imp fun x H1 ⟨W, σ, h, v, e, r, rh, rv, g⟩ => by
    subst e
    exact GoS.rt rh rv g
theorem ts_retN {pos : Pos} : PSv E X Wx C (.Return none pos) (.ret (.cst .non)) := ps_weak L2.ps_retN fun D σ' H ⟨W, σ, h, e, r, rh, g⟩ => by
  subst e
  exact GoS.rt (v := .p .non) rh rfl g
theorem ts_if {t : Expr} {a b : List Stmt} {ct : Ev.CE} {ca cb : Ev.CS} {pos : Pos} (ht : PTv E X Wx C t ct) (ha : PSsv E X Wx C a ca) (hb : PSsv E X Wx C b cb) : PSv E X Wx C (.If t a b pos) (.ifs ct ca cb) := ps_weak (L2.ps_if ht ha hb) fun D σ' H t =>
  (TRS.first (m := Ev.evE E.P C ct) (f := fun σ v h => match v with
    | .p (.bl true) => Ev.exS E.P C ca σ h
    | .p (.bl false) => Ev.exS E.P C cb σ h
    | _ => .bad 65) t).imp fun x H1 ⟨W, σ, h, v, e, r, rh, rv, g⟩ => by
    cases v with
    | r i => exact g.elim
    | p v =>
      cases v with
      | bl c =>
        refine ⟨c, rv, ?_⟩
        cases c with
        | true => exact ⟨W, σ, h, e, r, rh, g⟩
        | false => exact ⟨W, σ, h, e, r, rh, g⟩
      | _ => exact g.elim
/-! ### stores -/
theorem ts_set {e : Expr} {c : Ev.CE} {i : Nat} {x : Str} {pos pos' : Pos} (hN : X.N.Nodup) (hi : X.N[i]? = some x) (hx : L2.Loc X.env.scope x) (he : PEv E X Wx C e c) (hs : swapsWith e (some (.Name x pos')) pos.line X.env = pure false := by rfl) (hf : X.fn x = true ∨ X.env.scope.names.lookup x = some .local := by first | exact .inl rfl | exact .inr rfl | assumption) :
    PSv E X Wx C (.Assign [.Name x pos'] e pos) (.asg (.nm i .nil) c) := ps_weak (L2.ps_set hN hi hx he hs hf) fun D σ' H t =>
  (TRS.first (m := Ev.evE E.P C c) (f := fun σ v h => .nx (σ.set i (some v)) h) t).imp fun x H1 ⟨W, σ, h, v, e, r, rh, rv, g⟩ => by
    subst e
    exact GoS.nx rh (r.set i rv) g
theorem putFs_rel {n m : Nat} {v : Val} {y : V} (rv : RelVal E W n v y) : ∀ {fs : List (Nat × Val)} {ys : List (Str × V)}, RelFs E W n fs ys → RelFs E W n (Ev.putFs m v fs) (L2.putF (E.fnm m) y ys)
  | [], _, r => by cases r; exact ⟨y, [], rfl, rv, rfl⟩
  | (g, u) :: fs, _, ⟨z, t, e, h1, h2⟩ => by
    subst e
    by_cases q : m = g
    · subst q
      have e1 : Ev.putFs m v ((m, u) :: fs) = (m, v) :: fs := by show (if (m == m) = true then _ else _) = _; rw [if_pos (by simp)]
      have e2 : L2.putF (E.fnm m) y ((E.fnm m, z) :: t) = (E.fnm m, y) :: t := by simp [L2.putF]
      rw [e1, e2]
      exact ⟨y, t, rfl, rv, h2⟩
    · have e1 : Ev.putFs m v ((g, u) :: fs) = (g, u) :: Ev.putFs m v fs := by show (if (m == g) = true then _ else _) = _; rw [if_neg (by simpa using q)]
      have e2 : L2.putF (E.fnm m) y ((E.fnm g, z) :: t) = (E.fnm g, z) :: L2.putF (E.fnm m) y t := by
        have ne : ¬ E.fnm g = E.fnm m := fun z => q (E.inj _ _ z).symm
        simp [L2.putF, ne]
      rw [e1, e2]
      exact ⟨z, _, rfl, h1, putFs_rel rv h2⟩
theorem RelFs.length {n : Nat} : ∀ {fs : List (Nat × Val)} {ys : List (Str × V)}, RelFs E W n fs ys → ys.length = fs.length
  | [], _, r => by cases r; rfl
  | (_, _) :: _, _, ⟨y, t, e, _, r⟩ => by subst e; simp [RelFs.length r]
theorem getO_W {i : Nat} {o : MO} (e : Ev.getW h i = some o) : Ev.getO h i = some o := by
  unfold Ev.getW at e
  unfold Ev.getO
  cases q : Ev.getR h i with
  | none => rw [q] at e; cases e
  | some u =>
    rw [q] at e
    cases u <;> first | exact e | cases e
theorem ts_setF {o e : Expr} {co ce : Ev.CE} {m : Nat} {f : Str} {pos pos' : Pos} (ho : PEv E X Wx C o co) (he : PEv E X Wx C e ce) (hf : E.fnm m = f) (F : FldK E X.K m) (hs : swapsWith e (some (.Attribute o f pos')) pos.line X.env = pure false := by rfl) :
    PSv E X Wx C (.Assign [.Attribute o f pos'] e pos) (.asg (.fld co m .nil) ce) := ps_weak (L2.ps_fld ho he hs) fun D σ' H t =>
  (TRS.first (m := Ev.evE E.P C ce) (f := fun σ v h => Ev.srE (Ev.evE E.P C co σ h) σ fun a h => Ev.srE (Ev.setFld E.P a m v h) σ fun _ h => .nx σ h) t).imp fun y H1 ⟨W, σ, h, v, e, r, rh, rv, g⟩ => by
    have t2 : TRS E Wx (fun σ2 h2 => Ev.srE (Ev.evE E.P C co σ h2) σ fun a h => Ev.srE (Ev.setFld E.P a m v h) σ fun _ h => .nx σ h) D σ' H1 := ⟨W, σ, h, e, r, rh, g⟩
    have g : GoS E W h (Ev.srE (Ev.evE E.P C co σ h) σ fun a h => Ev.srE (Ev.setFld E.P a m v h) σ fun _ h => .nx σ h) D Wx := g
    refine ⟨W, σ, h, e, r, rh, ?_⟩
    cases q : Ev.evE E.P C co σ h with
    | bad w => rw [q] at g; exact g
    | exc ex h1 => rw [q] at g; exact fun W' a Cc d rx => g W' a σ' (a.sg r) Cc d rx
    | ok b h1 =>
      rw [q] at g
      refine fun W' a x rx => ?_
      have g : GoS E W' h1 (Ev.srE (Ev.setFld E.P b m v h1) σ fun _ h => .nx σ h) D Wx := GoS.later a g
      cases b with
      | p b => exact g.elim
      | r k =>
        obtain ⟨_, rfl⟩ := rx
        unfold Ev.setFld at g
        simp only at g
        cases z : Ev.getW h1 k with
        | none => simp only [z] at g; exact g.elim
        | some ob =>
          simp only [z] at g
          cases ob with
          | ins c fs =>
            obtain ⟨dx, ys, h2, rs⟩ := a.rel.ins (getO_W z)
            cases z2 : E.P.clss[c]? with
            | none => simp only [z2] at g; exact g.elim
            | some K =>
              simp only [z2] at g
              cases z3 : K.fields.contains m && Nat.blt fs.length 1000 with
              | false => simp only [z3] at g; exact g.elim
              | true =>
                simp only [z3] at g
                obtain ⟨f1, f2⟩ := Bool.and_eq_true_iff.mp z3
                obtain ⟨c1, c2⟩ := F c K z2 f1
                rw [hf] at c2
                refine ⟨_, _, dx, ys, rfl, h2, c1, c2, by rw [rs.length]; exact blt_t.mp f2, ?_⟩
                have rv1 := a.val rv
                have af : Af E W' h1 (W'.chg k (.ins (E.cad c) dx (L2.putF f y ys))) (h1.set k (some (.ins c (Ev.putFs m v fs)))) := af_chg a.rel z ⟨dx, _, upd_same, by
                  rw [← hf]
                  exact putFs_rel (rv1.mono (ex_chg a.rel (getW_R z)) (Nat.le_refl _) fun _ _ => rfl) (rs.mono (ex_chg a.rel (getW_R z)) (Nat.le_refl _) fun _ _ => rfl)⟩
                exact g _ af σ' (af.sg (a.sg r))
          | _ => exact g.elim
end
end Sb
set_option Elab.async false
set_option linter.all false
set_option autoImplicit false
set_option maxRecDepth 100000
set_option maxHeartbeats 2000000
/-! # So: walks over dicts, whatever their keys -/
namespace Sb
open PySem PySem.Spec
open PyProof.Rows hiding St
open L2 (V Hp HO upd upd_same upd_ne VK TE TT TA TS TI Ends PE PI Inv It Turn FpOk RelV Vals)
/-- what a frozen dict shows: its keys, its values -/
def Shows (E : En) (d : Addr) (o : HO) (kx vx : List V) : Prop := (∃ ks : List (L2.Key × V), o = .dK ks ∧ kx = ks.map (fun q => L2.kV q.1) ∧ vx = ks.map (·.2)) ∨ ∃ ks bs, o = DicN E d ks bs vx ∧ ks.length = bs.length ∧ bs.length = vx.length ∧ kx = bs.map V.ref
def FzD (E : En) (H : Hp) (d : Addr) (ob : Obj) (kx vx : List V) : Prop := ∃ o, H d = some (.frz ob o) ∧ Shows E d o kx vx
theorem FzD.len {E : En} {H : Hp} {d : Addr} {ob : Obj} {kx vx : List V} (h : FzD E H d ob kx vx) : kx.length = vx.length := by
  obtain ⟨o, _, s⟩ := h
  rcases s with ⟨ks, _, rfl, rfl⟩ | ⟨ks, bs, _, h1, h2, rfl⟩
  · simp
  · simp [h2]
section
variable {E : En} {X : L2.Cx} {pins : List (Addr × Obj)} {σ : L2.St} {H : Hp} {s : Shared} {d : Addr} {ob : Obj} {kx vx : List V}
theorem paired_pt {α β : Type} {R : α → β → Prop} : ∀ {xs : List α} {ys : List β} {i : Nat} {y : β}, Paired R xs ys → ys[i]? = some y → ∃ x, xs[i]? = some x ∧ R x y
  | _, _, i, y, .nil, e => by simp at e
  | _, _, 0, y, .cons h t, e => by simp at e; subst e; exact ⟨_, rfl, h⟩
  | _, _, i + 1, y, .cons h t, e => by
    obtain ⟨x, e1, e2⟩ := paired_pt (i := i) t (by simpa using e)
    exact ⟨x, by simpa using e1, e2⟩
theorem fzD_at (I : Inv X pins σ H s) (h : FzD E H d ob kx vx) : (d == sysModules) = false ∧ ∃ es ep, ob.data = .dict es ep ∧ s.heap.DictRaw d es ep ∧ es.size = kx.length ∧ ∀ (i : Nat) (hi : i < es.size), ∃ x y, kx[i]? = some x ∧ vx[i]? = some y ∧ RelV x es[i].key ∧ RelV y es[i].val := by
  obtain ⟨o, h1, sh⟩ := h
  have ho := I.hok d _ h1
  rcases sh with ⟨ks, rfl, rfl, rfl⟩ | ⟨ks, bs, rfl, l1, l2, rfl⟩
  · obtain ⟨hd, _, hs, vs, kv, dd⟩ := ho
    obtain ⟨es, ep, raw, hsz, at_⟩ := dd.raw
    obtain ⟨o', ho', hx, hdt⟩ := id raw
    rw [hd] at ho'
    cases ho'
    have hl := Paired.length kv
    refine ⟨hs, es, ep, hdt, raw, by rw [hsz, List.length_map, ← hl], fun i hi => ?_⟩
    have hv : i < vs.length := by omega
    obtain ⟨q1, q2⟩ := at_ i hi vs[i].1 vs[i].2 (List.getElem?_eq_getElem hv)
    obtain ⟨⟨k, y⟩, hk, r1, r2⟩ := paired_pt kv (List.getElem?_eq_getElem hv)
    have r1 : k = vs[i].1 := r1
    refine ⟨L2.kV k, y, by simp [hk], by simp [hk], ?_, by rw [q2]; exact r2⟩
    rw [r1]
    exact L2.relV_key (show L2.keyIs vs[i].1 es[i].key = true from q1)
  · obtain ⟨hd, ⟨hs, _, us, rv, o', es, ep, ho', hx, hdt, he, _⟩, _⟩ := ho
    rw [hd] at ho'
    cases ho'
    have lu := rv.length
    have hsz : es.size = bs.length := by
      have := congrArg List.length he
      simp at this
      omega
    refine ⟨hs, es, ep, hdt, ⟨_, hd, hx, hdt⟩, by rw [hsz, List.length_map], fun i hi => ?_⟩
    have hb : i < bs.length := by omega
    have hu : i < us.length := by omega
    have hk : i < ks.length := by omega
    have q : es.toList[i]? = some (entryOfKey (nestedKind E.prog E.w) (ks[i], (bs[i], us[i]))) := by
      have z : (ks.zip (bs.zip us))[i]? = some (ks[i], (bs[i], us[i])) := List.getElem?_zip_eq_some.mpr ⟨List.getElem?_eq_getElem hk, List.getElem?_zip_eq_some.mpr ⟨List.getElem?_eq_getElem hb, List.getElem?_eq_getElem hu⟩⟩
      rw [he, List.getElem?_map, z]
      rfl
    have q2 : es[i] = entryOfKey (nestedKind E.prog E.w) (ks[i], (bs[i], us[i])) := by
      have : es.toList[i]? = some es[i] := by simp [hi]
      rw [this] at q
      exact Option.some.inj q
    obtain ⟨y, hy, ry⟩ := paired_pt rv (List.getElem?_eq_getElem hu)
    exact ⟨.ref bs[i], y, by simp [List.getElem?_eq_getElem hb], hy, by rw [q2]; rfl, by rw [q2]; exact ry⟩
end
def Wk (E : En) (d : Addr) (ob : Obj) (kx vx zx : List V) : It :=
  ⟨fun i H => FzD E H d ob kx vx ∧ i < zx.length, fun i H x H' => H' = H ∧ zx[i]? = some x, fun i H => FzD E H d ob kx vx ∧ zx.length ≤ i⟩
def Wi (E : En) (d : Addr) (ob : Obj) (kx vx : List V) : It :=
  ⟨fun i H => FzD E H d ob kx vx ∧ i < kx.length, fun i H x H' => ∃ T k v, kx[i]? = some k ∧ vx[i]? = some v ∧ x = .ref T ∧ H T = none ∧ H' = upd H T (.tup [k, v]), fun i H => FzD E H d ob kx vx ∧ kx.length ≤ i⟩
section
variable {E : En} {P : Program} {w : World} {K : PySem.W.Frag} {tg : Expr} {d : Addr} {ob : Obj} {kx vx : List V} {es : Array DictEntry} {ep : Nat}
theorem lone {P : Addr → Prop} {it : Addr} (h : P it) : ∀ b ∈ [it], P b := fun b hb => by
  have e : b = it := by simpa using hb
  rw [e]
  exact h
theorem wk_keys (it : Addr) (hod : ob.data = .dict es ep) : Turn P w K tg (Wk E d ob kx vx kx) [it] it (fun i h => h.IsKeyIter it d i kx.length ep) where
  mem := by simp
  obj := fun i h st => lone (P := fun b => ∃ o, h.get? b = some o ∧ ∀ v, o.data ≠ .cell v) (by
    obtain ⟨oi, e, c, dd⟩ := st
    exact ⟨oi, e, fun v z => by rw [dd] at z; cases z⟩)
  keep := fun i h h' st k => st.at fun oi e => k it (by simp) oi e
  item := fun X hP hw hK hc i pins s σ H Ex I hf st hg => by
    subst hP hw hK
    obtain ⟨fz, hi⟩ := hg
    obtain ⟨f0, f1, f2, f3, f4, f5⟩ := hf it (by simp)
    obtain ⟨hs, es', ep', hdt, raw, hsz, at_⟩ := fzD_at I fz
    obtain ⟨rfl, rfl⟩ := L2.dict_ep hod hdt
    rw [← hsz] at st hi
    obtain ⟨x, y, hx, hy, rx, ry⟩ := at_ i hi
    refine wpAny_pyNext_keys_item_raw st raw hi fun h' st' sb => ?_
    have I1 : Inv X pins σ H { s with heap := h' } := I.turned (t' := s.toks) (fun b o hb e => (sb.2 b hb).trans e) f0 f1 f3 f4 f5
    obtain ⟨oi, e, c, dd⟩ := id st'
    exact ⟨_, rfl, L2.go_of (s := { s with heap := h' }) e c dd (by decide) ⟨x, H, I1, rx, ⟨rfl, hx⟩, by rw [← hsz]; exact st', fun b hb => (hf b hb).1⟩⟩
  done := fun X hP hw hK hc i pins s σ H Ex I hf st hg => by
    subst hP hw hK
    obtain ⟨fz, hi⟩ := hg
    obtain ⟨f0, f1, f2, f3, f4, f5⟩ := hf it (by simp)
    obtain ⟨hs, es', ep', hdt, raw, hsz, at_⟩ := fzD_at I fz
    obtain ⟨rfl, rfl⟩ := L2.dict_ep hod hdt
    rw [← hsz] at st hi
    exact wpAny_pyNext_keys_end_raw (I.ok.hd hc) st raw hi fun h' eb => ⟨rfl, I.turned (t' := s.toks) (fun b o hb e => eb b o hb e) f0 f1 f3 f4 f5⟩
  self := fun A i s Q Ex st h => wpAny_pyIter_keyiter st h
theorem wk_vals (it : Addr) (hod : ob.data = .dict es ep) : Turn P w K tg (Wk E d ob kx vx vx) [it] it (fun i h => h.IsValIter it d i kx.length ep) where
  mem := by simp
  obj := fun i h st => lone (P := fun b => ∃ o, h.get? b = some o ∧ ∀ v, o.data ≠ .cell v) (by
    obtain ⟨oi, e, c, dd⟩ := st
    exact ⟨oi, e, fun v z => by rw [dd] at z; cases z⟩)
  keep := fun i h h' st k => st.at fun oi e => k it (by simp) oi e
  item := fun X hP hw hK hc i pins s σ H Ex I hf st hg => by
    subst hP hw hK
    obtain ⟨fz, hi⟩ := hg
    have hi : i < kx.length := by rw [fz.len]; exact hi
    obtain ⟨f0, f1, f2, f3, f4, f5⟩ := hf it (by simp)
    obtain ⟨hs, es', ep', hdt, raw, hsz, at_⟩ := fzD_at I fz
    obtain ⟨rfl, rfl⟩ := L2.dict_ep hod hdt
    rw [← hsz] at st hi
    obtain ⟨x, y, hx, hy, rx, ry⟩ := at_ i hi
    refine wpAny_pyNext_values_item_raw st raw hi fun h' st' sb => ?_
    have I1 : Inv X pins σ H { s with heap := h' } := I.turned (t' := s.toks) (fun b o hb e => (sb.2 b hb).trans e) f0 f1 f3 f4 f5
    obtain ⟨oi, e, c, dd⟩ := id st'
    exact ⟨_, rfl, L2.go_of (s := { s with heap := h' }) e c dd (by decide) ⟨y, H, I1, ry, ⟨rfl, hy⟩, by rw [← hsz]; exact st', fun b hb => (hf b hb).1⟩⟩
  done := fun X hP hw hK hc i pins s σ H Ex I hf st hg => by
    subst hP hw hK
    obtain ⟨fz, hi⟩ := hg
    have hi : kx.length ≤ i := by rw [fz.len]; exact hi
    obtain ⟨f0, f1, f2, f3, f4, f5⟩ := hf it (by simp)
    obtain ⟨hs, es', ep', hdt, raw, hsz, at_⟩ := fzD_at I fz
    obtain ⟨rfl, rfl⟩ := L2.dict_ep hod hdt
    rw [← hsz] at st hi
    exact wpAny_pyNext_values_end_raw (I.ok.hd hc) st raw hi fun h' eb => ⟨rfl, I.turned (t' := s.toks) (fun b o hb e => eb b o hb e) f0 f1 f3 f4 f5⟩
  self := fun A i s Q Ex st h => wpAny_pyIter_valiter st h
theorem wk_items {elts : List Expr} {kk : Nat} {tpos : Pos} (it : Addr) (hod : ob.data = .dict es ep) : Turn P w K (.Tuple elts kk tpos) (Wi E d ob kx vx) [it] it (fun i h => ∃ ok ov, IsItemIter h it d i kx.length ep ok ov) where
  mem := by simp
  obj := fun i h st => lone (P := fun b => ∃ o, h.get? b = some o ∧ ∀ v, o.data ≠ .cell v) (by
    obtain ⟨ok, ov, e⟩ := st
    exact ⟨_, e, fun v z => nomatch z⟩)
  keep := fun i h h' st k => let ⟨ok, ov, e⟩ := st; ⟨ok, ov, k it (by simp) _ e⟩
  item := fun X hP hw hK hc i pins s σ H Ex I hf st hg => by
    subst hP hw hK
    obtain ⟨fz, hi⟩ := hg
    obtain ⟨hs, es', ep', hdt, raw, hsz, at_⟩ := fzD_at I fz
    obtain ⟨rfl, rfl⟩ := L2.dict_ep hod hdt
    obtain ⟨ok, ov, he⟩ := st
    rw [← hsz] at he hi
    obtain ⟨x, y, hx, hy, rx, ry⟩ := at_ i hi
    have hlt : it < s.heap.objs.size := Heap.lt_size he
    refine wpAny_pyNext_items_item_raw he raw hi fun h' ho hT hz hk => ⟨_, rfl, wpAny_letOwnedTupleGo_items (s := { s with heap := h' }) ho fun h2 he' sb => ?_⟩
    have hT2 := (sb.2 _ (Nat.ne_of_gt hlt)).trans hT
    have new : L2.ObjOk X.prog X.w (upd H s.heap.objs.size (.tup [x, y])) h2 s.heap.objs.size (.tup [x, y]) := ⟨by show 2 ≤ sizeLine; decide, [_, _], .cons rx (.cons ry .nil), ⟨_, hT2, rfl, _, rfl⟩⟩
    have I1 := I.turnedNew (t' := s.toks) (ch := [it]) (fun b o hb e => (sb.2 b (by simpa using hb)).trans (hk b o (by simpa using hb) e)) hf (Nat.le_refl _) new
    refine ⟨.ref s.heap.objs.size, _, I1, rfl, ⟨_, x, y, hx, hy, rfl, I.hok.fresh (Nat.le_refl _), rfl⟩, ⟨_, _, by rw [← hsz]; exact he'⟩, ?_⟩
    refine lone (P := fun b => upd H s.heap.objs.size (.tup [x, y]) b = none) ?_
    rw [upd_ne (Nat.ne_of_lt hlt)]
    exact (hf it (by simp)).1
  done := fun X hP hw hK hc i pins s σ H Ex I hf st hg => by
    subst hP hw hK
    obtain ⟨fz, hi⟩ := hg
    obtain ⟨f0, f1, f2, f3, f4, f5⟩ := hf it (by simp)
    obtain ⟨hs, es', ep', hdt, raw, hsz, at_⟩ := fzD_at I fz
    obtain ⟨rfl, rfl⟩ := L2.dict_ep hod hdt
    obtain ⟨ok, ov, he⟩ := st
    rw [← hsz] at he hi
    exact wpAny_pyNext_items_end_raw (I.ok.hd hc) he raw hi fun h' eb => ⟨rfl, I.turned (t' := s.toks) (fun b o hb e => eb b o hb e) f0 f1 f3 f4 f5⟩
  self := fun A i s Q Ex st h => let ⟨_, _, e⟩ := st; PySem.W.kcp_self e h
end
section
variable {E : En} {X : L2.Cx} {tg e : Expr} {td : TE} {apos cpos : Pos}
/-- a frozen dict -/
def tFz (E : En) (td : TE) (k : Addr → Obj → List V → List V → Hp → Prop) : L2.St → Hp → Prop := fun σ H => td σ H fun x H1 => ∃ d ob kx vx, x = .ref d ∧ FzD E H1 d ob kx vx ∧ k d ob kx vx H1
theorem wi_keys (he : PE X e td) : PI X tg e (fun σ H R => tFz E td (fun d ob kx vx H1 => R (Wk E d ob kx vx kx) H1) σ H) := ⟨fun pins s σ H R I h =>
  L2.thn (he.run pins s σ H _ I h) fun u s1 ⟨x, H1, I1, rx, d, ob, kx, vx, ex, fz, q⟩ => by
    subst ex
    obtain rfl : u = Value.ref d := rx
    obtain ⟨hs, es, ep, hdt, raw, hsz, _⟩ := fzD_at I1 fz
    exact wpAny_pyIter_dict_raw hs raw (L2.pi_one (tk := s1.toks) I1 _ (wk_keys _ hdt) ⟨_, Heap.get?_push_size _ rfl, rfl, by rw [hsz] <;> rfl⟩ q)⟩
theorem wi_vals (he : PE X e td) (hbase : attributeBase e "values" X.env (eval e X.env) = eval e X.env := by rfl) (hline : (apos.endLine == cpos.line) = true := by rfl) :
    PI X tg (.Call (.Attribute e "values" apos) [] [] cpos) (fun σ H R => tFz E td (fun d ob kx vx H1 => R (Wk E d ob kx vx vx) H1) σ H) := ⟨fun pins s σ H R I h => by
  refine wpAny_Call_method (T := "dict") (id := "dict.values") hbase rfl hline F.plainAttrs_dict F.slot_dict_values F.type_dict_values (L2.thn (he.run pins s σ H _ I h) fun u s1 ⟨x, H1, I1, rx, d, ob, kx, vx, ex, fz, q⟩ => ?_)
  subst ex
  obtain rfl : u = Value.ref d := rx
  obtain ⟨hs, es, ep, hdt, raw, hsz, _⟩ := fzD_at I1 fz
  obtain ⟨o, ho, hx, _⟩ := id raw
  refine ⟨raw.typeIs, fun b hb => by cases hb; exact ⟨o, ho, hx.2.1⟩, ?_⟩
  have I2 : Inv X pins σ H1 { s1 with heap := s1.heap.push { cls := .type "dict_values", data := .fields #[.ref d] } } := I1.kept (t' := s1.toks) fun b o q => Heap.get?_push_of_some _ q
  refine method_meetsIn F.slot_dict_values F.entry_dict_values rfl (PySem.evalArgs_none ⟨rfl, raw.typeIs, F.args_dict_values_1 _, _, meets_dict_values_raw d hs, ⟨es, ep, raw⟩, ?_⟩)
  exact wpAny_pyIter_values_raw (d := d) ⟨_, Heap.get?_push_size _ rfl, rfl, rfl⟩ (raw.at fun o e => Heap.get?_push_of_some _ e) (L2.pi_one (tk := s1.toks) I2 _ (wk_vals _ hdt) ⟨_, Heap.get?_push_size _ rfl, rfl, by rw [hsz] <;> rfl⟩ q)⟩
theorem wi_items {elts : List Expr} {kk : Nat} {tpos : Pos} (he : PE X e td) (hbase : attributeBase e "items" X.env (eval e X.env) = eval e X.env := by rfl) (hline : (apos.endLine == cpos.line) = true := by rfl) :
    PI X (.Tuple elts kk tpos) (.Call (.Attribute e "items" apos) [] [] cpos) (fun σ H R => tFz E td (fun d ob kx vx H1 => R (Wi E d ob kx vx) H1) σ H) := ⟨fun pins s σ H R I h => by
  refine wpAny_Call_method (T := "dict") (id := "dict.items") hbase rfl hline F.plainAttrs_dict F.slot_dict_items F.type_dict_items (L2.thn (he.run pins s σ H _ I h) fun u s1 ⟨x, H1, I1, rx, d, ob, kx, vx, ex, fz, q⟩ => ?_)
  subst ex
  obtain rfl : u = Value.ref d := rx
  obtain ⟨hs, es, ep, hdt, raw, hsz, _⟩ := fzD_at I1 fz
  obtain ⟨o, ho, hx, _⟩ := id raw
  refine ⟨raw.typeIs, fun b hb => by cases hb; exact ⟨o, ho, hx.2.1⟩, ?_⟩
  have I2 : Inv X pins σ H1 { s1 with heap := s1.heap.push { cls := .type "dict_items", data := .fields #[.ref d] } } := I1.kept (t' := s1.toks) fun b o q => Heap.get?_push_of_some _ q
  refine method_meetsIn F.slot_dict_items F.entry_dict_items rfl (PySem.evalArgs_none ⟨rfl, raw.typeIs, F.args_dict_items_1 _, _, meets_dict_items_raw d hs, ⟨es, ep, raw⟩, ?_⟩)
  exact wpAny_pyIter_items_raw (d := d) ⟨_, Heap.get?_push_size _ rfl, rfl, rfl⟩ (raw.at fun o e => Heap.get?_push_of_some _ e) (L2.pi_one (tk := s1.toks) I2 _ (wk_items _ hdt) ⟨.none, .none, by rw [← hsz]; exact Heap.get?_push_size _ rfl⟩ q)⟩
end
end Sb
set_option Elab.async false
set_option linter.all false
set_option autoImplicit false
set_option maxRecDepth 100000
set_option maxHeartbeats 2000000
/-! # Sn: what is gone through; targets; for, while -/
namespace Sb
open PySem PySem.Spec
open PyProof.Rows hiding St
open L2 (V Hp HO upd upd_same upd_ne VK TE TT TA TS TI TG TGs Ends WX XK PE PT PA PS PSs PI PG PGs Inv OpR SqL SqT Dp Sp Room It)
open Ev (PV Val MO Hh Sg Exc Res SR)
section
variable {E : En} {X : L2.Cx} {Wx : WX} {C : Ev.Call} {σ' : L2.St} {H : Hp} {W W' W1 W2 : Wd} {h h' h1 h2 : Hh}
/-! ### locks -/
theorem getW_lck {i j : Nat} {o u : MO} (e : Ev.getW h i = some o) (q : Ev.getW (h.set i (some (.lck o))) j = some u) : i ≠ j ∧ Ev.getW h j = some u := by
  by_cases hj : i = j
  · subst hj
    unfold Ev.getW at q
    rw [getR_set, if_pos ⟨rfl, getR_lt (getW_R e)⟩] at q
    cases q
  · exact ⟨hj, getW_set u q hj⟩
/-- a list is locked -/
theorem af_lock {i : Nat} {xs : List Val} (rh : RelH E W h) (e : Ev.getW h i = some (.lst xs)) : Af E W h W (h.set i (some (.lck (.lst xs)))) where
  rel := by
    have eR := getW_R e
    refine ⟨rh.tab, rh.frz, fun j o q => ?_, fun j o q => ?_, fun j k o u q1 q2 z => ?_⟩
    · rw [List.length_set]
      rw [getR_set] at q
      by_cases hj : i = j ∧ i < h.length
      · rw [if_pos hj] at q
        cases q
        obtain ⟨rfl, _⟩ := hj
        have r := rh.live i _ eR
        exact r
      · rw [if_neg hj] at q
        exact rh.live j o q
    · rw [getR_set] at q
      by_cases hj : i = j ∧ i < h.length
      · obtain ⟨rfl, _⟩ := hj
        exact rh.out i _ eR
      · rw [if_neg hj] at q
        exact rh.out j o q
    · have key : ∀ {j o}, Ev.getR (h.set i (some (.lck (.lst xs)))) j = some o → ∃ o', Ev.getR h j = some o' := fun {j o} q => by
        rw [getR_set] at q
        by_cases hj : i = j ∧ i < h.length
        · obtain ⟨rfl, _⟩ := hj
          exact ⟨_, eR⟩
        · rw [if_neg hj] at q
          exact ⟨o, q⟩
      obtain ⟨o1, e1⟩ := key q1
      obtain ⟨o2, e2⟩ := key q2
      exact rh.inj j k o1 o2 e1 e2 z
  len := by rw [List.length_set]; exact Nat.le_refl _
  rho := fun _ _ => rfl
  ex := Ex.refl W
  keep := fun a o q _ _ => q
  fro := fun a z => .inl z
  dom := fun a o q => ⟨o, q⟩
  old := fun j u _ q => ⟨u, (getW_lck e q).2⟩
  oldR := fun j u _ q => by
    rw [getR_set] at q
    by_cases hj : i = j ∧ i < h.length
    · obtain ⟨rfl, _⟩ := hj
      exact ⟨_, getW_R e⟩
    · rw [if_neg hj] at q
      exact ⟨u, q⟩
  new := fun j u hl q => absurd (getR_lt q) (by rw [List.length_set]; omega)
/-- the lock is taken off again -/
theorem af_lend {i : Nat} {xs ys : List Val} (e : Ev.getW h i = some (.lst xs)) (a : Af E W (h.set i (some (.lck (.lst xs)))) W' h') (e' : Ev.getR h' i = some (.lck (.lst ys))) : Af E W h W' (h'.set i (some (.lst ys))) where
  rel := by
    have key : ∀ {j o}, Ev.getR (h'.set i (some (MO.lst ys))) j = some o → (i = j ∧ o = MO.lst ys) ∨ (i ≠ j ∧ Ev.getR h' j = some o) := fun {j o} q => by
      rw [getR_set] at q
      by_cases hj : i = j
      · subst hj
        rw [if_pos ⟨rfl, getR_lt e'⟩] at q
        cases q
        exact .inl ⟨rfl, rfl⟩
      · rw [if_neg (fun z => hj z.1)] at q
        exact .inr ⟨hj, q⟩
    have key2 : ∀ {j o}, Ev.getR (h'.set i (some (MO.lst ys))) j = some o → ∃ u, Ev.getR h' j = some u := fun {j o} q => by
      rcases key q with ⟨rfl, _⟩ | ⟨_, q⟩
      · exact ⟨_, e'⟩
      · exact ⟨o, q⟩
    refine ⟨a.rel.tab, a.rel.frz, fun j o q => ?_, fun j o q => ?_, fun j k o u q1 q2 z => ?_⟩
    · rw [List.length_set]
      rcases key q with ⟨rfl, rfl⟩ | ⟨_, q⟩
      · have r := a.rel.live i _ e'
        exact r
      · exact a.rel.live j o q
    · rcases key q with ⟨rfl, rfl⟩ | ⟨_, q⟩
      · exact a.rel.out i _ e'
      · exact a.rel.out j o q
    · obtain ⟨u1, e1⟩ := key2 q1
      obtain ⟨u2, e2⟩ := key2 q2
      exact a.rel.inj j k u1 u2 e1 e2 z
  len := by
    rw [List.length_set]
    have := a.len
    rwa [List.length_set] at this
  rho := fun j hj => a.rho j (by rw [List.length_set]; exact hj)
  ex := a.ex
  keep := fun b o q no nt => a.keep b o q (fun j u z => no j u (getW_lck e z).2) nt
  fro := fun b z => by
    rcases a.fro b z with z | z | ⟨j, u, q, z⟩
    · exact .inl z
    · exact .inr (.inl z)
    · rw [getR_set] at q
      by_cases hj : i = j ∧ i < h.length
      · obtain ⟨rfl, _⟩ := hj
        exact .inr (.inr ⟨i, _, getW_R e, z⟩)
      · rw [if_neg hj] at q
        exact .inr (.inr ⟨j, u, q, z⟩)
  dom := a.dom
  old := fun j u hj q => by
    by_cases hij : i = j
    · subst hij
      exact ⟨_, e⟩
    · have q := getW_set u q hij
      obtain ⟨u0, q0⟩ := a.old j u (by rw [List.length_set]; exact hj) q
      exact ⟨u0, (getW_lck e q0).2⟩
  oldR := fun j u hj q => by
    by_cases hij : i = j
    · subst hij
      exact ⟨_, getW_R e⟩
    · rw [getR_set, if_neg (fun z => hij z.1)] at q
      obtain ⟨u0, q0⟩ := a.oldR j u (by rw [List.length_set]; exact hj) q
      rw [getR_set, if_neg (fun z => hij z.1)] at q0
      exact ⟨u0, q0⟩
  new := fun j u hl q => by
    rw [getR_set] at q
    have hi : i < h.length := getR_lt (getW_R e)
    rw [if_neg (fun z => by omega)] at q
    exact a.new j u (by rw [List.length_set]; exact hl) q
/-! ### what is gone through -/
/-- a world without what stands beside it -/
structure Sub (E : En) (W1 : Wd) (h1 : Hh) (W0 : Wd) : Prop where
  ex : Ex W1 W0
  rel : RelH E W0 h1
  rho : W0.ρ = W1.ρ
  live : ∀ i u, Ev.getR h1 i = some u → W0.H (W1.ρ i) = W1.H (W1.ρ i)
theorem Sub.refl (rh : RelH E W h) : Sub E W h W := ⟨Ex.refl W, rh, rfl, fun _ _ _ => rfl⟩
/-- J yields the items of v, as they stand now -/
def ItOk (E : En) (W1 : Wd) (h1 : Hh) (v : Val) (J : It) : Prop := ∃ xs, Ev.itemsV h1 v = some xs ∧ ∀ (W0 : Wd), Sub E W1 h1 W0 → ∀ (W2 : Wd) (h2 : Hh), Af E W0 (Ev.lockH h1 v) W2 h2 → ∀ i : Nat, (xs.length ≤ i → J.stop i W2.H) ∧
  ∀ p, xs[i]? = some p → J.go i W2.H ∧ ∀ x H', J.yld i W2.H x H' → ∃ W3, Af E W2 h2 W3 h2 ∧ W3.H = H' ∧ RelP E W3 p x
def TRI (E : En) (Wx : WX) (m : Sg → Hh → Res Val) : TI := fun σ' H R => ∃ (W : Wd) (σ : Sg) (h : Hh), W.H = H ∧ RelS E W h.length σ σ' ∧ RelH E W h ∧ Go E W h (m σ h) (fun v W1 h1 => ∀ J, ItOk E W1 h1 v J → R J W1.H) (KX E Wx σ')
abbrev itE (E : En) (C : Ev.Call) (c : Ev.CE) : Sg → Hh → Res Val := fun σ h => (Ev.evE E.P C c σ h).bind (Ev.iterV E.P C)
theorem lockH_p {v : PV} : Ev.lockH h (.p v) = h := rfl
/-- a list that stays: its turns -/
theorem it_list {K : PySem.W.Frag} {a : Addr} {xs : List PV} {ys : List V} {v : Val} (hi : Ev.itemsV h v = some xs) (rs : RelPs E W xs ys) (hk : ∀ (W0 : Wd), Sub E W h W0 → ∀ (W2 : Wd) (h2 : Hh), Af E W0 (Ev.lockH h v) W2 h2 → W2.H a = some (.lst ys)) : ItOk E W h v (L2.Itl K a) := by
  refine ⟨xs, hi, fun W0 sub W2 h2 a2 i => ?_⟩
  have hq := hk W0 sub W2 h2 a2
  have r2 := rs.mono (sub.ex.trans a2.ex)
  refine ⟨fun hl => ⟨ys, SqL.of hq, by rw [rs.length]; exact hl⟩, fun p hp => ?_⟩
  obtain ⟨y, hy, ry⟩ := r2.get hp
  refine ⟨⟨ys, y, SqL.of hq, hy⟩, fun x H' ⟨e, k⟩ => ⟨W2, Af.refl a2.rel, e.symm, ?_⟩⟩
  have := k ys (SqL.of hq)
  rw [hy] at this
  cases this
  exact ry
theorem it_tup {K : PySem.W.Frag} {a : Addr} {xs : List PV} {ys : List V} (rs : RelPs E W xs ys) (hf : W.F a) (hq : W.H a = some (.tup ys)) : ItOk E W h (.p (.tup xs)) (L2.Itt K a) := by
  refine ⟨xs, rfl, fun W0 sub W2 h2 a2 i => ?_⟩
  have hq := ((sub.ex.trans a2.ex).fro a hf).2.trans hq
  have r2 := rs.mono (sub.ex.trans a2.ex)
  refine ⟨fun hl => ⟨ys, SqT.of hq, by rw [rs.length]; exact hl⟩, fun p hp => ?_⟩
  obtain ⟨y, hy, ry⟩ := r2.get hp
  refine ⟨⟨ys, y, SqT.of hq, hy⟩, fun x H' ⟨e, k⟩ => ⟨W2, Af.refl a2.rel, e.symm, ?_⟩⟩
  have := k ys (SqT.of hq)
  rw [hy] at this
  cases this
  exact ry
theorem chars_get : ∀ {s : List Nat} {i : Nat}, (Ev.chars s)[i]? = (s[i]?).map fun c => PV.str [c]
  | [], i => by simp [Ev.chars]
  | c :: s, 0 => by simp [Ev.chars]
  | c :: s, i + 1 => by simpa [Ev.chars] using chars_get (s := s) (i := i)
theorem chars_len : ∀ {s : List Nat}, (Ev.chars s).length = s.length
  | [] => rfl
  | c :: s => by simp [Ev.chars, chars_len (s := s)]
theorem it_str {s : List Nat} : ItOk E W h (.p (.str s)) (L2.Its (St' s)) := by
  refine ⟨Ev.chars s, rfl, fun W0 sub W2 h2 a2 i => ⟨fun hl => ?_, fun p hp => ⟨?_, fun x H' ⟨e, c, hc, ex⟩ => ⟨W2, Af.refl a2.rel, e.symm, ?_⟩⟩⟩⟩
  · rw [chars_len] at hl
    show (St' s).cps.size ≤ i
    simpa using hl
  · rw [chars_get] at hp
    obtain ⟨c, hc, _⟩ := Option.map_eq_some_iff.mp hp
    show i < (St' s).cps.size
    have := (List.getElem?_eq_some_iff.mp hc).1
    simpa using this
  · rw [chars_get] at hp
    obtain ⟨c', hc', e'⟩ := Option.map_eq_some_iff.mp hp
    have : s[i]? = some c := by simpa using hc
    rw [hc'] at this
    cases this
    subst e' ex
    rfl
theorem keysP_get {β : Type} : ∀ {kvs : List (PV × β)} {i : Nat}, (Ev.keysP kvs)[i]? = (kvs[i]?).map (·.1)
  | [], i => by simp [Ev.keysP]
  | (k, v) :: kvs, 0 => by simp [Ev.keysP]
  | (k, v) :: kvs, i + 1 => by simpa [Ev.keysP] using keysP_get (kvs := kvs) (i := i)
theorem keysP_len {β : Type} : ∀ {kvs : List (PV × β)}, (Ev.keysP kvs).length = kvs.length
  | [] => rfl
  | (k, v) :: kvs => by simp [Ev.keysP, keysP_len (kvs := kvs)]
theorem keyF_kV {k : PV} {z : L2.Key} (h : keyF k = some z) : RelP E W k (L2.kV z) := by
  cases k with
  | int i => cases h; rfl
  | str s => cases h; rfl
  | _ => cases h
/-- what is frozen stays -/
theorem fz_stay {a : Addr} {o : HO} (hf : W.F a) (hq : W.H a = some o) (x : Ex W W2) : W2.H a = some o := (x.fro a hf).2.trans hq
theorem ks_rel : ∀ {kvs : List (PV × PV)} {ks : List (L2.Key × V)}, RelKs E W kvs ks → RelPs E W (Ev.keysP kvs) (ks.map fun q => L2.kV q.1) ∧ RelPs E W (Ev.valsP kvs) (ks.map (·.2))
  | [], _, r => by cases r; exact ⟨rfl, rfl⟩
  | (k, v) :: kvs, _, ⟨z, y, t, e, h1, h2, h3⟩ => by
    subst e
    obtain ⟨i1, i2⟩ := ks_rel h3
    exact ⟨⟨L2.kV z, _, rfl, keyF_kV h1, i1⟩, ⟨y, _, rfl, h2, i2⟩⟩
theorem ts_rel : ∀ {kvs : List (PV × PV)} {bs : List Addr} {ys : List V}, RelTs E W kvs bs ys → RelPs E W (Ev.keysP kvs) (bs.map V.ref) ∧ RelPs E W (Ev.valsP kvs) ys ∧ bs.length = ys.length ∧ (nks (Ev.keysP kvs)).length = bs.length
  | [], _, _, r => by obtain ⟨rfl, rfl⟩ := r; exact ⟨rfl, rfl, rfl, rfl⟩
  | (k, v) :: kvs, _, _, ⟨b, bt, y, yt, e1, e2, h0, h1, h2, h3⟩ => by
    subst e1 e2
    obtain ⟨i1, i2, i3, i4⟩ := ts_rel h3
    exact ⟨⟨.ref b, _, rfl, h1, i1⟩, ⟨y, _, rfl, h2, i2⟩, by simp [i3], by show (nk k :: nks (Ev.keysP kvs)).length = _; simp [i4]⟩
/-- a pure dict, as it is walked -/
theorem dic_shows {kvs : List (PV × PV)} {x : V} (r : RelP E W (.dic kvs) x) : ∃ d ob kx vx, x = .ref d ∧ W.F d ∧ FzD E W.H d ob kx vx ∧ RelPs E W (Ev.keysP kvs) kx ∧ RelPs E W (Ev.valsP kvs) vx := by
  obtain ⟨a, ob, o, e, hf, hq, r⟩ := r
  rcases r with ⟨ks, rfl, rk⟩ | ⟨bs, ys, rfl, ne, rk⟩
  · obtain ⟨i1, i2⟩ := ks_rel rk
    exact ⟨a, ob, _, _, e, hf, ⟨_, hq, .inl ⟨ks, rfl, rfl, rfl⟩⟩, i1, i2⟩
  · obtain ⟨i1, i2, i3, i4⟩ := ts_rel rk
    exact ⟨a, ob, _, _, e, hf, ⟨_, hq, .inr ⟨_, bs, rfl, i4, i3, rfl⟩⟩, i1, i2⟩
theorem fzD_stay {d : Addr} {ob : Obj} {kx vx : List V} (hf : W.F d) (fz : FzD E W.H d ob kx vx) (a2 : Ex W W2) : FzD E W2.H d ob kx vx := by
  obtain ⟨o, h1, sh⟩ := fz
  exact ⟨o, fz_stay hf h1 a2, sh⟩
theorem it_walk {d : Addr} {ob : Obj} {kx vx zx : List V} {v : PV} {xs : List PV} (hi : Ev.itemsOf v = some xs) (hf : W.F d) (fz : FzD E W.H d ob kx vx) (rs : RelPs E W xs zx) : ItOk E W h (.p v) (Wk E d ob kx vx zx) := by
  refine ⟨xs, hi, fun W0 sub W2 h2 a2 i => ⟨fun hl => ⟨fzD_stay hf fz (sub.ex.trans a2.ex), by rw [rs.length]; exact hl⟩, fun p hp => ?_⟩⟩
  obtain ⟨y, hy, ry⟩ := (rs.mono (sub.ex.trans a2.ex)).get hp
  refine ⟨⟨fzD_stay hf fz (sub.ex.trans a2.ex), (List.getElem?_eq_some_iff.mp hy).1⟩, fun x H' ⟨e, hx⟩ => ⟨W2, Af.refl a2.rel, e.symm, ?_⟩⟩
  rw [hy] at hx
  cases hx
  exact ry
theorem itemsP_get : ∀ {kvs : List (PV × PV)} {i : Nat} {p : PV}, (Ev.itemsP kvs)[i]? = some p → ∃ k v, p = .tup [k, v] ∧ (Ev.keysP kvs)[i]? = some k ∧ (Ev.valsP kvs)[i]? = some v
  | [], i, p, e => by simp [Ev.itemsP] at e
  | (k, v) :: kvs, 0, p, e => by simp [Ev.itemsP] at e; exact ⟨k, v, e.symm, rfl, rfl⟩
  | (k, v) :: kvs, i + 1, p, e => itemsP_get (kvs := kvs) (i := i) (by simpa [Ev.itemsP] using e)
theorem itemsP_len : ∀ {kvs : List (PV × PV)}, (Ev.itemsP kvs).length = (Ev.keysP kvs).length
  | [] => rfl
  | (k, v) :: kvs => by simp [Ev.itemsP, Ev.keysP, itemsP_len (kvs := kvs)]
theorem new_pair {a b : PV} {x y : V} {T : Addr} (rh : RelH E W h) (hT : W.H T = none) (ra : RelP E W a x) (rb : RelP E W b y) : RelP E (W.fz T (.tup [x, y])) (.tup [a, b]) (.ref T) := new_tup rh hT ⟨x, [y], rfl, ra, y, [], rfl, rb, rfl⟩
theorem it_items {d : Addr} {ob : Obj} {kx vx : List V} {kvs : List (PV × PV)} (hf : W.F d) (fz : FzD E W.H d ob kx vx) (rk : RelPs E W (Ev.keysP kvs) kx) (rv : RelPs E W (Ev.valsP kvs) vx) : ItOk E W h (.p (.lst (Ev.itemsP kvs))) (Wi E d ob kx vx) := by
  refine ⟨Ev.itemsP kvs, rfl, fun W0 sub W2 h2 a2 i => ⟨fun hl => ⟨fzD_stay hf fz (sub.ex.trans a2.ex), by rw [rk.length, ← itemsP_len]; exact hl⟩, fun p hp => ?_⟩⟩
  obtain ⟨k, v, rfl, hk, hv⟩ := itemsP_get hp
  obtain ⟨x1, hx1, rx1⟩ := (rk.mono (sub.ex.trans a2.ex)).get hk
  obtain ⟨y1, hy1, ry1⟩ := (rv.mono (sub.ex.trans a2.ex)).get hv
  refine ⟨⟨fzD_stay hf fz (sub.ex.trans a2.ex), (List.getElem?_eq_some_iff.mp hx1).1⟩, fun x H' ⟨T, k', v', e1, e2, ex, hT, eH⟩ => ⟨W2.fz T (.tup [x1, y1]), af_new a2.rel hT, ?_, ?_⟩⟩
  · rw [hx1] at e1; rw [hy1] at e2
    cases e1; cases e2
    exact eH.symm
  · subst ex
    exact new_pair a2.rel hT rx1 ry1
theorem locked_keep {i : Nat} {xs : List Val} {ys : List V} (rh : RelH E W h) (e : Ev.getO h i = some (.lst xs)) (hq : W.H (W.ρ i) = some (.lst ys)) (a2 : Af E W (Ev.lockH h (.r i)) W2 h2) : W2.H (W.ρ i) = some (.lst ys) := by
  have hR : ∃ o, Ev.getR h i = some o := (getO_cases e).elim (fun z => ⟨_, z⟩) fun z => ⟨_, z⟩
  obtain ⟨o, hR⟩ := hR
  refine a2.keep _ _ hq (fun j u q z => ?_) (fun _ z => nomatch z)
  unfold Ev.lockH Ev.lockO at q
  cases w : Ev.getW h i with
  | none =>
    simp only [w] at q
    have := rh.inj j i u o (getW_R q) hR z
    subst this
    rw [w] at q
    cases q
  | some o1 =>
    have := getO_W w
    rw [e] at this
    cases this
    simp only [w] at q
    obtain ⟨hne, q⟩ := getW_lck w q
    exact hne (rh.inj j i u o (getW_R q) hR z).symm
theorem locked_keep2 {i : Nat} {xs : List Val} {ys : List V} {W0 : Wd} (rh : RelH E W h) (e : Ev.getO h i = some (.lst xs)) (hq : W.H (W.ρ i) = some (.lst ys)) (sub : Sub E W h W0) (a2 : Af E W0 (Ev.lockH h (.r i)) W2 h2) : W2.H (W.ρ i) = some (.lst ys) := by
  have hR : ∃ o, Ev.getR h i = some o := (getO_cases e).elim (fun z => ⟨_, z⟩) fun z => ⟨_, z⟩
  obtain ⟨o, hR⟩ := hR
  have := locked_keep (ys := ys) sub.rel e (by rw [sub.rho]; exact (sub.live i o hR).trans hq) a2
  rw [sub.rho] at this
  exact this
/-- for x in e: a list, a tuple, a text, a dict -/
theorem ti_any {tg e : Expr} {c : Ev.CE} (ni : NoDun E.P (·.itr)) (he : PEv E X Wx C e c) : PI X tg e (TRI E Wx (itE E C c)) := by
  refine ⟨fun pins s σ' H R I ⟨W, σ, h, eH, r, rh, g⟩ => ?_⟩
  have g : Go E W h ((Ev.evE E.P C c σ h).bind (Ev.iterV E.P C)) (fun v W1 h1 => ∀ J, ItOk E W1 h1 v J → R J W1.H) (KX E Wx σ') := g
  have it : ∀ {v : Val} {h1 : Hh} {W1 : Wd}, Go E W1 h1 (Ev.iterV E.P C v h1) (fun v W1 h1 => ∀ J, ItOk E W1 h1 v J → R J W1.H) (KX E Wx σ') → RelH E W1 h1 → ∃ xs, Ev.itemsV h1 v = some xs ∧ ∀ J, ItOk E W1 h1 v J → R J W1.H := fun {v h1 W1} g rh => by
    have g : Go E W1 h1 ((match Ev.dun E.P (·.itr) h1 v with
      | some (some d) => C d [v] h1
      | some none => .bad 28
      | none => .ok v h1 : Res Val).bind fun b h => match Ev.itemsV h b with
        | some _ => .ok b h
        | none => .bad 29) (fun v W1 h1 => ∀ J, ItOk E W1 h1 v J → R J W1.H) (KX E Wx σ') := g
    rcases dun_none (P := E.P) (sel := (·.itr)) ni (h := h1) (v := v) with q | q
    · rw [q] at g
      have g : Go E W1 h1 (match Ev.itemsV h1 v with
        | some _ => .ok v h1
        | none => .bad 29) (fun v W1 h1 => ∀ J, ItOk E W1 h1 v J → R J W1.H) (KX E Wx σ') := g
      cases z : Ev.itemsV h1 v with
      | none => rw [z] at g; exact g.elim
      | some xs => rw [z] at g; exact ⟨xs, rfl, Go.ok rh g⟩
    · rw [q] at g; exact g.elim
  cases q : Ev.evE E.P C c σ h with
  | bad w => rw [q] at g; exact g.elim
  | exc ex h1 =>
    rw [q] at g
    exact (L2.pi_list he).run pins s σ' H R I ⟨W, σ, h, eH, r, rh, by rw [q]; exact g⟩
  | ok v h1 =>
    rw [q] at g
    have g1 : ∀ W1, Af E W h W1 h1 → ∃ xs, Ev.itemsV h1 v = some xs ∧ ∀ J, ItOk E W1 h1 v J → R J W1.H := fun W1 a => it (Go.later a g) a.rel
    cases v with
    | r i =>
      refine (L2.pi_list he).run pins s σ' H R I ⟨W, σ, h, eH, r, rh, by
        rw [q]
        refine fun W1 a x rx => ?_
        obtain ⟨hi, rfl⟩ := rx
        obtain ⟨xs, hx, g2⟩ := g1 W1 a
        have hx' := hx
        unfold Ev.itemsV at hx'
        cases z : Ev.getO h1 i with
        | none => simp only [z] at hx'; cases hx'
        | some o =>
          simp only [z] at hx'
          cases o with
          | lst vs =>
            obtain ⟨ys, h3, r3⟩ := a.rel.lst z
            have hx2 : Ev.pures vs = some xs := hx'
            exact ⟨_, rfl, ⟨ys, SqL.of h3⟩, g2 _ (it_list hx (pures_rel hx2 r3) fun W0 sub W2 h2 a2 => locked_keep2 a.rel z h3 sub a2)⟩
          | _ => cases hx'⟩
    | p v =>
      cases v with
      | lst xs =>
        refine (L2.pi_list he).run pins s σ' H R I ⟨W, σ, h, eH, r, rh, by
          rw [q]
          refine fun W1 a x rx => ?_
          obtain ⟨b, ys, rfl, hf, h3, rs⟩ := rx
          obtain ⟨_, _, g2⟩ := g1 W1 a
          exact ⟨b, rfl, ⟨ys, SqL.of h3⟩, g2 _ (it_list rfl rs fun W0 sub W2 h2 a2 => fz_stay hf h3 (sub.ex.trans a2.ex))⟩⟩
      | tup xs =>
        refine (L2.pi_tup he).run pins s σ' H R I ⟨W, σ, h, eH, r, rh, by
          rw [q]
          refine fun W1 a x rx => ?_
          obtain ⟨b, ys, rfl, hf, h3, rs⟩ := rx
          obtain ⟨_, _, g2⟩ := g1 W1 a
          exact ⟨b, rfl, ⟨ys, SqT.of h3⟩, g2 _ (it_tup rs hf h3)⟩⟩
      | str s' =>
        refine (L2.pi_str he).run pins s σ' H R I ⟨W, σ, h, eH, r, rh, by
          rw [q]
          refine fun W1 a x rx => ?_
          cases rx
          obtain ⟨_, _, g2⟩ := g1 W1 a
          exact ⟨St' s', rfl, g2 _ it_str⟩⟩
      | dic kvs =>
        refine (wi_keys (E := E) he).run pins s σ' H R I ⟨W, σ, h, eH, r, rh, by
          rw [q]
          refine fun W1 a x rx => ?_
          obtain ⟨d, ob, kx, vx, rfl, hf, fz, rk, rv⟩ := dic_shows rx
          obtain ⟨_, _, g2⟩ := g1 W1 a
          exact ⟨d, ob, kx, vx, rfl, fz, g2 _ (it_walk rfl hf fz rk)⟩⟩
      | _ =>
        refine (L2.pi_list he).run pins s σ' H R I ⟨W, σ, h, eH, r, rh, by
          rw [q]
          refine fun W1 a x rx => ?_
          obtain ⟨_, hx, _⟩ := g1 W1 a
          cases hx⟩
/-- a piece whose value is told -/
theorem tr_it {σ1 : L2.St} {H1 : Hp} {R : It → Hp → Prop} {m : Sg → Hh → Res Val} {f : Val → Hh → Res Val} (t : TRI E Wx (fun σ h => (m σ h).bind f) σ1 H1 R) : TR E Wx m σ1 H1 fun x H2 => ∃ (W : Wd) (h : Hh) (v : Val), W.H = H2 ∧ RelH E W h ∧ RelVal E W h.length v x ∧ Go E W h (f v h) (fun v W1 h1 => ∀ J, ItOk E W1 h1 v J → R J W1.H) (KX E Wx σ1) := by
  obtain ⟨W, σ, h, e, r, rh, g⟩ := t
  exact ⟨W, σ, h, e, r, rh, (Go.bind g).imp fun v W' h' a q x rx => ⟨W', h', v, rfl, a.rel, rx, q⟩⟩
theorem go_iter {v : Val} {R : It → Hp → Prop} {KX' : Exc → Wd → Prop} (ni : NoDun E.P (·.itr)) (rh : RelH E W h) (g : Go E W h (Ev.iterV E.P C v h) (fun v W1 h1 => ∀ J, ItOk E W1 h1 v J → R J W1.H) KX') : ∃ xs, Ev.itemsV h v = some xs ∧ ∀ J, ItOk E W h v J → R J W.H := by
  have g : Go E W h ((match Ev.dun E.P (·.itr) h v with
    | some (some d) => C d [v] h
    | some none => .bad 28
    | none => .ok v h : Res Val).bind fun b h => match Ev.itemsV h b with
      | some _ => .ok b h
      | none => .bad 29) (fun v W1 h1 => ∀ J, ItOk E W1 h1 v J → R J W1.H) KX' := g
  rcases dun_none (P := E.P) (sel := (·.itr)) ni (h := h) (v := v) with q | q
  · rw [q] at g
    have g : Go E W h (match Ev.itemsV h v with
      | some _ => .ok v h
      | none => .bad 29) (fun v W1 h1 => ∀ J, ItOk E W1 h1 v J → R J W1.H) KX' := g
    cases z : Ev.itemsV h v with
    | none => rw [z] at g; exact g.elim
    | some xs => rw [z] at g; exact ⟨xs, rfl, Go.ok rh g⟩
  · rw [q] at g; exact g.elim
theorem bm_dic {b : Ev.BM} {v : Val} {x : V} {J : Val → Wd → Hh → Prop} {KX' : Exc → Wd → Prop} (hb : b = .values ∨ b = .items) (rh : RelH E W h) (rv : RelVal E W h.length v x) (g : Go E W h (Ev.bmV b v [] h) J KX') :
    ∃ kvs, v = .p (.dic kvs) ∧ J (.p (.lst (if b = .values then Ev.valsP kvs else Ev.itemsP kvs))) W h := by
  cases v with
  | p v =>
    cases v with
    | dic kvs =>
      refine ⟨kvs, rfl, ?_⟩
      rcases hb with rfl | rfl
      · exact Go.ok (α := Val) (K := J) rh g
      · exact Go.ok (α := Val) (K := J) rh g
    | _ => rcases hb with rfl | rfl <;> exact g.elim
  | r i =>
    exfalso
    have g : Go E W h (match (if Ev.isMut b then Ev.getW h i else Ev.getO h i) with
      | some (.lst xs) => Ev.bmV.plain b (.r i) [] h
      | some (.dic kvs) => .bad 23
      | _ => .bad 24) J KX' := by
      rcases hb with rfl | rfl
      · have g : Go E W h (Ev.bmV .values (.r i) [] h) J KX' := g
        unfold Ev.bmV at g
        exact g
      · have g : Go E W h (Ev.bmV .items (.r i) [] h) J KX' := g
        unfold Ev.bmV at g
        exact g
    have e1 : Ev.isMut b = false := by rcases hb with rfl | rfl <;> rfl
    rw [e1] at g
    cases z : Ev.getO h i with
    | none => simp only [z] at g; exact g.elim
    | some o =>
      simp only [z] at g
      cases o with
      | lst xs =>
        have g : Go E W h (match Ev.vw h (.r i), Ev.vws h [] with
          | some x, some ys => Ev.ofO 25 (Ev.bmeth b x ys) h
          | _, _ => .bad 25) J KX' := g
        cases z2 : Ev.vw h (.r i) with
        | none => simp only [z2] at g; exact g.elim
        | some p =>
          have : ∃ ys, p = .lst ys := by
            unfold Ev.vw at z2
            simp only [z] at z2
            cases z3 : Ev.pures xs with
            | none => simp only [z3] at z2; cases z2
            | some vs => simp only [z3] at z2; cases z2; exact ⟨_, rfl⟩
          obtain ⟨ys, rfl⟩ := this
          simp only [z2] at g
          rcases hb with rfl | rfl <;> exact g.elim
      | _ => exact g.elim
theorem go_bmK {α : Type} {b : Ev.BM} {v : Val} {m : Res α} {K : α → Wd → Hh → Prop} {KX' : Exc → Wd → Prop} (g : Go E W h (match Ev.bmK b v h with
    | true => m
    | false => .bad 25) K KX') : Go E W h m K KX' := by
  cases q : Ev.bmK b v h with
  | true => rw [q] at g; exact g
  | false => rw [q] at g; exact g.elim
/-- for x in d.values() -/
theorem ti_vals {tg e : Expr} {c : Ev.CE} {apos cpos : Pos} (ni : NoDun E.P (·.itr)) (he : PEv E X Wx C e c) (hbase : attributeBase e "values" X.env (eval e X.env) = eval e X.env := by rfl) (hline : (apos.endLine == cpos.line) = true := by rfl) :
    PI X tg (.Call (.Attribute e "values" apos) [] [] cpos) (TRI E Wx (itE E C (.bm .values c .nil))) := ⟨fun pins s σ' H R I t => (wi_vals (E := E) he hbase hline).run pins s σ' H R I (by
  obtain ⟨W, σ, h, e, r, rh, g⟩ := t
  have g : Go E W h (((Ev.evE E.P C c σ h).bind fun x h => match Ev.bmK .values x h with
      | true => Ev.bmV .values x [] h
      | false => .bad 25).bind (Ev.iterV E.P C)) (fun v W1 h1 => ∀ J, ItOk E W1 h1 v J → R J W1.H) (KX E Wx σ') := g
  refine ⟨W, σ, h, e, r, rh, (Go.bind (Go.bind g)).imp fun v W1 h1 a g x rx => ?_⟩
  obtain ⟨kvs, ev, g5⟩ := bm_dic (.inl rfl) a.rel rx (go_bmK g)
  obtain ⟨_, _, g6⟩ := go_iter ni a.rel g5
  subst ev
  obtain ⟨d, ob, kx, vx, rfl, hf, fz, rk, rv⟩ := dic_shows rx
  exact ⟨d, ob, kx, vx, rfl, fz, g6 _ (it_walk (xs := Ev.valsP kvs) rfl hf fz rv)⟩)⟩
theorem ti_items {e : Expr} {elts : List Expr} {kk : Nat} {tpos : Pos} {c : Ev.CE} {apos cpos : Pos} (ni : NoDun E.P (·.itr)) (he : PEv E X Wx C e c) (hbase : attributeBase e "items" X.env (eval e X.env) = eval e X.env := by rfl) (hline : (apos.endLine == cpos.line) = true := by rfl) :
    PI X (.Tuple elts kk tpos) (.Call (.Attribute e "items" apos) [] [] cpos) (TRI E Wx (itE E C (.bm .items c .nil))) := ⟨fun pins s σ' H R I t => (wi_items (E := E) he hbase hline).run pins s σ' H R I (by
  obtain ⟨W, σ, h, e, r, rh, g⟩ := t
  have g : Go E W h (((Ev.evE E.P C c σ h).bind fun x h => match Ev.bmK .items x h with
      | true => Ev.bmV .items x [] h
      | false => .bad 25).bind (Ev.iterV E.P C)) (fun v W1 h1 => ∀ J, ItOk E W1 h1 v J → R J W1.H) (KX E Wx σ') := g
  refine ⟨W, σ, h, e, r, rh, (Go.bind (Go.bind g)).imp fun v W1 h1 a g x rx => ?_⟩
  obtain ⟨kvs, ev, g5⟩ := bm_dic (.inr rfl) a.rel rx (go_bmK g)
  obtain ⟨_, _, g6⟩ := go_iter ni a.rel g5
  subst ev
  obtain ⟨d, ob, kx, vx, rfl, hf, fz, rk, rv⟩ := dic_shows rx
  exact ⟨d, ob, kx, vx, rfl, fz, g6 _ (it_items hf fz rk rv)⟩)⟩
/-! ### ranges -/
theorem rngOk_ok {i : Int} (h : Ev.rngOk i = true) : -(2 ^ 62) ≤ i ∧ i < 2 ^ 62 := by
  obtain ⟨h1, h2⟩ := Bool.and_eq_true_iff.mp h
  exact ⟨of_decide_eq_true h1, of_decide_eq_true h2⟩
theorem rangeP_get (c : Int) : ∀ (n : Nat) (lo : Int) (i : Nat), (Ev.rangeP lo c n)[i]? = if i < n then some (.int (lo + (i : Nat) * c)) else none
  | 0, lo, i => by simp [Ev.rangeP]
  | n + 1, lo, 0 => by simp [Ev.rangeP]
  | n + 1, lo, i + 1 => by
    have e : (Ev.rangeP lo c (n + 1))[i + 1]? = (Ev.rangeP (lo + c) c n)[i]? := by simp [Ev.rangeP]
    rw [e, rangeP_get c n (lo + c) i]
    have : lo + c + (i : Nat) * c = lo + ((i + 1 : Nat) : Int) * c := by
      rw [Int.natCast_add, Int.add_mul]
      simp
      omega
    rw [this]
    simp
theorem rangeP_len (c : Int) : ∀ (n : Nat) (lo : Int), (Ev.rangeP lo c n).length = n
  | 0, _ => rfl
  | n + 1, lo => by simp [Ev.rangeP, rangeP_len c n]
theorem it_range {lo c : Int} {n : Nat} : ItOk E W h (.p (.lst (Ev.rangeP lo c n))) (L2.Itc lo c n) := by
  refine ⟨_, rfl, fun W0 sub W2 h2 a2 i => ⟨fun hl => by rw [rangeP_len] at hl; exact hl, fun p hp => ?_⟩⟩
  rw [rangeP_get] at hp
  split at hp
  · rename_i hi
    cases hp
    exact ⟨hi, fun x H' ⟨e, ex⟩ => ⟨W2, Af.refl a2.rel, e.symm, ex⟩⟩
  · cases hp
theorem it_range1 {lo : Int} {n : Nat} : ItOk E W h (.p (.lst (Ev.rangeP lo 1 n))) (L2.Itr lo n) := by
  refine ⟨_, rfl, fun W0 sub W2 h2 a2 i => ⟨fun hl => by rw [rangeP_len] at hl; exact hl, fun p hp => ?_⟩⟩
  rw [rangeP_get] at hp
  split at hp
  · rename_i hi
    cases hp
    exact ⟨hi, fun x H' ⟨e, ex⟩ => ⟨W2, Af.refl a2.rel, e.symm, by rw [ex]; show V.int _ = V.int _; rw [Int.mul_one]⟩⟩
  · cases hp
/-- what a built-in makes of a row -/
theorem go_bf {vs : List Val} {R : It → Hp → Prop} {KX' : Exc → Wd → Prop} (ni : NoDun E.P (·.itr)) (rh : RelH E W h)
    (g : Go E W h ((Ev.bfV E.P C .range vs h).bind (Ev.iterV E.P C)) (fun v W1 h1 => ∀ J, ItOk E W1 h1 v J → R J W1.H) KX') : ∃ ps r, Ev.vws h vs = some ps ∧ Ev.bfun .range ps = some r ∧ ∀ J, ItOk E W h (.p r) J → R J W.H := by
  have g : Go E W h ((match Ev.vws h vs with
    | some xs => Ev.ofO 21 (Ev.bfun .range xs) h
    | none => .bad 21).bind (Ev.iterV E.P C)) (fun v W1 h1 => ∀ J, ItOk E W1 h1 v J → R J W1.H) KX' := g
  cases z : Ev.vws h vs with
  | none => rw [z] at g; exact g.elim
  | some ps =>
    rw [z] at g
    have g : Go E W h ((Ev.ofO 21 (Ev.bfun .range ps) h).bind (Ev.iterV E.P C)) (fun v W1 h1 => ∀ J, ItOk E W1 h1 v J → R J W1.H) KX' := g
    cases z2 : Ev.bfun .range ps with
    | none => rw [z2] at g; exact g.elim
    | some r =>
      rw [z2] at g
      obtain ⟨_, _, g⟩ := go_iter (v := .p r) ni rh g
      exact ⟨ps, r, rfl, z2, g⟩
theorem go_bfP {b : Ev.BF} (hb : b = .enum ∨ b = .zip) {vs : List Val} {R : It → Hp → Prop} {KX' : Exc → Wd → Prop} (ni : NoDun E.P (·.itr)) (rh : RelH E W h)
    (g : Go E W h ((Ev.bfV E.P C b vs h).bind (Ev.iterV E.P C)) (fun v W1 h1 => ∀ J, ItOk E W1 h1 v J → R J W1.H) KX') : ∃ ps r, Ev.pures vs = some ps ∧ Ev.bfun b ps = some r ∧ ∀ J, ItOk E W h (.p r) J → R J W.H := by
  have g : Go E W h ((match Ev.pures vs with
    | some xs => Ev.ofO 21 (Ev.bfun b xs) h
    | none => .bad 21).bind (Ev.iterV E.P C)) (fun v W1 h1 => ∀ J, ItOk E W1 h1 v J → R J W1.H) KX' := by
    rcases hb with rfl | rfl
    · unfold Ev.bfV at g; exact g
    · unfold Ev.bfV at g; exact g
  cases z : Ev.pures vs with
  | none => rw [z] at g; exact g.elim
  | some ps =>
    rw [z] at g
    have g : Go E W h ((Ev.ofO 21 (Ev.bfun b ps) h).bind (Ev.iterV E.P C)) (fun v W1 h1 => ∀ J, ItOk E W1 h1 v J → R J W1.H) KX' := g
    cases z2 : Ev.bfun b ps with
    | none => rw [z2] at g; exact g.elim
    | some r =>
      rw [z2] at g
      obtain ⟨_, _, g⟩ := go_iter (v := .p r) ni rh g
      exact ⟨ps, r, rfl, z2, g⟩
theorem vws_rel {ps : List PV} : ∀ {vs : List Val} {ps : List PV} {xs : List V}, RelH E W h → Ev.vws h vs = some ps → RelVals E W h.length vs xs → ∃ (n : Nat), True ∧ xs.length = ps.length ∧ ∀ (i : Nat) (p : PV), ps[i]? = some p → ∃ x, xs[i]? = some x ∧ RelC E W p x
  | [], ps, xs, rh, e, r => by cases e; cases r; exact ⟨0, trivial, rfl, fun i p z => by simp at z⟩
  | v :: vs, ps, xs, rh, e, ⟨y, t, e', r1, r2⟩ => by
    subst e'
    unfold Ev.vws at e
    cases z : Ev.vw h v with
    | none => rw [z] at e; cases e
    | some p =>
      rw [z] at e
      cases z2 : Ev.vws h vs with
      | none => rw [z2] at e; cases e
      | some qs =>
        rw [z2] at e
        cases e
        obtain ⟨_, _, hl, hg⟩ := vws_rel (ps := ps) rh z2 r2
        refine ⟨0, trivial, by simp [hl], fun i q hq => ?_⟩
        cases i with
        | zero => simp at hq; subst hq; exact ⟨y, rfl, vw_rel rh z r1⟩
        | succ i => exact hg i q (by simpa using hq)
theorem bind_assoc {α β γ : Type} (r : Res α) (f : α → Hh → Res β) (g : β → Hh → Res γ) : (r.bind f).bind g = r.bind fun v h => (f v h).bind g := by cases r <;> rfl
/-- how long a row is, no star in it -/
def chn : Ev.CE → Option Nat
  | .nil => some 0
  | .cons _ r => (chn r).map (· + 1)
  | _ => none
theorem evA_len : ∀ (cs : Ev.CE) (n : Nat) (σ : Sg) (h : Hh) (vs : List Val) (h' : Hh), chn cs = some n → Ev.evA E.P C cs σ h = .ok vs h' → vs.length = n
  | .nil, n, σ, h, vs, h', e, q => by cases e; cases q; rfl
  | .cons a r, n, σ, h, vs, h', e, q => by
    obtain ⟨m, em, rfl⟩ := Option.map_eq_some_iff.mp (show (chn r).map (· + 1) = some n from e)
    have q : ((Ev.evE E.P C a σ h).bind fun x h => (Ev.evA E.P C r σ h).bind fun xs h => .ok (x :: xs) h) = .ok vs h' := q
    cases q1 : Ev.evE E.P C a σ h with
    | bad w => rw [q1] at q; cases q
    | exc ex h1 => rw [q1] at q; cases q
    | ok x h1 =>
      rw [q1] at q
      have q : ((Ev.evA E.P C r σ h1).bind fun xs h => .ok (x :: xs) h) = .ok vs h' := q
      cases q2 : Ev.evA E.P C r σ h1 with
      | bad w => rw [q2] at q; cases q
      | exc ex h2 => rw [q2] at q; cases q
      | ok xs h2 =>
        rw [q2] at q
        cases q
        simp [evA_len r m σ h1 xs h' em q2]
/-- a built-in's row, then what is gone through -/
theorem tri_bf {cs : Ev.CE} {n : Nat} {R : It → Hp → Prop} (hn : chn cs = some n) (ni : NoDun E.P (·.itr)) (t : TRI E Wx (itE E C (.bf .range cs)) σ' H R) :
    TRs E Wx (Ev.evA E.P C cs) σ' H fun xs H1 => ∃ (W : Wd) (h : Hh) (vs : List Val) (ps : List PV) (r : PV), W.H = H1 ∧ RelH E W h ∧ RelVals E W h.length vs xs ∧ xs.length = n ∧ Ev.vws h vs = some ps ∧ Ev.bfun .range ps = some r ∧ ∀ J, ItOk E W h (.p r) J → R J W.H := by
  obtain ⟨W, σ, h, e, r, rh, g⟩ := t
  have g : Go E W h (((Ev.evA E.P C cs σ h).bind fun vs h => Ev.bfV E.P C .range vs h).bind (Ev.iterV E.P C)) (fun v W1 h1 => ∀ J, ItOk E W1 h1 v J → R J W1.H) (KX E Wx σ') := g
  rw [bind_assoc] at g
  refine ⟨W, σ, h, e, r, rh, ?_⟩
  have g := Go.bind g
  cases q : Ev.evA E.P C cs σ h with
  | bad w => rw [q] at g; exact g
  | exc ex h1 => rw [q] at g; exact g
  | ok vs h1 =>
    rw [q] at g
    refine fun W1 a xs rx => ?_
    obtain ⟨ps, r, e1, e2, k⟩ := go_bf ni a.rel (g W1 a)
    exact ⟨W1, h1, vs, ps, r, rfl, a.rel, rx, by rw [rx.length]; exact evA_len cs n σ h vs h1 hn q, e1, e2, k⟩
theorem vws_len : ∀ {vs : List Val} {ps : List PV}, Ev.vws h vs = some ps → ps.length = vs.length
  | [], ps, e => by cases e; rfl
  | v :: vs, ps, e => by
    unfold Ev.vws at e
    cases z : Ev.vw h v with
    | none => rw [z] at e; cases e
    | some p =>
      rw [z] at e
      cases z2 : Ev.vws h vs with
      | none => rw [z2] at e; cases e
      | some qs =>
        rw [z2] at e
        cases e
        simp [vws_len z2]
theorem vws1 {vs : List Val} {p : PV} {xs : List V} (rh : RelH E W h) (e : Ev.vws h vs = some [p]) (r : RelVals E W h.length vs xs) : ∃ x, xs = [x] ∧ RelC E W p x := by
  obtain ⟨_, _, hl, hg⟩ := vws_rel (ps := []) rh e r
  obtain ⟨x, hx, rx⟩ := hg 0 p rfl
  match xs, hl with
  | [_], _ => cases hx; exact ⟨_, rfl, rx⟩
theorem vws2 {vs : List Val} {p q : PV} {xs : List V} (rh : RelH E W h) (e : Ev.vws h vs = some [p, q]) (r : RelVals E W h.length vs xs) : ∃ x y, xs = [x, y] ∧ RelC E W p x ∧ RelC E W q y := by
  obtain ⟨_, _, hl, hg⟩ := vws_rel (ps := []) rh e r
  obtain ⟨x, hx, rx⟩ := hg 0 p rfl
  obtain ⟨y, hy, ry⟩ := hg 1 q rfl
  match xs, hl with
  | [_, _], _ => cases hx; cases hy; exact ⟨_, _, rfl, rx, ry⟩
theorem vws3 {vs : List Val} {p q o : PV} {xs : List V} (rh : RelH E W h) (e : Ev.vws h vs = some [p, q, o]) (r : RelVals E W h.length vs xs) : ∃ x y z, xs = [x, y, z] ∧ RelC E W p x ∧ RelC E W q y ∧ RelC E W o z := by
  obtain ⟨_, _, hl, hg⟩ := vws_rel (ps := []) rh e r
  obtain ⟨x, hx, rx⟩ := hg 0 p rfl
  obtain ⟨y, hy, ry⟩ := hg 1 q rfl
  obtain ⟨z, hz, rz⟩ := hg 2 o rfl
  match xs, hl with
  | [_, _, _], _ => cases hx; cases hy; cases hz; exact ⟨_, _, _, rfl, rx, ry, rz⟩
theorem range_case {ps : List PV} {r : PV} (e : Ev.bfun .range ps = some r) : (∃ n : Int, ps = [.int n] ∧ Ev.rngOk n = true ∧ r = .lst (Ev.rangeP 0 1 n.toNat)) ∨ (∃ a b : Int, ps = [.int a, .int b] ∧ Ev.rngOk a = true ∧ Ev.rngOk b = true ∧ r = .lst (Ev.rangeP a 1 (b - a).toNat)) ∨
    ∃ a b c : Int, ps = [.int a, .int b, .int c] ∧ Ev.rngOk a = true ∧ Ev.rngOk b = true ∧ c = -1 ∧ r = .lst (Ev.rangeP a (-1) (a - b).toNat) := by
  match ps, e with
  | [.int n], e =>
    have e : (if Ev.rngOk n then some (PV.lst (Ev.rangeP 0 1 n.toNat)) else none) = some r := e
    split at e
    · cases e; exact .inl ⟨n, rfl, by assumption, rfl⟩
    · cases e
  | [.int a, .int b], e =>
    have e : (if Ev.rngOk a && Ev.rngOk b then some (PV.lst (Ev.rangeP a 1 (b - a).toNat)) else none) = some r := e
    split at e
    · rename_i h
      obtain ⟨h1, h2⟩ := Bool.and_eq_true_iff.mp h
      cases e; exact .inr (.inl ⟨a, b, rfl, h1, h2, rfl⟩)
    · cases e
  | [.int a, .int b, .int c], e =>
    have e : (if Ev.rngOk a && Ev.rngOk b && decide (c = -1) then some (PV.lst (Ev.rangeP a (-1) (a - b).toNat)) else none) = some r := e
    split at e
    · rename_i h
      obtain ⟨h1, h3⟩ := Bool.and_eq_true_iff.mp h
      obtain ⟨h1, h2⟩ := Bool.and_eq_true_iff.mp h1
      cases e; exact .inr (.inr ⟨a, b, c, rfl, h1, h2, of_decide_eq_true h3, rfl⟩)
    · cases e
theorem ti_range1 {tg a : Expr} {ca : Ev.CE} {p pos : Pos} (ni : NoDun E.P (·.itr)) (hg : L2.Gl X "range") (hm : X.mg "range" = none) (ha : PAv E X Wx C [a] (.cons ca .nil)) (hs : starEach [a] X.env = [(false, eval a X.env)] := by rfl) : PI X tg (.Call (.Name "range" p) [a] [] pos) (TRI E Wx (itE E C (.bf .range (.cons ca .nil)))) :=
  ⟨fun pins s σ' H R I t => (L2.pi_range1 hg hm ha hs).run pins s σ' H R I ((tri_bf (n := 1) rfl ni t).imp fun xs H1 ⟨W, h, vs, ps, r, e, rh, rv, hl, e1, e2, k⟩ => by
    subst e
    have lp := vws_len e1
    rw [← rv.length, hl] at lp
    rcases range_case e2 with ⟨n, rfl, h1, rfl⟩ | ⟨_, _, rfl, _⟩ | ⟨_, _, _, rfl, _⟩
    · obtain ⟨x, rfl, rx⟩ := vws1 rh e1 rv
      cases rx
      exact ⟨n, rfl, (rngOk_ok h1).1, (rngOk_ok h1).2, k _ it_range1⟩
    · cases lp
    · cases lp)⟩
theorem ti_range2 {tg a b : Expr} {ca cb : Ev.CE} {p pos : Pos} (ni : NoDun E.P (·.itr)) (hg : L2.Gl X "range") (hm : X.mg "range" = none) (ha : PAv E X Wx C [a, b] (.cons ca (.cons cb .nil))) (hs : starEach [a, b] X.env = [(false, eval a X.env), (false, eval b X.env)] := by rfl) (hs2 : starEach [b] X.env = [(false, eval b X.env)] := by rfl) :
    PI X tg (.Call (.Name "range" p) [a, b] [] pos) (TRI E Wx (itE E C (.bf .range (.cons ca (.cons cb .nil))))) :=
  ⟨fun pins s σ' H R I t => (L2.pi_range2 hg hm ha hs hs2).run pins s σ' H R I ((tri_bf (n := 2) rfl ni t).imp fun xs H1 ⟨W, h, vs, ps, r, e, rh, rv, hl, e1, e2, k⟩ => by
    subst e
    have lp := vws_len e1
    rw [← rv.length, hl] at lp
    rcases range_case e2 with ⟨n, rfl, h1, rfl⟩ | ⟨i, j, rfl, h1, h2, rfl⟩ | ⟨_, _, _, rfl, _⟩
    · cases lp
    · obtain ⟨x, y, rfl, rx, ry⟩ := vws2 rh e1 rv
      cases rx; cases ry
      exact ⟨i, j, rfl, ⟨(rngOk_ok h1).1, (rngOk_ok h1).2, (rngOk_ok h2).1, (rngOk_ok h2).2⟩, k _ it_range1⟩
    · cases lp)⟩
theorem ti_range3 {tg a b c : Expr} {ca cb cc : Ev.CE} {p pos : Pos} (ni : NoDun E.P (·.itr)) (hg : L2.Gl X "range") (hm : X.mg "range" = none) (ha : PAv E X Wx C [a, b, c] (.cons ca (.cons cb (.cons cc .nil))))
    (hs : starEach [a, b, c] X.env = (false, eval a X.env) :: starEach [b, c] X.env := by rfl) (hpl : (backTo pos (starEach [b, c] X.env)).any (·.1) = false := by rfl) :
    PI X tg (.Call (.Name "range" p) [a, b, c] [] pos) (TRI E Wx (itE E C (.bf .range (.cons ca (.cons cb (.cons cc .nil)))))) :=
  ⟨fun pins s σ' H R I t => (L2.pi_range3 hg hm ha hs hpl).run pins s σ' H R I ((tri_bf (n := 3) rfl ni t).imp fun xs H1 ⟨W, h, vs, ps, r, e, rh, rv, hl, e1, e2, k⟩ => by
    subst e
    have lp := vws_len e1
    rw [← rv.length, hl] at lp
    rcases range_case e2 with ⟨n, rfl, h1, rfl⟩ | ⟨i, j, rfl, h1, h2, rfl⟩ | ⟨i, j, l, rfl, h1, h2, rfl, rfl⟩
    · cases lp
    · cases lp
    · obtain ⟨x, y, z, rfl, rx, ry, rz⟩ := vws3 rh e1 rv
      cases rx; cases ry; cases rz
      exact ⟨i, j, -1, _, rfl, L2.RgC.neg (rngOk_ok h1).1 (rngOk_ok h1).2 (rngOk_ok h2).1 (rngOk_ok h2).2, k _ it_range⟩)⟩
/-! ### enumerate, zip -/
theorem enumP_get : ∀ (xs : List PV) (n i : Nat), (Ev.enumP n xs)[i]? = (xs[i]?).map fun p => PV.tup [.int ((n + i : Nat) : Int), p]
  | [], n, i => by simp [Ev.enumP]
  | x :: xs, n, 0 => by simp [Ev.enumP]
  | x :: xs, n, i + 1 => by
    have e : (Ev.enumP n (x :: xs))[i + 1]? = (Ev.enumP (n + 1) xs)[i]? := by simp [Ev.enumP]
    rw [e, enumP_get xs (n + 1) i, show n + 1 + i = n + (i + 1) by omega]
    simp
theorem enumP_len : ∀ (xs : List PV) (n : Nat), (Ev.enumP n xs).length = xs.length
  | [], n => rfl
  | x :: xs, n => by simp [Ev.enumP, enumP_len xs (n + 1)]
theorem zipP_get : ∀ (xs ys : List PV) (i : Nat) (p : PV), (Ev.zipP xs ys)[i]? = some p → ∃ a b, xs[i]? = some a ∧ ys[i]? = some b ∧ p = .tup [a, b]
  | [], ys, i, p, e => by simp [Ev.zipP] at e
  | x :: xs, [], i, p, e => by simp [Ev.zipP] at e
  | x :: xs, y :: ys, 0, p, e => by simp [Ev.zipP] at e; exact ⟨x, y, rfl, rfl, e.symm⟩
  | x :: xs, y :: ys, i + 1, p, e => zipP_get xs ys i p (by simpa [Ev.zipP] using e)
theorem zipP_end : ∀ (xs ys : List PV) (i : Nat), (Ev.zipP xs ys).length ≤ i → xs.length ≤ i ∨ ys.length ≤ i
  | [], ys, i, _ => .inl (Nat.zero_le _)
  | x :: xs, [], i, _ => .inr (Nat.zero_le _)
  | x :: xs, y :: ys, 0, e => by simp [Ev.zipP] at e
  | x :: xs, y :: ys, i + 1, e => by
    rcases zipP_end xs ys i (by simpa [Ev.zipP] using e) with z | z
    · exact .inl (by simpa using z)
    · exact .inr (by simpa using z)
theorem tri_bfP {b : Ev.BF} (hb : b = .enum ∨ b = .zip) {cs : Ev.CE} {n : Nat} {R : It → Hp → Prop} (hn : chn cs = some n) (ni : NoDun E.P (·.itr)) (t : TRI E Wx (itE E C (.bf b cs)) σ' H R) :
    TRs E Wx (Ev.evA E.P C cs) σ' H fun xs H1 => ∃ (W : Wd) (h : Hh) (ps : List PV) (r : PV), W.H = H1 ∧ RelH E W h ∧ RelPs E W ps xs ∧ ps.length = n ∧ Ev.bfun b ps = some r ∧ ∀ J, ItOk E W h (.p r) J → R J W.H := by
  obtain ⟨W, σ, h, e, r, rh, g⟩ := t
  have g : Go E W h (((Ev.evA E.P C cs σ h).bind fun vs h => Ev.bfV E.P C b vs h).bind (Ev.iterV E.P C)) (fun v W1 h1 => ∀ J, ItOk E W1 h1 v J → R J W1.H) (KX E Wx σ') := g
  rw [bind_assoc] at g
  refine ⟨W, σ, h, e, r, rh, ?_⟩
  have g := Go.bind g
  cases q : Ev.evA E.P C cs σ h with
  | bad w => rw [q] at g; exact g
  | exc ex h1 => rw [q] at g; exact g
  | ok vs h1 =>
    rw [q] at g
    refine fun W1 a xs rx => ?_
    obtain ⟨ps, r, e1, e2, k⟩ := go_bfP hb ni a.rel (g W1 a)
    have rp := pures_rel e1 rx
    exact ⟨W1, h1, ps, r, rfl, a.rel, rp, by rw [← rp.length, rx.length]; exact evA_len cs n σ h vs h1 hn q, e2, k⟩
/-! ### targets -/
def SameOut (tg : List Nat) (σ' σ1' : L2.St) : Prop := ∀ vs : List Nat, (∀ i, i ∈ tg → i ∈ vs) → L2.wipe σ1' vs = L2.wipe σ' vs
/-- a for's target: the item p -/
def TGv (E : En) (tg : List Nat) (one : Bool) : TG := fun x σ' H Q => ∃ (W : Wd) (σ : Sg) (h : Hh) (p : PV), W.H = H ∧ RelS E W h.length σ σ' ∧ RelH E W h ∧ RelP E W p x ∧ ∃ σ1, Ev.bindT tg one p σ = some σ1 ∧ ∀ σ1', RelS E W h.length σ1 σ1' → SameOut tg σ' σ1' → Q σ1' H
theorem wipe_get : ∀ (vs : List Nat) (σ : L2.St) (i : Nat), (L2.wipe σ vs)[i]? = if i ∈ vs then (σ[i]?).map fun _ => none else σ[i]?
  | [], σ, i => by simp [L2.wipe]
  | v :: vs, σ, i => by
    show ((L2.wipe σ vs).set v none)[i]? = _
    rw [List.getElem?_set]
    by_cases hv : v = i
    · subst hv
      by_cases hl : v < σ.length
      · rw [if_pos rfl, if_pos (by rw [L2.wipe_length]; exact hl)]
        simp [hl]
      · rw [if_pos rfl, if_neg (by rw [L2.wipe_length]; exact hl)]
        simp [hl]
    · rw [if_neg hv, wipe_get vs σ i]
      by_cases hi : i ∈ vs
      · rw [if_pos hi, if_pos (List.mem_cons_of_mem _ hi)]
      · rw [if_neg hi, if_neg (by simp [hi]; exact fun z => hv z.symm)]
theorem sameOut_set {σ' : L2.St} {i : Nat} {x : V} : SameOut [i] σ' (σ'.set i (some x)) := fun vs hv => by
  apply List.ext_getElem?
  intro j
  rw [wipe_get, wipe_get, List.getElem?_set]
  by_cases hj : j ∈ vs
  · rw [if_pos hj, if_pos hj]
    by_cases hij : i = j
    · subst hij
      by_cases hl : i < σ'.length
      · simp [hl]
      · simp [hl]
    · simp [hij]
  · rw [if_neg hj, if_neg hj, if_neg (fun z => hj (by rw [← z]; exact hv i (by simp)))]
theorem SameOut.trans {a b : List Nat} {σ1 σ2 σ3 : L2.St} (x : SameOut a σ1 σ2) (y : SameOut b σ2 σ3) : SameOut (a ++ b) σ1 σ3 := fun vs h => (y vs fun i hi => h i (by simp [hi])).trans (x vs fun i hi => h i (by simp [hi]))
theorem tg_name {i : Nat} {e : Expr} (h : PG X e (L2.gName i)) : PG X e (TGv E [i] true) := ⟨fun pins s σ' H x u Q I rx ⟨W, σ, hh, p, eH, r, rh, rp, σ1, eb, k⟩ => h.run pins s σ' H x u Q I rx (by
  cases eb
  exact k _ (r.set i (v := .p p) rp) sameOut_set)⟩
/-- the names of a tuple target -/
def gNs : List Nat → TGs
  | [] => L2.gNil
  | i :: is => L2.gCons (L2.gName i) (gNs is)
theorem gNs_ok {Q : L2.St → Hp → Prop} : ∀ (is : List Nat) (ps : List PV) (vs : List V) (σ σ1 : Sg) (σ' : L2.St), Ev.setAll σ is ps = some σ1 → RelPs E W ps vs → RelS E W h.length σ σ' → (∀ σ1', RelS E W h.length σ1 σ1' → SameOut is σ' σ1' → Q σ1' H) → gNs is vs σ' H Q
  | [], [], vs, σ, σ1, σ', e, rp, r, k => by
    cases e; cases rp
    exact ⟨rfl, k σ' r fun _ _ => rfl⟩
  | [], _ :: _, vs, σ, σ1, σ', e, rp, r, k => by cases e
  | _ :: _, [], vs, σ, σ1, σ', e, rp, r, k => by cases e
  | i :: is, p :: ps, _, σ, σ1, σ', e, ⟨y, t, ev, r1, r2⟩, r, k => by
    subst ev
    exact ⟨y, t, rfl, gNs_ok is ps t (σ.set i (some (.p p))) σ1 (σ'.set i (some y)) e r2 (r.set i (v := .p p) r1) fun σ1' rr so => k σ1' rr (sameOut_set.trans so)⟩
theorem setAll_len : ∀ (is : List Nat) (ps : List PV) (σ σ1 : Sg), Ev.setAll σ is ps = some σ1 → ps.length = is.length
  | [], [], _, _, _ => rfl
  | [], _ :: _, _, _, e => by cases e
  | _ :: _, [], _, _, e => by cases e
  | i :: is, p :: ps, σ, σ1, e => by simp [setAll_len is ps _ σ1 e]
theorem tg_tup {es : List Expr} {k : Nat} {pos : Pos} {is : List Nat} (hc : X.calm = true) (h : PGs X es (gNs is)) (hn : (assignEach es X.env).length = is.length := by rfl) (hst : (assignEach es X.env).findIdx? (·.1) = none := by rfl) : PG X (.Tuple es k pos) (TGv E is false) :=
  ⟨fun pins s σ' H x u Q I rx ⟨W, σ, hh, p, eH, r, rh, rp, σ1, eb, kk⟩ => (L2.pg_tup hc h hn hst).run pins s σ' H x u Q I rx (by
    subst eH
    cases p with
    | tup ps =>
      obtain ⟨a, ys, rfl, _, hq, rs⟩ := rp
      have eb : Ev.setAll σ is ps = some σ1 := eb
      exact ⟨a, ys, rfl, SqT.of hq, by rw [rs.length]; exact setAll_len is ps σ σ1 eb, gNs_ok is ps ys σ σ1 σ' eb rs r kk⟩
    | _ => cases eb)⟩
end
end Sb
set_option Elab.async false
set_option linter.all false
set_option autoImplicit false
set_option maxRecDepth 100000
set_option maxHeartbeats 2000000
/-! # Sp: loops -/
namespace Sb
open PySem PySem.Spec
open PyProof.Rows hiding St
open L2 (V Hp HO upd upd_same upd_ne VK TE TT TA TS TI TG TGs Ends WX XK PE PT PA PS PSs PI PG PGs Inv OpR SqL SqT Dp Sp Room It)
open Ev (PV Val MO Hh Sg Exc Res SR)
section
variable {E : En} {X : L2.Cx} {Wx : WX} {C : Ev.Call} {σ' : L2.St} {H : Hp} {W W' W1 W2 W3 : Wd} {h h' h1 h2 h3 : Hh} {D D' : Ends}
theorem lockO_case (h : Hh) (i : Nat) : (∃ xs, Ev.getW h i = some (.lst xs) ∧ Ev.lockO h (.r i) = some (i, .lst xs) ∧ Ev.lockH h (.r i) = h.set i (some (.lck (.lst xs)))) ∨ (Ev.lockO h (.r i) = none ∧ Ev.lockH h (.r i) = h) := by
  have e : Ev.lockO h (.r i) = match Ev.getW h i with
    | some (.lst xs) => some (i, .lst xs)
    | _ => none := rfl
  have e2 : Ev.lockH h (.r i) = match Ev.lockO h (.r i) with
    | some (i, o) => h.set i (some (.lck o))
    | none => h := rfl
  cases q : Ev.getW h i with
  | none => rw [q] at e; exact .inr ⟨e, by rw [e2, e]⟩
  | some o =>
    cases o with
    | lst xs => rw [q] at e; exact .inl ⟨xs, rfl, e, by rw [e2, e]⟩
    | _ => rw [q] at e; exact .inr ⟨e, by rw [e2, e]⟩
theorem af_lockH {v : Val} (rh : RelH E W h) : Af E W h W (Ev.lockH h v) := by
  cases v with
  | p v => exact Af.refl rh
  | r i =>
    rcases lockO_case h i with ⟨xs, q, _, e⟩ | ⟨_, e⟩
    · rw [e]; exact af_lock rh q
    · rw [e]; exact Af.refl rh
theorem lockH_len {v : Val} : (Ev.lockH h v).length = h.length := by
  unfold Ev.lockH
  cases Ev.lockO h v with
  | none => rfl
  | some q => simp
theorem af_off {v : Val} (a : Af E W (Ev.lockH h v) W' h') (e : Ev.offH (Ev.lockO h v) h' = some h2) : Af E W h W' h2 ∧ h2.length = h'.length := by
  cases v with
  | p v => cases e; exact ⟨a, rfl⟩
  | r i =>
    rcases lockO_case h i with ⟨xs, q, e1, e2⟩ | ⟨e1, e2⟩
    · rw [e2] at a
      rw [e1] at e
      have e : Ev.unlock i h' = some h2 := e
      unfold Ev.unlock at e
      cases z : Ev.getR h' i with
      | none => rw [z] at e; cases e
      | some o =>
        rw [z] at e
        cases o with
        | lck o =>
          cases o with
          | lst ys =>
            cases e
            exact ⟨af_lend q a z, by simp⟩
          | _ => cases e
        | _ => cases e
    · rw [e2] at a
      rw [e1] at e
      cases e
      exact ⟨a, rfl⟩
/-- one turn's result, put back into the loop -/
theorem loop_turn {v : Val} {r : SR} {nx : Sg → Hh → SR} (a : Af E W1 (Ev.lockH h1 v) W3 h2) (g : GoS E W1 h1 (Ev.finS (Ev.lockO h1 v) (match r with
    | .nx σ h => nx σ h
    | .ct σ h => nx σ h
    | .bk σ h => .nx σ h
    | r => r)) D Wx)
    (kn : ∀ W' σ h' σ1', Af E W1 (Ev.lockH h1 v) W' h' → RelS E W' h'.length σ σ1' → GoS E W1 h1 (Ev.finS (Ev.lockO h1 v) (nx σ h')) D Wx → D'.nx σ1' W'.H)
    (hc : D'.ct = D'.nx) (hb : D'.bk = D.nx) (hr : D'.rt = D.rt) : GoS E W3 h2 r D' Wx := by
  cases r with
  | nx σ h' => exact fun W' b σ1' rr => kn W' σ h' σ1' (a.trans b) rr g
  | ct σ h' =>
    refine fun W' b σ1' rr => ?_
    rw [hc]
    exact kn W' σ h' σ1' (a.trans b) rr g
  | bk σ h' =>
    refine fun W' b σ1' rr => ?_
    rw [hb]
    have g : GoS E W1 h1 (match Ev.offH (Ev.lockO h1 v) h' with
      | some h2 => .nx σ h2
      | none => .bad 80) D Wx := g
    cases q : Ev.offH (Ev.lockO h1 v) h' with
    | none => rw [q] at g; exact g.elim
    | some h4 =>
      rw [q] at g
      obtain ⟨a1, l1⟩ := af_off (a.trans b) q
      exact g W' a1 σ1' (by rw [l1]; exact rr)
  | rt x h' =>
    refine fun W' b y ry => ?_
    rw [hr]
    have g : GoS E W1 h1 (match Ev.offH (Ev.lockO h1 v) h' with
      | some h2 => .rt x h2
      | none => .bad 80) D Wx := g
    cases q : Ev.offH (Ev.lockO h1 v) h' with
    | none => rw [q] at g; exact g.elim
    | some h4 =>
      rw [q] at g
      obtain ⟨a1, l1⟩ := af_off (a.trans b) q
      exact g W' a1 y (by rw [l1]; exact ry)
  | exc ex σ h' =>
    refine fun W' b σ1' rr Cc d rx => ?_
    have g : GoS E W1 h1 (match Ev.offH (Ev.lockO h1 v) h' with
      | some h2 => .exc ex σ h2
      | none => .bad 80) D Wx := g
    cases q : Ev.offH (Ev.lockO h1 v) h' with
    | none => rw [q] at g; exact g.elim
    | some h4 =>
      rw [q] at g
      obtain ⟨a1, l1⟩ := af_off (a.trans b) q
      exact g W' a1 σ1' (by rw [l1]; exact rr) Cc d rx
  | bad w => exact g.elim
/-- what is gone through, then the loop -/
theorem TRS.it {cit : Ev.CE} {f : Sg → Val → Hh → SR} (t : TRS E Wx (fun σ h => Ev.srE (Ev.evE E.P C cit σ h) σ fun a h => Ev.srE (Ev.iterV E.P C a h) σ (f σ)) D σ' H) {R : It → Hp → Prop}
    (k : ∀ (W1 : Wd) (σ : Sg) (h1 : Hh) (v : Val), RelS E W1 h1.length σ σ' → RelH E W1 h1 → GoS E W1 h1 (f σ v h1) D Wx → ∀ J, ItOk E W1 h1 v J → R J W1.H) : TRI E Wx (itE E C cit) σ' H R := by
  obtain ⟨W, σ, h, e, r, rh, g⟩ := t
  refine ⟨W, σ, h, e, r, rh, ?_⟩
  have g : GoS E W h (Ev.srE (Ev.evE E.P C cit σ h) σ fun a h => Ev.srE (Ev.iterV E.P C a h) σ (f σ)) D Wx := g
  show Go E W h ((Ev.evE E.P C cit σ h).bind (Ev.iterV E.P C)) _ _
  cases q : Ev.evE E.P C cit σ h with
  | bad w => rw [q] at g; exact g
  | exc ex h1 => rw [q] at g; exact fun W' a Cc d rx => g W' a σ' (a.sg r) Cc d rx
  | ok b h1 =>
    rw [q] at g
    have g : GoS E W h (Ev.srE (Ev.iterV E.P C b h1) σ (f σ)) D Wx := g
    show Go E W h (Ev.iterV E.P C b h1) _ _
    cases q2 : Ev.iterV E.P C b h1 with
    | bad w => rw [q2] at g; exact g
    | exc ex h2 => rw [q2] at g; exact fun W' a Cc d rx => g W' a σ' (a.sg r) Cc d rx
    | ok c h2 =>
      rw [q2] at g
      exact fun W' a => k W' σ h2 c (a.sg r) a.rel (GoS.later a g)
theorem ts_for {tg iter : Expr} {body : List Stmt} {cit : Ev.CE} {tgs : List Nat} {one : Bool} {cb : Ev.CS} {pos : Pos} (hp : PassesOwn (model X.prog X.w) X.A X.env X.xe) (hc : X.calm = true) (hi : PI X tg iter (TRI E Wx (itE E C cit))) (hg : PG X tg (TGv E tgs one)) (hb : PSsv E X Wx C body cb)
    (hs : ∀ x, foldedSetIterable iter X.env x = pure x := by intro _; rfl) : PSv E X Wx C (.For tg iter body [] pos) (.for_ tgs one cit cb) := ps_weak (L2.ps_for hp hc hi hg hb hs) fun D σ' H t => by
  let F : PV → Sg → Hh → SR := fun x σ h => match Ev.bindT tgs one x σ with
    | some σ1 => Ev.exS E.P C cb σ1 h
    | none => .bad 66
  refine TRS.it (cit := cit) (f := fun σ c h => match Ev.itemsV h c with
    | some xs => Ev.lendS c h fun h => Ev.loopS F xs σ h
    | none => .bad 66) t fun W1 σ h1 v r rh g J ⟨xs, ex, it⟩ => ?_
  rw [ex] at g
  have g : GoS E W1 h1 (Ev.finS (Ev.lockO h1 v) (Ev.loopS F xs σ (Ev.lockH h1 v))) D Wx := g
  refine ⟨fun i m σ2' H2 => m = xs.length - i ∧ i ≤ xs.length ∧ ∃ W2 σ2 h2, W2.H = H2 ∧ RelS E W2 h2.length σ2 σ2' ∧ Af E W1 (Ev.lockH h1 v) W2 h2 ∧ GoS E W1 h1 (Ev.finS (Ev.lockO h1 v) (Ev.loopS F (xs.drop i) σ2 h2)) D Wx,
    ⟨_, rfl, Nat.zero_le _, W1, σ, _, rfl, by rw [lockH_len]; exact r, Af.refl (af_lockH rh).rel, g⟩, ?_⟩
  rintro i m σ2' H2 ⟨rfl, hi, W2, σ2, h2, rfl, r2, a2, g2⟩
  obtain ⟨st, go⟩ := it W1 (Sub.refl rh) W2 h2 a2 i
  by_cases hl : i < xs.length
  · refine .inr ⟨(go xs[i] (List.getElem?_eq_getElem hl)).1, fun σ3' H3 => ∃ W3 σ3 h3, W3.H = H3 ∧ RelS E W3 h3.length σ3 σ3' ∧ Af E W1 (Ev.lockH h1 v) W3 h3 ∧ GoS E W1 h1 (Ev.finS (Ev.lockO h1 v) (Ev.loopS F (xs.drop (i + 1)) σ3 h3)) D Wx, fun σ3' H3 z => ⟨xs.length - (i + 1), by omega, rfl, hl, z⟩, fun x H' hy => ?_⟩
    obtain ⟨W3, a3, rfl, rx⟩ := (go xs[i] (List.getElem?_eq_getElem hl)).2 x H' hy
    rw [List.drop_eq_getElem_cons hl] at g2
    have g2 : GoS E W1 h1 (Ev.finS (Ev.lockO h1 v) (match F xs[i] σ2 h2 with
      | .nx σ h => Ev.loopS F (xs.drop (i + 1)) σ h
      | .ct σ h => Ev.loopS F (xs.drop (i + 1)) σ h
      | .bk σ h => .nx σ h
      | r => r)) D Wx := g2
    refine ⟨W3, σ2, h2, xs[i], rfl, a3.sg r2, a3.rel, rx, ?_⟩
    cases eb : Ev.bindT tgs one xs[i] σ2 with
    | none =>
      have : F xs[i] σ2 h2 = .bad 66 := by show (match Ev.bindT tgs one xs[i] σ2 with | some σ1 => _ | none => _) = _; rw [eb]
      rw [this] at g2
      exact g2.elim
    | some σ1 =>
      have e : F xs[i] σ2 h2 = Ev.exS E.P C cb σ1 h2 := by show (match Ev.bindT tgs one xs[i] σ2 with | some σ1 => _ | none => _) = _; rw [eb]
      rw [e] at g2
      exact ⟨σ1, rfl, fun σ1' r1 _ => ⟨W3, σ1, h2, rfl, r1, a3.rel, loop_turn (nx := fun σ h => Ev.loopS F (xs.drop (i + 1)) σ h) (a2.trans a3) g2 (fun W' σ h' σ1' b rr g => ⟨W', σ, h', rfl, rr, b, g⟩) rfl rfl rfl⟩⟩
  · have hi' : i = xs.length := by omega
    refine .inl ⟨st (by omega), ?_⟩
    rw [hi', List.drop_length] at g2
    have g2 : GoS E W1 h1 (match Ev.offH (Ev.lockO h1 v) h2 with
      | some h2 => .nx σ2 h2
      | none => .bad 80) D Wx := g2
    cases q : Ev.offH (Ev.lockO h1 v) h2 with
    | none => rw [q] at g2; exact g2.elim
    | some h4 =>
      rw [q] at g2
      obtain ⟨a1, l1⟩ := af_off a2 q
      exact g2 W2 a1 σ2' (by rw [l1]; exact r2)
theorem ts_while {t : Expr} {body : List Stmt} {ct : Ev.CE} {cb : Ev.CS} {pos : Pos} (hp : PassesOwn (model X.prog X.w) X.A X.env X.xe) (ht : PTv E X Wx C t ct) (hb : PSsv E X Wx C body cb) : PSv E X Wx C (.While t body [] pos) (.whl ct cb) := ps_weak (L2.ps_while hp ht hb) fun D σ' H ⟨W, σ, h, e, r, rh, g⟩ => by
  refine ⟨fun m σ2' H2 => ∃ W2 σ2 h2, W2.H = H2 ∧ RelS E W2 h2.length σ2 σ2' ∧ RelH E W2 h2 ∧ GoS E W2 h2 (Ev.loopW (Ev.evE E.P C ct) (Ev.exS E.P C cb) m σ2 h2) D Wx, ⟨Ev.fuelW, W, σ, h, e, r, rh, g⟩, ?_⟩
  rintro m σ2' H2 ⟨W2, σ2, h2, rfl, r2, rh2, g2⟩
  cases m with
  | zero => exact g2.elim
  | succ m =>
    have g2 : GoS E W2 h2 (match Ev.evE E.P C ct σ2 h2 with
      | .ok (.p (.bl true)) h => match Ev.exS E.P C cb σ2 h with
        | .nx σ h => Ev.loopW (Ev.evE E.P C ct) (Ev.exS E.P C cb) m σ h
        | .ct σ h => Ev.loopW (Ev.evE E.P C ct) (Ev.exS E.P C cb) m σ h
        | .bk σ h => .nx σ h
        | r => r
      | .ok (.p (.bl false)) h => .nx σ2 h
      | .ok _ _ => .bad 62
      | .exc e h => .exc e σ2 h
      | .bad w => .bad w) D Wx := g2
    refine ⟨W2, σ2, h2, rfl, r2, rh2, ?_⟩
    cases q : Ev.evE E.P C ct σ2 h2 with
    | bad w => rw [q] at g2; exact g2
    | exc ex h3 => rw [q] at g2; exact fun W' a Cc d rx => g2 W' a σ2' (a.sg r2) Cc d rx
    | ok v h3 =>
      rw [q] at g2
      refine fun W' a x rx => ?_
      cases v with
      | r i => exact g2.elim
      | p v =>
        cases v with
        | bl b =>
          refine ⟨b, rx, ?_⟩
          cases b with
          | false => exact g2 W' a σ2' (a.sg r2)
          | true =>
            rw [if_pos rfl]
            refine ⟨fun σ3' H3 => ∃ W3 σ3 h3, W3.H = H3 ∧ RelS E W3 h3.length σ3 σ3' ∧ RelH E W3 h3 ∧ GoS E W3 h3 (Ev.loopW (Ev.evE E.P C ct) (Ev.exS E.P C cb) m σ3 h3) D Wx, fun σ3' H3 z => ⟨m, Nat.lt_succ_self m, z⟩, W', σ2, h3, rfl, a.sg r2, a.rel, ?_⟩
            have g3 := GoS.later a g2
            have g3 : GoS E W' h3 (match Ev.exS E.P C cb σ2 h3 with
              | .nx σ h => Ev.loopW (Ev.evE E.P C ct) (Ev.exS E.P C cb) m σ h
              | .ct σ h => Ev.loopW (Ev.evE E.P C ct) (Ev.exS E.P C cb) m σ h
              | .bk σ h => .nx σ h
              | r => r) D Wx := g3
            cases q2 : Ev.exS E.P C cb σ2 h3 with
            | nx σ4 h4 => rw [q2] at g3; exact fun W4 b σ4' rr => ⟨W4, σ4, h4, rfl, rr, b.rel, GoS.later b g3⟩
            | ct σ4 h4 => rw [q2] at g3; exact fun W4 b σ4' rr => ⟨W4, σ4, h4, rfl, rr, b.rel, GoS.later b g3⟩
            | bk σ4 h4 => rw [q2] at g3; exact g3
            | rt x4 h4 => rw [q2] at g3; exact g3
            | exc e4 σ4 h4 => rw [q2] at g3; exact g3
            | bad w => rw [q2] at g3; exact g3
        | _ => exact g2.elim
end
end Sb
set_option Elab.async false
set_option linter.all false
set_option autoImplicit false
set_option maxRecDepth 100000
set_option maxHeartbeats 2000000
/-! # Sq: comprehensions -/
namespace Sb
open PySem PySem.Spec
open PyProof.Rows hiding St
open L2 (V Hp HO upd upd_same upd_ne VK TE TT TA TS TI TG TGs Ends WX XK PE PT PA PS PSs PI PG PGs PTs Inv OpR SqL SqT Dp Sp Room It)
open Ev (PV Val MO Hh Sg Exc Res SR)
section
variable {E : En} {X : L2.Cx} {Wx : WX} {C : Ev.Call} {σ' : L2.St} {H : Hp} {W W' W1 W2 W3 : Wd} {h h' h1 h2 h3 : Hh} {D : Addr} {acc : List V}
/-- a list of the machine's own beside the world -/
structure Side (E : En) (W : Wd) (h : Hh) (D : Addr) (acc : List V) : Prop where
  at_ : W.H D = some (.lst acc)
  nf : ¬ W.F D
  nr : ∀ i u, Ev.getR h i = some u → W.ρ i ≠ D
theorem Side.after (s : Side E W h D acc) (a : Af E W h W' h') : Side E W' h' D acc where
  at_ := a.keep D _ s.at_ (fun i u q => s.nr i u (getW_R q)) (fun _ z => nomatch z)
  nf := fun z => by
    rcases a.fro D z with z | z | ⟨i, u, q, z⟩
    · exact s.nf z
    · rw [s.at_] at z; cases z
    · exact s.nr i u q z
  nr := fun i u q z => by
    by_cases hi : i < h.length
    · obtain ⟨u0, q0⟩ := a.oldR i u hi q
      exact s.nr i u0 q0 (by rw [← a.rho i hi]; exact z)
    · have := a.new i u (Nat.le_of_not_lt hi) q
      rw [z, s.at_] at this
      cases this
def Wd.put (W : Wd) (D : Addr) (o : HO) : Wd := ⟨upd W.H D o, W.F, W.ρ⟩
theorem ex_put {o : HO} (nf : ¬ W.F D) : Ex W (W.put D o) := ⟨fun b hb => ⟨hb, upd_ne fun z => nf (by rw [← z]; exact hb)⟩⟩
theorem relH_put {o : HO} (rh : RelH E W h) (nf : ¬ W.F D) (nr : ∀ i u, Ev.getR h i = some u → W.ρ i ≠ D) (hD : W.H D = none ∨ ∃ xs, W.H D = some (.lst xs)) : RelH E (W.put D o) h where
  tab := tab_chg rh.tab (x := D) (v := o) (fun o' e => by
    rcases hD with z | ⟨xs, z⟩
    · rw [e] at z; cases z
    · rw [e] at z
      cases z
      exact ⟨(fun _ z => nomatch z), (fun _ _ z => nomatch z)⟩) rfl (fun b hb => hb)
  frz := fun b hb => by
    obtain ⟨x, q⟩ := rh.frz b hb
    exact ⟨x, by show upd W.H D o b = _; rw [upd_ne (fun z => nf (by rw [← z]; exact hb))]; exact q⟩
  live := fun i u q => (rh.live i u q).mono (ex_put nf) (Nat.le_refl _) (fun _ _ => rfl) (upd_ne (nr i u q))
  out := rh.out
  inj := rh.inj
/-- the list beside is laid, is written -/
theorem af_put {o : HO} (a : Af E W1 h1 W h) (h0 : W1.H D = none) (nf : ¬ W.F D) (nr : ∀ i u, Ev.getR h i = some u → W.ρ i ≠ D) (hD : W.H D = none ∨ ∃ xs, W.H D = some (.lst xs)) : Af E W1 h1 (W.put D o) h where
  rel := relH_put a.rel nf nr hD
  len := a.len
  rho := a.rho
  ex := a.ex.trans (ex_put nf)
  keep := fun b x q no nt => by
    show upd W.H D o b = _
    rw [upd_ne (fun z => by rw [z, h0] at q; cases q)]
    exact a.keep b x q no nt
  fro := a.fro
  dom := fun b x q => by
    obtain ⟨x', q'⟩ := a.dom b x q
    exact ⟨x', by show upd W.H D o b = _; rw [upd_ne (fun z => by rw [z, h0] at q; cases q)]; exact q'⟩
  old := a.old
  oldR := a.oldR
  new := a.new
/-- it is frozen -/
theorem af_sideF (a : Af E W1 h1 W h) (h0 : W1.H D = none) (s : Side E W h D acc) : Af E W1 h1 ⟨W.H, fun b => W.F b ∨ b = D, W.ρ⟩ h where
  rel := by
    have x : Ex W ⟨W.H, fun b => W.F b ∨ b = D, W.ρ⟩ := ⟨fun b hb => ⟨.inl hb, rfl⟩⟩
    exact ⟨⟨a.rel.tab.1, fun p hp z => z.elim (a.rel.tab.2 p hp) fun z => by
      obtain ⟨ps, q⟩ := tab_at a.rel.tab hp
      rw [z, s.at_] at q
      cases q⟩, fun b hb => hb.elim (a.rel.frz b) fun z => ⟨.lst acc, by cases z; exact s.at_⟩, fun i u q => (a.rel.live i u q).mono x (Nat.le_refl _) (fun _ _ => rfl) rfl, fun i u q z => z.elim (a.rel.out i u q) (s.nr i u q), a.rel.inj⟩
  len := a.len
  rho := a.rho
  ex := ⟨fun b hb => ⟨.inl (a.ex.fro b hb).1, (a.ex.fro b hb).2⟩⟩
  keep := a.keep
  fro := fun b z => z.elim (a.fro b) fun z => .inr (.inl (by rw [z]; exact h0))
  dom := a.dom
  old := a.old
  oldR := a.oldR
  new := a.new
/-- it is taken into the heap -/
theorem af_sideR {vs : List Val} (a : Af E W1 h1 W h) (h0 : W1.H D = none) (s : Side E W h D acc) (rv : RelVals E W h.length vs acc) : Af E W1 h1 ⟨W.H, W.F, fun i => if i = h.length then D else W.ρ i⟩ (h ++ [some (.lst vs)]) where
  rel := by
    have x : Ex W ⟨W.H, W.F, fun i => if i = h.length then D else W.ρ i⟩ := ⟨fun b hb => ⟨hb, rfl⟩⟩
    have hr : ∀ i, i < h.length → (if i = h.length then D else W.ρ i) = W.ρ i := fun i hi => if_neg (Nat.ne_of_lt hi)
    have ll : (h ++ [some (MO.lst vs)]).length = h.length + 1 := by simp
    have key : ∀ {i u}, Ev.getR (h ++ [some (MO.lst vs)]) i = some u → (i = h.length ∧ u = MO.lst vs) ∨ (i < h.length ∧ Ev.getR h i = some u) := fun {i u} q => by
      rw [getR_app] at q
      by_cases hi : i = h.length
      · rw [if_pos hi] at q; cases q; exact .inl ⟨hi, rfl⟩
      · rw [if_neg hi] at q; exact .inr ⟨getR_lt q, q⟩
    refine ⟨a.rel.tab, a.rel.frz, fun i u q => ?_, fun i u q => ?_, fun i j u v q1 q2 z => ?_⟩
    · rw [ll]
      rcases key q with ⟨rfl, rfl⟩ | ⟨hi, q⟩
      · show RelO E _ _ _ (if h.length = h.length then D else W.ρ h.length)
        rw [if_pos rfl]
        exact ⟨acc, s.at_, rv.mono x (Nat.le_succ _) hr⟩
      · show RelO E _ _ _ (if i = h.length then D else W.ρ i)
        rw [hr i hi]
        exact (a.rel.live i u q).mono x (Nat.le_succ _) hr rfl
    · rcases key q with ⟨rfl, rfl⟩ | ⟨hi, q⟩
      · show ¬ W.F (if h.length = h.length then D else W.ρ h.length)
        rw [if_pos rfl]
        exact s.nf
      · show ¬ W.F (if i = h.length then D else W.ρ i)
        rw [hr i hi]
        exact a.rel.out i u q
    · have z : (if i = h.length then D else W.ρ i) = (if j = h.length then D else W.ρ j) := z
      rcases key q1 with ⟨rfl, rfl⟩ | ⟨hi, q1⟩
      · rcases key q2 with ⟨e, _⟩ | ⟨hj, q2⟩
        · exact e.symm
        · rw [if_pos rfl, hr j hj] at z
          exact absurd z.symm (s.nr j v q2)
      · rcases key q2 with ⟨rfl, _⟩ | ⟨hj, q2⟩
        · rw [if_pos rfl, hr i hi] at z
          exact absurd z (s.nr i u q1)
        · rw [hr i hi, hr j hj] at z
          exact a.rel.inj i j u v q1 q2 z
  len := by simp; have := a.len; omega
  rho := fun i hi => by
    have := a.len
    show (if i = h.length then D else W.ρ i) = _
    rw [if_neg (by omega)]
    exact a.rho i hi
  ex := ⟨fun b hb => a.ex.fro b hb⟩
  keep := a.keep
  fro := a.fro
  dom := a.dom
  old := fun i u hi q => by
    have := a.len
    exact a.old i u hi (getW_app (by omega) q)
  oldR := fun i u hi q => by
    have := a.len
    rw [getR_app, if_neg (by omega)] at q
    exact a.oldR i u hi q
  new := fun i u hl q => by
    rw [getR_app] at q
    show W1.H (if i = h.length then D else W.ρ i) = none
    by_cases hi : i = h.length
    · rw [if_pos hi]; exact h0
    · rw [if_neg hi] at q ⊢
      exact a.new i u hl q
/-! ### tests of a clause -/
def TTg (E : En) (Wx : WX) (m : Sg → Hh → Res Bool) : TT := fun σ' H Q => ∃ (W : Wd) (σ : Sg) (h : Hh), W.H = H ∧ RelS E W h.length σ σ' ∧ RelH E W h ∧ Go E W h (m σ h) (fun b W _ => Q b W.H) (KX E Wx σ')
theorem pts_weak {ifs : List Expr} {t t' : TT} (h : PTs X ifs t) (k : ∀ σ H Q, t' σ H Q → t σ H Q) : PTs X ifs t' := ⟨fun pins s σ H Q I q => h.run pins s σ H Q I (k σ H Q q)⟩
theorem tts_nil : PTs X [] (TTg E Wx (Ev.evT E.P C .nil)) := pts_weak L2.pts_nil fun σ' H Q ⟨W, σ, h, e, r, rh, g⟩ => by
  subst e
  exact Go.ok (v := true) rh g
theorem tts_one {c : Expr} {cc : Ev.CE} (hc : PTv E X Wx C c cc) : PTs X [c] (TTg E Wx (Ev.evT E.P C (.cons cc .nil))) := pts_weak (L2.pts_one hc) fun σ' H Q ⟨W, σ, h, e, r, rh, g⟩ => by
  refine ⟨W, σ, h, e, r, rh, ?_⟩
  have g : Go E W h (match Ev.evE E.P C cc σ h with
    | .ok (.p (.bl true)) h => .ok true h
    | .ok (.p (.bl false)) h => .ok false h
    | .ok _ _ => .bad 49
    | .exc e h => .exc e h
    | .bad w => .bad w) (fun b W _ => Q b W.H) (KX E Wx σ') := g
  cases q : Ev.evE E.P C cc σ h with
  | bad w => rw [q] at g; exact g
  | exc ex h1 => rw [q] at g; exact g
  | ok v h1 =>
    rw [q] at g
    refine fun W' a x rx => ?_
    cases v with
    | r i => exact g.elim
    | p v =>
      cases v with
      | bl b =>
        refine ⟨b, rx, ?_⟩
        cases b with
        | true => exact g W' a
        | false => exact g W' a
      | _ => exact g.elim
/-- a clause's tests, then the rest -/
theorem TTg.first {α : Type} {m : Sg → Hh → Res Bool} {f : Bool → Hh → Res α} {K : α → Wd → Hh → Prop} {σ : Sg} {Q : Bool → Hp → Prop} (r : RelS E W h.length σ σ') (rh : RelH E W h) {KX0 : Exc → Wd → Prop} (g : Go E W h ((m σ h).bind f) K (fun _ _ => False))
    (k : ∀ b W1 h1, Af E W h W1 h1 → Go E W1 h1 (f b h1) K (fun _ _ => False) → Q b W1.H) : TTg E Wx m σ' W.H Q := by
  refine ⟨W, σ, h, rfl, r, rh, ?_⟩
  cases q : m σ h with
  | bad w => rw [q] at g; exact g
  | exc ex h1 => rw [q] at g; exact fun W' a => (g W' a).elim
  | ok b h1 => rw [q] at g; exact fun W' a => k b W' h1 a (Go.later a g)
theorem Go.quiet {α : Type} {r : Res α} {K : α → Wd → Hh → Prop} {KX0 : Exc → Wd → Prop} (g : Go E W h (Ev.quiet r) K KX0) : Go E W h r K (fun _ _ => False) := by
  cases r with
  | ok v h1 => exact g
  | exc ex h1 => exact g.elim
  | bad w => exact g
/-- a list that is made: at D, beside the world, or taken into it -/
theorem mkL_end {m : Bool} {vs : List Val} {Q : VK} (h0 : W1.H D = none) (a : Af E W1 h1 W h) (s : Side E W h D acc) (rv : RelVals E W h.length vs acc) {KX0 : Exc → Wd → Prop} (g : Go E W1 h1 (Ev.mkL m vs h) (KV E Q) KX0) : Q (.ref D) W.H := by
  unfold Ev.mkL at g
  cases el : Ev.okLen vs with
  | false => rw [el] at g; exact g.elim
  | true =>
    rw [el] at g
    cases m with
    | true => exact g _ (af_sideR a h0 s rv) (.ref D) ⟨by simp, by show V.ref D = V.ref (if h.length = h.length then D else _); rw [if_pos rfl]⟩
    | false =>
      cases ep : Ev.pures vs with
      | none => simp only [ep] at g; exact g.elim
      | some ps =>
        simp only [ep] at g
        exact g _ (af_sideF a h0 s) (.ref D) ⟨D, acc, rfl, .inr rfl, s.at_, (pures_rel ep rv).mono (show Ex W ⟨W.H, fun b => W.F b ∨ b = D, W.ρ⟩ from ⟨fun b hb => ⟨Or.inl hb, rfl⟩⟩)⟩
theorem RelS.wipe {n : Nat} {σ : Sg} {σ1 : L2.St} : ∀ (vs : List Nat), RelS E W n σ σ1 → RelS E W n (Ev.wipe σ vs) σ1
  | [], r => r
  | v :: vs, r => by
    have ih := RelS.wipe vs r
    refine ⟨by show ((Ev.wipe σ vs).set v none).length = _; rw [List.length_set]; exact ih.1, fun i x e => ?_⟩
    have e : ((Ev.wipe σ vs).set v none)[i]? = some (some x) := e
    rw [List.getElem?_set] at e
    by_cases hi : v = i
    · rw [if_pos hi] at e
      split at e <;> cases e
    · rw [if_neg hi] at e
      exact ih.2 i x e
theorem ewipe_get {σ : Sg} : ∀ (vs : List Nat) (i : Nat) (x : Val), (Ev.wipe σ vs)[i]? = some (some x) → i ∉ vs ∧ σ[i]? = some (some x)
  | [], i, x, e => ⟨by simp, e⟩
  | v :: vs, i, x, e => by
    have e : ((Ev.wipe σ vs).set v none)[i]? = some (some x) := e
    rw [List.getElem?_set] at e
    by_cases hi : v = i
    · rw [if_pos hi] at e
      split at e <;> cases e
    · rw [if_neg hi] at e
      obtain ⟨h1, h2⟩ := ewipe_get vs i x e
      exact ⟨by simp [h1]; exact fun z => hi z.symm, h2⟩
/-- slots wiped on both sides -/
theorem RelS.wipe2 {n : Nat} {σ : Sg} {σ1 : L2.St} {vs ws : List Nat} (hv : ∀ i, i ∈ ws → i ∈ vs) (r : RelS E W n (Ev.wipe σ vs) σ1) : RelS E W n (Ev.wipe σ vs) (L2.wipe σ1 ws) := ⟨by rw [L2.wipe_length]; exact r.1, fun i x e => by
  obtain ⟨y, e1, e2⟩ := r.2 i x e
  refine ⟨y, ?_, e2⟩
  rw [wipe_get, if_neg (fun z => (ewipe_get vs i x e).1 (hv i z))]
  exact e1⟩
theorem finR_first {α β γ : Type} {v0 : Val} {r : Res α} {f : α → Hh → Res β} {g2 : β → Hh → Res γ} {K : γ → Wd → Hh → Prop} (a : Af E W1 (Ev.lockH h1 v0) W3 h2) (g : Go E W1 h1 ((Ev.finR (Ev.lockO h1 v0) (r.bind f)).bind g2) K (fun _ _ => False)) :
    Go E W3 h2 r (fun v W' h' => Go E W1 h1 ((Ev.finR (Ev.lockO h1 v0) (f v h')).bind g2) K (fun _ _ => False)) (fun _ _ => False) := by
  cases r with
  | ok v h' => exact fun W' b => g
  | bad w => exact g
  | exc ex h' =>
    refine fun W' b => ?_
    have g : Go E W1 h1 ((match Ev.offH (Ev.lockO h1 v0) h' with
      | some h2 => .exc ex h2
      | none => .bad 80 : Res β).bind g2) K (fun _ _ => False) := g
    cases q : Ev.offH (Ev.lockO h1 v0) h' with
    | none => rw [q] at g; exact g.elim
    | some h4 =>
      rw [q] at g
      obtain ⟨a1, l1⟩ := af_off (a.trans b) q
      exact g W' a1
theorem finR_len {v0 : Val} {r : Res (List Val)} {acc : List Val} {m : Bool} {K : Val → Wd → Hh → Prop} (a : Af E W1 (Ev.lockH h1 v0) W3 h2) (hr : ∀ ex h', r ≠ .exc ex h') (g : Go E W1 h1 ((Ev.finR (Ev.lockO h1 v0) (r.bind fun ws h => .ok (acc ++ ws) h)).bind fun vs h => Ev.mkL m vs h) K (fun _ _ => False)) : acc.length ≤ sizeLine := by
  cases r with
  | bad w => exact g.elim
  | exc ex h' =>
    exact absurd rfl (hr ex h')
  | ok ws h' =>
    have g : Go E W1 h1 ((match Ev.offH (Ev.lockO h1 v0) h' with
      | some h2 => .ok (acc ++ ws) h2
      | none => .bad 80 : Res (List Val)).bind fun vs h => Ev.mkL m vs h) K (fun _ _ => False) := g
    cases q : Ev.offH (Ev.lockO h1 v0) h' with
    | none => rw [q] at g; exact g.elim
    | some h4 =>
      rw [q] at g
      have g : Go E W1 h1 (Ev.mkL m (acc ++ ws) h4) K (fun _ _ => False) := g
      unfold Ev.mkL at g
      cases el : Ev.okLen (acc ++ ws) with
      | false => rw [el] at g; exact g.elim
      | true =>
        have := okLen_ok el
        rw [List.length_append] at this
        omega
abbrev W0 : WX := fun _ _ _ _ => False
theorem wipe_idem {σ1 : L2.St} {vs : List Nat} : L2.wipe (L2.wipe σ1 vs) vs = L2.wipe σ1 vs := by
  apply List.ext_getElem?
  intro j
  rw [wipe_get, wipe_get]
  by_cases hj : j ∈ vs
  · rw [if_pos hj, if_pos hj]
    cases σ1[j]? <;> rfl
  · rw [if_neg hj, if_neg hj]
theorem mkL_ne {m : Bool} {vs : List Val} {e : Exc} : Ev.mkL m vs h ≠ .exc e h' := by
  unfold Ev.mkL
  cases Ev.okLen vs with
  | false => exact fun z => nomatch z
  | true =>
    cases m with
    | true => exact fun z => nomatch z
    | false => cases Ev.pures vs <;> exact fun z => nomatch z
theorem quiet_mk {r : Res (List Val)} {m : Bool} {K : Val → Wd → Hh → Prop} {KX0 : Exc → Wd → Prop} (g : Go E W h ((Ev.quiet r).bind fun vs h => Ev.mkL m vs h) K KX0) : (∀ e h', r ≠ .exc e h') ∧ Go E W h (r.bind fun vs h => Ev.mkL m vs h) K (fun _ _ => False) := by
  cases r with
  | bad w => exact ⟨(fun _ _ z => nomatch z), g⟩
  | exc ex h1 => exact g.elim
  | ok vs h1 =>
    refine ⟨(fun _ _ z => nomatch z), ?_⟩
    have g : Go E W h (Ev.mkL m vs h1) K KX0 := g
    show Go E W h (Ev.mkL m vs h1) K (fun _ _ => False)
    cases q : Ev.mkL m vs h1 with
    | ok v h2 => rw [q] at g; exact g
    | exc e h2 => exact absurd q mkL_ne
    | bad w => rw [q] at g; exact g
theorem Go.told {α : Type} {r : Res α} {K : α → Wd → Hh → Prop} {X1 : Exc → Wd → Prop} (g : Go E W h r K X1) : Go E W h r (fun v W' h' => r = .ok v h' ∧ K v W' h') X1 := by
  cases r with
  | ok v h' => exact fun W' b => ⟨rfl, g W' b⟩
  | exc e h' => exact g
  | bad w => exact g
theorem Go.mono {α : Type} {r : Res α} {K K' : α → Wd → Hh → Prop} {X1 X2 : Exc → Wd → Prop} (g : Go E W h r K X1) (k : ∀ v W' h', Af E W h W' h' → K v W' h' → K' v W' h') (kx : ∀ e W', X1 e W' → X2 e W') : Go E W h r K' X2 := by
  cases r with
  | ok v h' => exact fun W' b => k v W' h' b (g W' b)
  | exc e h' => exact fun W' b => kx e W' (g W' b)
  | bad w => exact g
theorem off_get {l : Option (Nat × MO)} {i : Nat} {u : MO} (e : Ev.offH l h = some h') (q : Ev.getR h' i = some u) : ∃ u', Ev.getR h i = some u' := by
  cases l with
  | none => cases e; exact ⟨u, q⟩
  | some p =>
    have e : Ev.unlock p.1 h = some h' := e
    unfold Ev.unlock at e
    cases z : Ev.getR h p.1 with
    | none => rw [z] at e; cases e
    | some o =>
      rw [z] at e
      cases o with
      | lck o =>
        cases o with
        | lst ys =>
          cases e
          rw [getR_set] at q
          by_cases hi : p.1 = i
          · rw [← hi]; exact ⟨_, z⟩
          · rw [if_neg (fun y => hi y.1)] at q
            exact ⟨u, q⟩
        | _ => cases e
      | _ => cases e
/-- the list that a clause's loop makes -/
theorem lc_loop {cit cifs ce : Ev.CE} {tgs own : List Nat} {one m : Bool} (hsub : ∀ i, i ∈ tgs → i ∈ own) {σ' : L2.St} {H : Hp} {Q : VK} (t : TR E Wx (Ev.evE E.P C (.lc m own (.cls tgs one cit cifs (.cend ce)))) σ' H Q) :
    L2.tLc (TRI E Wx (itE E C cit)) (TGv E tgs one) (TTg E W0 (Ev.evT E.P C cifs)) (TR E W0 (Ev.evE E.P C ce)) own σ' H Q := by
  obtain ⟨W, σ, h, e, r, rh, g⟩ := t
  let F : PV → Hh → Res (List Val) := fun x h => match Ev.bindT tgs one x (Ev.wipe (Ev.wipe σ own) tgs) with
    | some σ1 => match Ev.evT E.P C cifs σ1 h with
      | .ok true h => (Ev.evE E.P C ce σ1 h).bind fun x h => .ok [x] h
      | .ok false h => .ok [] h
      | .exc e h => .exc e h
      | .bad w => .bad w
    | none => .bad 46
  have g : Go E W h ((Ev.quiet ((Ev.evE E.P C cit (Ev.wipe σ own) h).bind fun a h => (Ev.iterV E.P C a h).bind fun b h => match Ev.itemsV h b with
    | some xs => Ev.lendR b h fun h => Ev.loopA F xs h
    | none => .bad 46)).bind fun vs h => Ev.mkL m vs h) (KV E Q) (KX E Wx σ') := g
  obtain ⟨hne, g⟩ := quiet_mk g
  have g : Go E W h ((itE E C cit (Ev.wipe σ own) h).bind fun b h => (match Ev.itemsV h b with
    | some xs => Ev.lendR b h fun h => Ev.loopA F xs h
    | none => .bad 46 : Res (List Val)).bind fun vs h => Ev.mkL m vs h) (KV E Q) (fun _ _ => False) := by
    show Go E W h (((Ev.evE E.P C cit (Ev.wipe σ own) h).bind (Ev.iterV E.P C)).bind _) _ _
    rw [bind_assoc]
    rw [bind_assoc] at g
    have e : (fun v h => ((Ev.iterV E.P C v h).bind fun b h => match Ev.itemsV h b with
      | some xs => Ev.lendR b h fun h => Ev.loopA F xs h
      | none => .bad 46).bind fun vs h => Ev.mkL m vs h) = fun v h => (Ev.iterV E.P C v h).bind fun b h => (match Ev.itemsV h b with
      | some xs => Ev.lendR b h fun h => Ev.loopA F xs h
      | none => .bad 46 : Res (List Val)).bind fun vs h => Ev.mkL m vs h := by
      funext v h
      rw [bind_assoc]
    rw [e] at g
    exact g
  refine ⟨W, Ev.wipe σ own, h, e, r.wipe own, rh, (Go.bind g).told.mono (fun v W1 h1 a1 ⟨eit, g⟩ J ⟨xs, ex, it⟩ D hD => ?_) fun _ _ z => z.elim⟩
  rw [ex] at g
  have g : Go E W1 h1 ((Ev.finR (Ev.lockO h1 v) (Ev.loopA F xs (Ev.lockH h1 v))).bind fun vs h => Ev.mkL m vs h) (KV E Q) (fun _ _ => False) := g
  have hx0 : ∀ e h', Ev.loopA F xs (Ev.lockH h1 v) ≠ .exc e h' := fun e h' z => by
    have eit : ((Ev.evE E.P C cit (Ev.wipe σ own) h).bind (Ev.iterV E.P C)) = .ok v h1 := eit
    have key : ((Ev.evE E.P C cit (Ev.wipe σ own) h).bind fun a h => (Ev.iterV E.P C a h).bind fun b h => match Ev.itemsV h b with
      | some xs => Ev.lendR b h fun h => Ev.loopA F xs h
      | none => .bad 46) = Ev.finR (Ev.lockO h1 v) (Ev.loopA F xs (Ev.lockH h1 v)) := by
      rw [← bind_assoc, eit]
      show (match Ev.itemsV h1 v with
        | some xs => Ev.lendR v h1 fun h => Ev.loopA F xs h
        | none => .bad 46) = _
      rw [ex]
      rfl
    rw [key, z] at hne
    rw [z] at g
    have f : Ev.finR (Ev.lockO h1 v) (.exc e h' : Res (List Val)) = match Ev.offH (Ev.lockO h1 v) h' with
      | some h2 => .exc e h2
      | none => .bad 80 := rfl
    rw [f] at hne g
    cases q : Ev.offH (Ev.lockO h1 v) h' with
    | none => rw [q] at g; exact g.elim
    | some h4 => rw [q] at hne; exact hne _ _ rfl
  have r1 := a1.sg r
  have nf1 : ¬ W1.F D := fun z => by
    obtain ⟨o, q⟩ := a1.rel.frz D z
    rw [hD] at q; cases q
  have nr1 : ∀ i u, Ev.getR (Ev.lockH h1 v) i = some u → W1.ρ i ≠ D := fun i u q z => by
    obtain ⟨o, q2⟩ := ((af_lockH (v := v) a1.rel).rel.live i u q).some
    rw [z, hD] at q2; cases q2
  have aS := af_put (o := .lst []) (Af.refl (af_lockH (v := v) a1.rel).rel) hD nf1 nr1 (.inl hD)
  refine ⟨fun i k H2 => k = xs.length - i ∧ i ≤ xs.length ∧ ∃ W2 h2 accV acc, W2.H = H2 ∧ Af E W1 (Ev.lockH h1 v) W2 h2 ∧ Side E W2 h2 D acc ∧ RelVals E W2 h2.length accV acc ∧ (∀ e h', Ev.loopA F (xs.drop i) h2 ≠ .exc e h') ∧
      Go E W1 h1 ((Ev.finR (Ev.lockO h1 v) ((Ev.loopA F (xs.drop i) h2).bind fun ws h => .ok (accV ++ ws) h)).bind fun vs h => Ev.mkL m vs h) (KV E Q) (fun _ _ => False),
    ⟨_, rfl, Nat.zero_le _, W1.put D (.lst []), Ev.lockH h1 v, [], [], rfl, aS, ⟨upd_same, nf1, nr1⟩, rfl, hx0, ?_⟩, ?_⟩
  · have e : ((Ev.loopA F (xs.drop 0) (Ev.lockH h1 v)).bind fun ws h => .ok (([] : List Val) ++ ws) h) = Ev.loopA F xs (Ev.lockH h1 v) := by
      show ((Ev.loopA F xs (Ev.lockH h1 v)).bind fun ws h => .ok (([] : List Val) ++ ws) h) = _
      cases Ev.loopA F xs (Ev.lockH h1 v) <;> rfl
    rw [e]
    exact g
  · rintro i k H2 ⟨rfl, hi, W2, h2, accV, acc, rfl, a2, s2, rv2, hx2, g2⟩
    obtain ⟨st, go⟩ := it W1 (Sub.refl a1.rel) W2 h2 a2 i
    by_cases hl : i < xs.length
    · refine .inr ⟨(go xs[i] (List.getElem?_eq_getElem hl)).1, fun H3 => ∃ W3 h3 accV acc, W3.H = H3 ∧ Af E W1 (Ev.lockH h1 v) W3 h3 ∧ Side E W3 h3 D acc ∧ RelVals E W3 h3.length accV acc ∧ (∀ e h', Ev.loopA F (xs.drop (i + 1)) h3 ≠ .exc e h') ∧
        Go E W1 h1 ((Ev.finR (Ev.lockO h1 v) ((Ev.loopA F (xs.drop (i + 1)) h3).bind fun ws h => .ok (accV ++ ws) h)).bind fun vs h => Ev.mkL m vs h) (KV E Q) (fun _ _ => False), fun H3 z => ⟨xs.length - (i + 1), by omega, rfl, hl, z⟩, fun x H' hy => ?_⟩
      obtain ⟨W3, a3, rfl, rx⟩ := (go xs[i] (List.getElem?_eq_getElem hl)).2 x H' hy
      rw [List.drop_eq_getElem_cons hl] at g2 hx2
      have s3 := s2.after a3
      have rv3 := a3.vals rv2
      have r3 : RelS E W3 h2.length σ σ' := a3.sg (a2.sg (by rw [lockH_len]; exact r1))
      refine ⟨W3, Ev.wipe (Ev.wipe σ own) tgs, h2, xs[i], rfl, ((r3.wipe own).wipe2 fun _ z => z).wipe tgs, a3.rel, rx, ?_⟩
      cases eb : Ev.bindT tgs one xs[i] (Ev.wipe (Ev.wipe σ own) tgs) with
      | none =>
        exfalso
        have eF : F xs[i] h2 = .bad 46 := by show (match Ev.bindT tgs one xs[i] (Ev.wipe (Ev.wipe σ own) tgs) with | some σ1 => _ | none => _) = _; rw [eb]
        have eL : Ev.loopA F (xs[i] :: xs.drop (i + 1)) h2 = .bad 46 := by
          show (match F xs[i] h2 with
            | .ok vs h1 => match Ev.loopA F (xs.drop (i + 1)) h1 with
              | .ok ws h2 => .ok (vs ++ ws) h2
              | .exc e h2 => .exc e h2
              | .bad w => .bad w
            | .exc e h1 => .exc e h1
            | .bad w => .bad w : Res (List Val)) = _
          rw [eF]
        rw [eL] at g2
        exact g2
      | some σ1 =>
        refine ⟨σ1, rfl, fun σ1' rr so => ⟨(so own hsub).trans wipe_idem, ?_⟩⟩
        let fb : Bool → Hh → Res (List Val) := fun b h => match b with
          | true => (Ev.evE E.P C ce σ1 h).bind fun x h => .ok [x] h
          | false => .ok [] h
        have eF : F xs[i] h2 = (Ev.evT E.P C cifs σ1 h2).bind fb := by
          show (match Ev.bindT tgs one xs[i] (Ev.wipe (Ev.wipe σ own) tgs) with | some σ1 => _ | none => _) = _
          rw [eb]
          show (match Ev.evT E.P C cifs σ1 h2 with
            | .ok true h => (Ev.evE E.P C ce σ1 h).bind fun x h => .ok [x] h
            | .ok false h => .ok [] h
            | .exc e h => .exc e h
            | .bad w => .bad w : Res (List Val)) = _
          cases Ev.evT E.P C cifs σ1 h2 with
          | ok b h => cases b <;> rfl
          | exc e h => rfl
          | bad w => rfl
        have eL : Ev.loopA F (xs[i] :: xs.drop (i + 1)) h2 = (F xs[i] h2).bind fun vs h => (Ev.loopA F (xs.drop (i + 1)) h).bind fun ws h => .ok (vs ++ ws) h := by
          show (match F xs[i] h2 with
            | .ok vs h1 => match Ev.loopA F (xs.drop (i + 1)) h1 with
              | .ok ws h2 => .ok (vs ++ ws) h2
              | .exc e h2 => .exc e h2
              | .bad w => .bad w
            | .exc e h1 => .exc e h1
            | .bad w => .bad w : Res (List Val)) = _
          cases F xs[i] h2 with
          | ok vs h =>
            show (match Ev.loopA F (xs.drop (i + 1)) h with
              | .ok ws h2 => .ok (vs ++ ws) h2
              | .exc e h2 => .exc e h2
              | .bad w => .bad w : Res (List Val)) = (Ev.loopA F (xs.drop (i + 1)) h).bind fun ws h => .ok (vs ++ ws) h
            cases Ev.loopA F (xs.drop (i + 1)) h <;> rfl
          | exc e h => rfl
          | bad w => rfl
        let G : List Val → Hh → Res (List Val) := fun vs h => (Ev.loopA F (xs.drop (i + 1)) h).bind fun ws h => .ok ((accV ++ vs) ++ ws) h
        have eT : ((Ev.loopA F (xs[i] :: xs.drop (i + 1)) h2).bind fun ws h => .ok (accV ++ ws) h) = (Ev.evT E.P C cifs σ1 h2).bind fun b h => (fb b h).bind G := by
          rw [eL, eF, bind_assoc, bind_assoc]
          congr 1
          funext b h
          congr 1
          funext vs h
          rw [bind_assoc]
          congr 1
          funext ws h
          show Res.ok (accV ++ (vs ++ ws)) h = Res.ok ((accV ++ vs) ++ ws) h
          rw [List.append_assoc]
        rw [eT] at g2
        rw [eL, eF, bind_assoc] at hx2
        have a23 := a2.trans a3
        refine ⟨W3, σ1, h2, rfl, rr, a3.rel, (finR_first a23 g2).told.mono (fun b W4 h4 a4 ⟨eb4, g4⟩ => ?_) fun _ _ z => z.elim⟩
        rw [eb4] at hx2
        cases b with
        | false =>
          rw [if_neg (by decide)]
          refine ⟨W4, h4, accV, acc, rfl, a23.trans a4, s3.after a4, a4.vals rv3, fun e h' z => hx2 e h' ?_, ?_⟩
          · show ((fb false h4).bind fun vs h => (Ev.loopA F (xs.drop (i + 1)) h).bind fun ws h => .ok (vs ++ ws) h) = _
            show (Ev.loopA F (xs.drop (i + 1)) h4).bind _ = _
            rw [z]
            rfl
          · have g4 : Go E W1 h1 ((Ev.finR (Ev.lockO h1 v) ((Ev.loopA F (xs.drop (i + 1)) h4).bind fun ws h => .ok ((accV ++ []) ++ ws) h)).bind fun vs h => Ev.mkL m vs h) (KV E Q) (fun _ _ => False) := g4
            rw [List.append_nil] at g4
            exact g4
        | true =>
          rw [if_pos rfl]
          have g4 : Go E W1 h1 ((Ev.finR (Ev.lockO h1 v) (((Ev.evE E.P C ce σ1 h4).bind fun x h => .ok [x] h).bind G)).bind fun vs h => Ev.mkL m vs h) (KV E Q) (fun _ _ => False) := g4
          rw [bind_assoc] at g4
          have a24 := a23.trans a4
          refine ⟨W4, σ1, h4, rfl, a4.sg rr, a4.rel, (finR_first a24 g4).told.mono (fun y W5 h5 a5 ⟨ey, g5⟩ z rz => ?_) fun _ _ z => z.elim⟩
          have g5 : Go E W1 h1 ((Ev.finR (Ev.lockO h1 v) ((Ev.loopA F (xs.drop (i + 1)) h5).bind fun ws h => .ok ((accV ++ [y]) ++ ws) h)).bind fun vs h => Ev.mkL m vs h) (KV E Q) (fun _ _ => False) := g5
          have a25 := a24.trans a5
          have s5 := (s3.after a4).after a5
          have hx5 : ∀ e h', Ev.loopA F (xs.drop (i + 1)) h5 ≠ .exc e h' := fun e h' z => hx2 e h' (by
            show ((fb true h4).bind fun vs h => (Ev.loopA F (xs.drop (i + 1)) h).bind fun ws h => .ok (vs ++ ws) h) = _
            have : fb true h4 = .ok [y] h5 := by show (Ev.evE E.P C ce σ1 h4).bind _ = _; rw [ey]; rfl
            rw [this]
            show (Ev.loopA F (xs.drop (i + 1)) h5).bind _ = _
            rw [z]
            rfl)
          have ln := finR_len a25 hx5 g5
          rw [List.length_append] at ln
          have rv5 := a5.vals (a4.vals rv3)
          refine ⟨acc, s5.at_, by rw [rv5.length]; simp at ln; omega, W5.put D (.lst (acc ++ [z])), h5, accV ++ [y], acc ++ [z], rfl, af_put a25 hD s5.nf s5.nr (.inr ⟨_, s5.at_⟩), ⟨upd_same, s5.nf, s5.nr⟩, ?_, hx5, g5⟩
          exact (rv5.mono (ex_put s5.nf) (Nat.le_refl _) fun _ _ => rfl).append ⟨z, [], rfl, RelVal.mono (ex_put s5.nf) (Nat.le_refl _) (fun _ _ => rfl) rz, rfl⟩
    · have hi' : i = xs.length := by omega
      refine .inl ⟨st (by omega), ?_⟩
      rw [hi', List.drop_length] at g2
      have g2 : Go E W1 h1 ((match Ev.offH (Ev.lockO h1 v) h2 with
        | some h2 => .ok (accV ++ []) h2
        | none => .bad 80 : Res (List Val)).bind fun vs h => Ev.mkL m vs h) (KV E Q) (fun _ _ => False) := g2
      cases q : Ev.offH (Ev.lockO h1 v) h2 with
      | none => rw [q] at g2; exact g2.elim
      | some h4 =>
        rw [q, List.append_nil] at g2
        obtain ⟨b1, l1⟩ := af_off a2 q
        refine mkL_end (acc := acc) hD b1 ⟨s2.at_, s2.nf, fun i u z => ?_⟩ (by rw [l1]; exact rv2) g2
        obtain ⟨u', z'⟩ := off_get q z
        exact s2.nr i u' z'
end
end Sb
set_option Elab.async false
set_option linter.all false
set_option autoImplicit false
set_option maxRecDepth 100000
set_option maxHeartbeats 2000000
/-! # Sr: comprehensions of two clauses; the rules -/
namespace Sb
open PySem PySem.Spec
open PyProof.Rows hiding St
open L2 (V Hp HO upd upd_same upd_ne VK TE TT TA TS TI TG TGs Ends WX XK PE PT PA PS PSs PI PG PGs PTs Inv OpR SqL SqT Dp Sp Room It BlkOk)
open Ev (PV Val MO Hh Sg Exc Res SR)
section
variable {E : En} {X : L2.Cx} {Wx : WX} {C : Ev.Call} {σ' : L2.St} {H : Hp} {W W' W1 W2 W3 Wb : Wd} {h h' h1 h2 h3 hb : Hh} {D : Addr} {acc : List V}
/-- two locks, one in the other -/
theorem finR2_first {α β : Type} {v0 b0 : Val} {r : Res α} {f : α → Hh → Res β} {G : β → Hh → Res (List Val)} {m : Bool} {K : Val → Wd → Hh → Prop} (aB : Af E W1 (Ev.lockH h1 v0) Wb hb) (a : Af E Wb (Ev.lockH hb b0) W3 h2)
    (g : Go E W1 h1 ((Ev.finR (Ev.lockO h1 v0) ((Ev.finR (Ev.lockO hb b0) (r.bind f)).bind G)).bind fun vs h => Ev.mkL m vs h) K (fun _ _ => False)) :
    Go E W3 h2 r (fun v W' h' => Go E W1 h1 ((Ev.finR (Ev.lockO h1 v0) ((Ev.finR (Ev.lockO hb b0) (f v h')).bind G)).bind fun vs h => Ev.mkL m vs h) K (fun _ _ => False)) (fun _ _ => False) := by
  cases r with
  | ok v h' => exact fun W' b => g
  | bad w => exact g
  | exc ex h' =>
    refine fun W' b => ?_
    have f : (Ev.finR (Ev.lockO hb b0) (.exc ex h' : Res β)) = match Ev.offH (Ev.lockO hb b0) h' with
      | some h2 => .exc ex h2
      | none => .bad 80 := rfl
    have g : Go E W1 h1 ((Ev.finR (Ev.lockO h1 v0) ((Ev.finR (Ev.lockO hb b0) (.exc ex h' : Res β)).bind G)).bind fun vs h => Ev.mkL m vs h) K (fun _ _ => False) := g
    rw [f] at g
    cases q : Ev.offH (Ev.lockO hb b0) h' with
    | none => rw [q] at g; exact g.elim
    | some h4 =>
      rw [q] at g
      obtain ⟨a1, l1⟩ := af_off (a.trans b) q
      have g : Go E W1 h1 ((match Ev.offH (Ev.lockO h1 v0) h4 with
        | some h2 => .exc ex h2
        | none => .bad 80 : Res (List Val)).bind fun vs h => Ev.mkL m vs h) K (fun _ _ => False) := g
      cases q2 : Ev.offH (Ev.lockO h1 v0) h4 with
      | none => rw [q2] at g; exact g.elim
      | some h5 =>
        rw [q2] at g
        obtain ⟨a2, l2⟩ := af_off (aB.trans a1) q2
        exact g W' a2
/-- how long it gets, where nothing is raised -/
theorem finR2_len {b0 v0 : Val} {r : Res (List Val)} {a0 a1 : List Val} {G : List Val → Hh → Res (List Val)} {m : Bool} {K : Val → Wd → Hh → Prop} (hr : ∀ ex h', ((Ev.finR (Ev.lockO hb b0) (r.bind fun ws h => .ok (a1 ++ ws) h)).bind G) ≠ .exc ex h')
    (hG : ∀ vs h ws h', G vs h = .ok ws h' → ∃ t, ws = a0 ++ (vs ++ t)) (g : Go E W1 h1 ((Ev.finR (Ev.lockO h1 v0) ((Ev.finR (Ev.lockO hb b0) (r.bind fun ws h => .ok (a1 ++ ws) h)).bind G)).bind fun vs h => Ev.mkL m vs h) K (fun _ _ => False)) : a0.length + a1.length ≤ sizeLine := by
  cases q : ((Ev.finR (Ev.lockO hb b0) (r.bind fun ws h => .ok (a1 ++ ws) h)).bind G) with
  | bad w => rw [q] at g; exact g.elim
  | exc ex h' => exact absurd q (hr ex h')
  | ok ws h' =>
    rw [q] at g
    have g : Go E W1 h1 ((match Ev.offH (Ev.lockO h1 v0) h' with
      | some h2 => .ok ws h2
      | none => .bad 80 : Res (List Val)).bind fun vs h => Ev.mkL m vs h) K (fun _ _ => False) := g
    cases q2 : Ev.offH (Ev.lockO h1 v0) h' with
    | none => rw [q2] at g; exact g.elim
    | some h4 =>
      rw [q2] at g
      have g : Go E W1 h1 (Ev.mkL m ws h4) K (fun _ _ => False) := g
      unfold Ev.mkL at g
      cases el : Ev.okLen ws with
      | false => rw [el] at g; exact g.elim
      | true =>
        have := okLen_ok el
        cases q3 : r with
        | bad w => rw [q3] at q; cases q
        | exc ex h5 =>
          rw [q3] at q
          have q : ((match Ev.offH (Ev.lockO hb b0) h5 with
            | some h2 => .exc ex h2
            | none => .bad 80 : Res (List Val)).bind G) = .ok ws h' := q
          cases q4 : Ev.offH (Ev.lockO hb b0) h5 <;> rw [q4] at q <;> cases q
        | ok vs h5 =>
          rw [q3] at q
          have q : ((match Ev.offH (Ev.lockO hb b0) h5 with
            | some h2 => .ok (a1 ++ vs) h2
            | none => .bad 80 : Res (List Val)).bind G) = .ok ws h' := q
          cases q4 : Ev.offH (Ev.lockO hb b0) h5 with
          | none => rw [q4] at q; cases q
          | some h6 =>
            rw [q4] at q
            obtain ⟨t, rfl⟩ := hG _ _ _ _ (show G (a1 ++ vs) h6 = .ok ws h' from q)
            simp at this
            omega
theorem loopA_cons {f : PV → Hh → Res (List Val)} {x : PV} {xs : List PV} : Ev.loopA f (x :: xs) h = (f x h).bind fun vs h => (Ev.loopA f xs h).bind fun ws h => .ok (vs ++ ws) h := by
  show (match f x h with
    | .ok vs h1 => match Ev.loopA f xs h1 with
      | .ok ws h2 => .ok (vs ++ ws) h2
      | .exc e h2 => .exc e h2
      | .bad w => .bad w
    | .exc e h1 => .exc e h1
    | .bad w => .bad w : Res (List Val)) = _
  cases f x h with
  | ok vs h =>
    show (match Ev.loopA f xs h with
      | .ok ws h2 => .ok (vs ++ ws) h2
      | .exc e h2 => .exc e h2
      | .bad w => .bad w : Res (List Val)) = (Ev.loopA f xs h).bind fun ws h => .ok (vs ++ ws) h
    cases Ev.loopA f xs h <;> rfl
  | exc e h => rfl
  | bad w => rfl
/-- a clause's turn, as the evaluator makes it -/
def turnF (E : En) (C : Ev.Call) (tgs : List Nat) (one : Bool) (cifs r : Ev.CE) (σ : Sg) : PV → Hh → Res (List Val) := fun x h => match Ev.bindT tgs one x (Ev.wipe σ tgs) with
  | some σ1 => match Ev.evT E.P C cifs σ1 h with
    | .ok true h => Ev.evC E.P C r σ1 h
    | .ok false h => .ok [] h
    | .exc e h => .exc e h
    | .bad w => .bad w
  | none => .bad 46
def turnB (E : En) (C : Ev.Call) (r : Ev.CE) (σ1 : Sg) : Bool → Hh → Res (List Val) := fun b h => match b with
  | true => Ev.evC E.P C r σ1 h
  | false => .ok [] h
theorem turnF_some {tgs : List Nat} {one : Bool} {cifs r : Ev.CE} {σ σ1 : Sg} {x : PV} (eb : Ev.bindT tgs one x (Ev.wipe σ tgs) = some σ1) : turnF E C tgs one cifs r σ x h = (Ev.evT E.P C cifs σ1 h).bind (turnB E C r σ1) := by
  unfold turnF
  rw [eb]
  show (match Ev.evT E.P C cifs σ1 h with
    | .ok true h => Ev.evC E.P C r σ1 h
    | .ok false h => .ok [] h
    | .exc e h => .exc e h
    | .bad w => .bad w : Res (List Val)) = _
  cases Ev.evT E.P C cifs σ1 h with
  | ok b h => cases b <;> rfl
  | exc e h => rfl
  | bad w => rfl
theorem turnF_none {tgs : List Nat} {one : Bool} {cifs r : Ev.CE} {σ : Sg} {x : PV} (eb : Ev.bindT tgs one x (Ev.wipe σ tgs) = none) : turnF E C tgs one cifs r σ x h = .bad 46 := by
  unfold turnF
  rw [eb]
theorem evC_cls {tgs : List Nat} {one : Bool} {cit cifs r : Ev.CE} {σ : Sg} : Ev.evC E.P C (.cls tgs one cit cifs r) σ h = (itE E C cit σ h).bind fun b h => match Ev.itemsV h b with
    | some xs => Ev.lendR b h fun h => Ev.loopA (turnF E C tgs one cifs r σ) xs h
    | none => .bad 46 := by
  show ((Ev.evE E.P C cit σ h).bind fun a h => (Ev.iterV E.P C a h).bind fun b h => match Ev.itemsV h b with
    | some xs => Ev.lendR b h fun h => Ev.loopA (turnF E C tgs one cifs r σ) xs h
    | none => .bad 46) = ((Ev.evE E.P C cit σ h).bind (Ev.iterV E.P C)).bind _
  rw [bind_assoc]
theorem app_turn {F : PV → Hh → Res (List Val)} {x : PV} {xs : List PV} {a : List Val} {m : Res Bool} {f : Bool → Hh → Res (List Val)} (e : F x h = m.bind f) : ((Ev.loopA F (x :: xs) h).bind fun ws h => .ok (a ++ ws) h) = m.bind fun b h => (f b h).bind fun vs h => (Ev.loopA F xs h).bind fun ws h => .ok ((a ++ vs) ++ ws) h := by
  rw [loopA_cons, e, bind_assoc, bind_assoc]
  congr 1
  funext b h
  congr 1
  funext vs h
  rw [bind_assoc]
  congr 1
  funext ws h
  show Res.ok (a ++ (vs ++ ws)) h = Res.ok ((a ++ vs) ++ ws) h
  rw [List.append_assoc]
/-- the world without the list beside it -/
def Wd.drop (W : Wd) (D : Addr) : Wd := ⟨fun a => if a = D then none else W.H a, W.F, W.ρ⟩
theorem drop_ne {a : Addr} (h : a ≠ D) : (W.drop D).H a = W.H a := if_neg h
theorem drop_at : (W.drop D).H D = none := if_pos rfl
theorem sub_drop (rh : RelH E W h) (s : Side E W h D acc) : Sub E W h (W.drop D) := by
  have x : Ex W (W.drop D) := ⟨fun b hb => ⟨hb, drop_ne fun z => s.nf (by rw [← z]; exact hb)⟩⟩
  refine ⟨x, ⟨⟨fun p hp => ?_, rh.tab.2⟩, fun b hb => ?_, fun i u q => (rh.live i u q).mono x (Nat.le_refl _) (fun _ _ => rfl) (drop_ne (s.nr i u q)), rh.out, rh.inj⟩, rfl, fun i u q => drop_ne (s.nr i u q)⟩
  · obtain ⟨ps, h1, h2, h3⟩ := rh.tab.1 p hp
    refine ⟨ps, ?_, h2, fun pos cv hc => ?_⟩
    · rw [drop_ne (fun z => by rw [z, s.at_] at h1; cases h1)]
      exact h1
    · obtain ⟨c, e1, e2⟩ := h3 pos cv hc
      refine ⟨c, e1, ?_⟩
      rw [drop_ne (fun z => by rw [z, s.at_] at e2; cases e2)]
      exact e2
  · obtain ⟨o, q⟩ := rh.frz b hb
    exact ⟨o, by rw [drop_ne (fun z => s.nf (by rw [← z]; exact hb))]; exact q⟩
theorem af_drop (a : Af E W1 h1 W h) (h0 : W1.H D = none) (s : Side E W h D acc) : Af E W1 h1 (W.drop D) h where
  rel := (sub_drop a.rel s).rel
  len := a.len
  rho := a.rho
  ex := a.ex.trans (sub_drop a.rel s).ex
  keep := fun b x q no nt => by
    rw [drop_ne (fun z => by rw [z, h0] at q; cases q)]
    exact a.keep b x q no nt
  fro := a.fro
  dom := fun b x q => by
    rw [drop_ne (fun z => by rw [z, h0] at q; cases q)]
    exact a.dom b x q
  old := a.old
  oldR := a.oldR
  new := a.new
/-- the inner loop -/
theorem inner_loop {ce cit1 cifs1 : Ev.CE} {tgs1 own : List Nat} {one1 m : Bool} {σ1 : Sg} {σ1' : L2.St} {v0 b0 : Val} {G : List Val → Hh → Res (List Val)} {accV : List Val} {K : Val → Wd → Hh → Prop} {J1 : It} {xs1 : List PV} {Nx : Hp → Prop}
    (hD : W1.H D = none) (aB : Af E W1 (Ev.lockH h1 v0) Wb hb) (sB : Side E Wb hb D acc) (rB : RelVals E Wb hb.length accV acc) (rS : RelS E Wb hb.length σ1 σ1')
    (it : ∀ (W0 : Wd), Sub E Wb hb W0 → ∀ (W2 : Wd) (h2 : Hh), Af E W0 (Ev.lockH hb b0) W2 h2 → ∀ i : Nat, (xs1.length ≤ i → J1.stop i W2.H) ∧ ∀ p, xs1[i]? = some p → J1.go i W2.H ∧ ∀ x H', J1.yld i W2.H x H' → ∃ W3, Af E W2 h2 W3 h2 ∧ W3.H = H' ∧ RelP E W3 p x)
    (hG : ∀ vs h ws h', G vs h = .ok ws h' → ∃ t, ws = accV ++ (vs ++ t))
    (hx : ∀ ex h', ((Ev.finR (Ev.lockO hb b0) ((Ev.loopA (turnF E C tgs1 one1 cifs1 (.cend ce) σ1) xs1 (Ev.lockH hb b0)).bind fun ws h => .ok (([] : List Val) ++ ws) h)).bind G) ≠ .exc ex h')
    (g : Go E W1 h1 ((Ev.finR (Ev.lockO h1 v0) ((Ev.finR (Ev.lockO hb b0) ((Ev.loopA (turnF E C tgs1 one1 cifs1 (.cend ce) σ1) xs1 (Ev.lockH hb b0)).bind fun ws h => .ok (([] : List Val) ++ ws) h)).bind G)).bind fun vs h => Ev.mkL m vs h) K (fun _ _ => False))
    (nx : ∀ (W2 : Wd) (h4 : Hh) (aI : List Val) (accI : List V), Af E W1 (Ev.lockH h1 v0) W2 h4 → Side E W2 h4 D (acc ++ accI) → RelVals E W2 h4.length (accV ++ aI) (acc ++ accI) → (∀ ex h', G aI h4 ≠ .exc ex h') → Go E W1 h1 ((Ev.finR (Ev.lockO h1 v0) (G aI h4)).bind fun vs h => Ev.mkL m vs h) K (fun _ _ => False) → Nx W2.H) :
    ∃ W1f : Nat → Nat → Hp → Prop, (∃ m, W1f 0 m Wb.H) ∧ ∀ j k H, W1f j k H → (J1.stop j H ∧ Nx H) ∨ (J1.go j H ∧ ∃ Nx1 : Hp → Prop, (∀ H', Nx1 H' → ∃ k', k' < k ∧ W1f (j + 1) k' H') ∧ ∀ x H', J1.yld j H x H' → TGv E tgs1 one1 x (L2.wipe σ1' tgs1) H' fun σ3 H5 => L2.wipe σ3 tgs1 = L2.wipe σ1' tgs1 ∧ TTg E W0 (Ev.evT E.P C cifs1) σ3 H5 fun b H6 =>
      if b = true then TR E W0 (Ev.evE E.P C ce) σ3 H6 fun y H7 => ∃ acc, H7 D = some (.lst acc) ∧ acc.length < sizeLine ∧ Nx1 (upd H7 D (.lst (acc ++ [y]))) else Nx1 H6) := by
  let F := turnF E C tgs1 one1 cifs1 (.cend ce) σ1
  let T : Nat → List Val → Hh → Res (List Val) := fun j aI h2 => (Ev.finR (Ev.lockO hb b0) ((Ev.loopA F (xs1.drop j) h2).bind fun ws h => .ok (aI ++ ws) h)).bind G
  have aB0 := af_drop aB hD sB
  have sub := sub_drop aB.rel sB
  have rS0 : RelS E (Wb.drop D) hb.length σ1 σ1' := rS.mono sub.ex (Nat.le_refl _) fun _ _ => rfl
  have aL : Af E (Wb.drop D) (Ev.lockH hb b0) Wb (Ev.lockH hb b0) := by
    have z := af_put (o := .lst acc) (Af.refl (af_lockH (v := b0) sub.rel).rel) (drop_at (W := Wb)) (fun z => sB.nf z) (fun i u q => (sB.after (af_lockH (v := b0) aB.rel)).nr i u q) (.inl drop_at)
    have e : (Wb.drop D).put D (.lst acc) = Wb := by
      have : upd (Wb.drop D).H D (.lst acc) = Wb.H := by
        funext a
        by_cases ha : a = D
        · rw [ha, upd_same, sB.at_]
        · rw [upd_ne ha, drop_ne ha]
      show (⟨upd (Wb.drop D).H D (.lst acc), Wb.F, Wb.ρ⟩ : Wd) = Wb
      rw [this]
    rw [e] at z
    exact z
  refine ⟨fun j k H2 => k = xs1.length - j ∧ j ≤ xs1.length ∧ ∃ W2 h2 aI accI, W2.H = H2 ∧ Af E (Wb.drop D) (Ev.lockH hb b0) W2 h2 ∧ Side E W2 h2 D (acc ++ accI) ∧ RelVals E W2 h2.length (accV ++ aI) (acc ++ accI) ∧ (∀ ex h', T j aI h2 ≠ .exc ex h') ∧
      Go E W1 h1 ((Ev.finR (Ev.lockO h1 v0) (T j aI h2)).bind fun vs h => Ev.mkL m vs h) K (fun _ _ => False),
    ⟨_, rfl, Nat.zero_le _, Wb, Ev.lockH hb b0, [], [], rfl, aL, by rw [List.append_nil]; exact sB.after (af_lockH aB.rel), by rw [List.append_nil, List.append_nil, lockH_len]; exact rB, hx, g⟩, ?_⟩
  rintro j k H2 ⟨rfl, hj, W2, h2, aI, accI, rfl, a2, s2, rv2, hx2, g2⟩
  obtain ⟨st, go⟩ := it _ sub W2 h2 a2 j
  by_cases hl : j < xs1.length
  · refine .inr ⟨(go xs1[j] (List.getElem?_eq_getElem hl)).1, fun H3 => ∃ W3 h3 aI accI, W3.H = H3 ∧ Af E (Wb.drop D) (Ev.lockH hb b0) W3 h3 ∧ Side E W3 h3 D (acc ++ accI) ∧ RelVals E W3 h3.length (accV ++ aI) (acc ++ accI) ∧ (∀ ex h', T (j + 1) aI h3 ≠ .exc ex h') ∧
        Go E W1 h1 ((Ev.finR (Ev.lockO h1 v0) (T (j + 1) aI h3)).bind fun vs h => Ev.mkL m vs h) K (fun _ _ => False), fun H3 z => ⟨xs1.length - (j + 1), by omega, rfl, hl, z⟩, fun x H' hy => ?_⟩
    obtain ⟨W3, a3, rfl, rx⟩ := (go xs1[j] (List.getElem?_eq_getElem hl)).2 x H' hy
    have a23 := a2.trans a3
    have s3 := s2.after a3
    have rv3 := a3.vals rv2
    have r3 : RelS E W3 h2.length σ1 σ1' := a3.sg (a2.sg (by rw [lockH_len]; exact rS0))
    have rw3 : RelS E W3 h2.length (Ev.wipe σ1 tgs1) (L2.wipe σ1' tgs1) := (r3.wipe tgs1).wipe2 fun _ z => z
    refine ⟨W3, Ev.wipe σ1 tgs1, h2, xs1[j], rfl, rw3, a3.rel, rx, ?_⟩
    cases eb : Ev.bindT tgs1 one1 xs1[j] (Ev.wipe σ1 tgs1) with
    | none =>
      exfalso
      have eL : T j aI h2 = .bad 46 := by
        show (Ev.finR (Ev.lockO hb b0) ((Ev.loopA F (xs1.drop j) h2).bind fun ws h => .ok (aI ++ ws) h)).bind G = _
        rw [List.drop_eq_getElem_cons hl, loopA_cons, show F xs1[j] h2 = .bad 46 from turnF_none eb]
        rfl
      rw [eL] at g2
      exact g2
    | some σ2 =>
      refine ⟨σ2, rfl, fun σ2' rr so => ⟨(so tgs1 fun _ z => z).trans wipe_idem, ?_⟩⟩
      have eT : T j aI h2 = (Ev.finR (Ev.lockO hb b0) ((Ev.evT E.P C cifs1 σ2 h2).bind fun b h => (turnB E C (.cend ce) σ2 b h).bind fun vs h => (Ev.loopA F (xs1.drop (j + 1)) h).bind fun ws h => .ok ((aI ++ vs) ++ ws) h)).bind G := by
        show (Ev.finR (Ev.lockO hb b0) ((Ev.loopA F (xs1.drop j) h2).bind fun ws h => .ok (aI ++ ws) h)).bind G = _
        rw [List.drop_eq_getElem_cons hl, app_turn (show F xs1[j] h2 = _ from turnF_some eb)]
      rw [eT] at g2 hx2
      refine ⟨W3, σ2, h2, rfl, rr, a3.rel, (finR2_first aB0 a23 g2).told.mono (fun b W4 h4 a4 ⟨eb4, g4⟩ => ?_) fun _ _ z => z.elim⟩
      rw [eb4] at hx2
      have a24 := a23.trans a4
      have s4 := s3.after a4
      have rv4 := a4.vals rv3
      cases b with
      | false =>
        rw [if_neg (by decide)]
        have e0 : ((Ev.finR (Ev.lockO hb b0) ((turnB E C (.cend ce) σ2 false h4).bind fun vs h => (Ev.loopA F (xs1.drop (j + 1)) h).bind fun ws h => .ok ((aI ++ vs) ++ ws) h)).bind G) = T (j + 1) aI h4 := by
          show (Ev.finR (Ev.lockO hb b0) ((Ev.loopA F (xs1.drop (j + 1)) h4).bind fun ws h => .ok ((aI ++ []) ++ ws) h)).bind G = _
          rw [List.append_nil]
        rw [e0] at g4
        exact ⟨W4, h4, aI, accI, rfl, a24, s4, rv4, fun ex h' z => hx2 ex h' (by rw [← e0] at z; exact z), g4⟩
      | true =>
        rw [if_pos rfl]
        have e0 : (fun h4 => (turnB E C (.cend ce) σ2 true h4).bind fun vs h => (Ev.loopA F (xs1.drop (j + 1)) h).bind fun ws h => .ok ((aI ++ vs) ++ ws) h) = fun h4 => (Ev.evE E.P C ce σ2 h4).bind fun x h => (Ev.loopA F (xs1.drop (j + 1)) h).bind fun ws h => .ok ((aI ++ [x]) ++ ws) h := by
          funext h4
          show ((Ev.evE E.P C ce σ2 h4).bind fun x h => .ok [x] h).bind _ = _
          rw [bind_assoc]
          rfl
        have e1 := congrFun e0 h4
        rw [e1] at g4
        refine ⟨W4, σ2, h4, rfl, a4.sg rr, a4.rel, (finR2_first aB0 a24 g4).told.mono (fun y W5 h5 a5 ⟨ey, g5⟩ z rz => ?_) fun _ _ z => z.elim⟩
        have hx5 : ∀ ex h', T (j + 1) (aI ++ [y]) h5 ≠ .exc ex h' := fun ex h' z => hx2 ex h' (by
          show ((Ev.finR (Ev.lockO hb b0) ((turnB E C (.cend ce) σ2 true h4).bind fun vs h => (Ev.loopA F (xs1.drop (j + 1)) h).bind fun ws h => .ok ((aI ++ vs) ++ ws) h)).bind G) = _
          rw [e1, ey]
          exact z)
        have ln := finR2_len hx5 hG g5
        rw [List.length_append] at ln
        have s5 := s4.after a5
        have rv5 := a5.vals rv4
        have a25 := a24.trans a5
        have hDb : Wb.H D ≠ none := fun z => by rw [sB.at_] at z; cases z
        refine ⟨acc ++ accI, s5.at_, by rw [rv5.length, List.length_append]; simp at ln; omega, W5.put D (.lst ((acc ++ accI) ++ [z])), h5, aI ++ [y], accI ++ [z], rfl, ?_, ?_, ?_, hx5, g5⟩
        · exact af_put a25 drop_at s5.nf s5.nr (.inr ⟨_, s5.at_⟩)
        · rw [← List.append_assoc]; exact ⟨upd_same, s5.nf, s5.nr⟩
        · rw [← List.append_assoc, ← List.append_assoc]
          exact (rv5.mono (ex_put s5.nf) (Nat.le_refl _) fun _ _ => rfl).append ⟨z, [], rfl, RelVal.mono (ex_put s5.nf) (Nat.le_refl _) (fun _ _ => rfl) rz, rfl⟩
  · have hj' : j = xs1.length := by omega
    refine .inl ⟨st (by omega), ?_⟩
    have e0 : T j aI h2 = (match Ev.offH (Ev.lockO hb b0) h2 with
      | some h2 => .ok (aI ++ []) h2
      | none => .bad 80 : Res (List Val)).bind G := by
      show (Ev.finR (Ev.lockO hb b0) ((Ev.loopA F (xs1.drop j) h2).bind fun ws h => .ok (aI ++ ws) h)).bind G = _
      rw [hj', List.drop_length]
      rfl
    rw [e0, List.append_nil] at g2 hx2
    cases q : Ev.offH (Ev.lockO hb b0) h2 with
    | none => rw [q] at g2; exact g2.elim
    | some h4 =>
      rw [q] at g2 hx2
      obtain ⟨b1, l1⟩ := af_off a2 q
      refine nx W2 h4 aI accI (aB0.trans b1) ⟨s2.at_, s2.nf, fun i u z => ?_⟩ (by rw [l1]; exact rv2) hx2 g2
      obtain ⟨u', z'⟩ := off_get q z
      exact s2.nr i u' z'
theorem app_nil {r : Res (List Val)} : (r.bind fun ws h => .ok (([] : List Val) ++ ws) h) = r := by cases r <;> rfl
/-- the list that two clauses' loops make -/
theorem lc2_loop {cit cifs ce cit1 cifs1 : Ev.CE} {tgs tgs1 own : List Nat} {one one1 m : Bool} (hsub : ∀ i, i ∈ tgs → i ∈ own) {σ' : L2.St} {H : Hp} {Q : VK} (t : TR E Wx (Ev.evE E.P C (.lc m own (.cls tgs one cit cifs (.cls tgs1 one1 cit1 cifs1 (.cend ce))))) σ' H Q) :
    L2.tLc2 (TRI E Wx (itE E C cit)) (TGv E tgs one) (TTg E W0 (Ev.evT E.P C cifs)) (TRI E W0 (itE E C cit1)) (TGv E tgs1 one1) (TTg E W0 (Ev.evT E.P C cifs1)) (TR E W0 (Ev.evE E.P C ce)) own tgs1 σ' H Q := by
  obtain ⟨W, σ, h, e, r, rh, g⟩ := t
  let F := turnF E C tgs one cifs (.cls tgs1 one1 cit1 cifs1 (.cend ce)) (Ev.wipe σ own)
  have g : Go E W h ((Ev.quiet (Ev.evC E.P C (.cls tgs one cit cifs (.cls tgs1 one1 cit1 cifs1 (.cend ce))) (Ev.wipe σ own) h)).bind fun vs h => Ev.mkL m vs h) (KV E Q) (KX E Wx σ') := g
  obtain ⟨hne, g⟩ := quiet_mk g
  rw [evC_cls] at hne g
  rw [bind_assoc] at g
  refine ⟨W, Ev.wipe σ own, h, e, r.wipe own, rh, (Go.bind g).told.mono (fun v W1 h1 a1 ⟨eit, g⟩ J ⟨xs, ex, it⟩ D hD => ?_) fun _ _ z => z.elim⟩
  rw [ex] at g
  have g : Go E W1 h1 ((Ev.finR (Ev.lockO h1 v) (Ev.loopA F xs (Ev.lockH h1 v))).bind fun vs h => Ev.mkL m vs h) (KV E Q) (fun _ _ => False) := g
  have hx0 : ∀ e h', ((Ev.loopA F (xs.drop 0) (Ev.lockH h1 v)).bind fun ws h => .ok (([] : List Val) ++ ws) h) ≠ .exc e h' := fun e h' z => by
    rw [app_nil] at z
    have z : Ev.loopA F xs (Ev.lockH h1 v) = .exc e h' := z
    have key : ((itE E C cit (Ev.wipe σ own) h).bind fun b h => match Ev.itemsV h b with
      | some xs => Ev.lendR b h fun h => Ev.loopA F xs h
      | none => .bad 46) = Ev.finR (Ev.lockO h1 v) (Ev.loopA F xs (Ev.lockH h1 v)) := by
      rw [eit]
      show (match Ev.itemsV h1 v with
        | some xs => Ev.lendR v h1 fun h => Ev.loopA F xs h
        | none => .bad 46) = _
      rw [ex]
      rfl
    rw [key, z] at hne
    rw [z] at g
    have f : Ev.finR (Ev.lockO h1 v) (.exc e h' : Res (List Val)) = match Ev.offH (Ev.lockO h1 v) h' with
      | some h2 => .exc e h2
      | none => .bad 80 := rfl
    rw [f] at hne g
    cases q : Ev.offH (Ev.lockO h1 v) h' with
    | none => rw [q] at g; exact g.elim
    | some h4 => rw [q] at hne; exact hne _ _ rfl
  have r1 := a1.sg r
  have nf1 : ¬ W1.F D := fun z => by
    obtain ⟨o, q⟩ := a1.rel.frz D z
    rw [hD] at q; cases q
  have nr1 : ∀ i u, Ev.getR (Ev.lockH h1 v) i = some u → W1.ρ i ≠ D := fun i u q z => by
    obtain ⟨o, q2⟩ := ((af_lockH (v := v) a1.rel).rel.live i u q).some
    rw [z, hD] at q2; cases q2
  have aS := af_put (o := .lst []) (Af.refl (af_lockH (v := v) a1.rel).rel) hD nf1 nr1 (.inl hD)
  let T : Nat → List Val → Hh → Res (List Val) := fun i aV h => (Ev.loopA F (xs.drop i) h).bind fun ws h => .ok (aV ++ ws) h
  refine ⟨fun i k H2 => k = xs.length - i ∧ i ≤ xs.length ∧ ∃ W2 h2 accV acc, W2.H = H2 ∧ Af E W1 (Ev.lockH h1 v) W2 h2 ∧ Side E W2 h2 D acc ∧ RelVals E W2 h2.length accV acc ∧ (∀ e h', T i accV h2 ≠ .exc e h') ∧
      Go E W1 h1 ((Ev.finR (Ev.lockO h1 v) (T i accV h2)).bind fun vs h => Ev.mkL m vs h) (KV E Q) (fun _ _ => False),
    ⟨_, rfl, Nat.zero_le _, W1.put D (.lst []), Ev.lockH h1 v, [], [], rfl, aS, ⟨upd_same, nf1, nr1⟩, rfl, hx0, ?_⟩, ?_⟩
  · show Go E W1 h1 ((Ev.finR (Ev.lockO h1 v) ((Ev.loopA F xs (Ev.lockH h1 v)).bind fun ws h => .ok (([] : List Val) ++ ws) h)).bind fun vs h => Ev.mkL m vs h) _ _
    rw [app_nil]
    exact g
  · rintro i k H2 ⟨rfl, hi, W2, h2, accV, acc, rfl, a2, s2, rv2, hx2, g2⟩
    obtain ⟨st, go⟩ := it W1 (Sub.refl a1.rel) W2 h2 a2 i
    by_cases hl : i < xs.length
    · refine .inr ⟨(go xs[i] (List.getElem?_eq_getElem hl)).1, fun H3 => ∃ W3 h3 accV acc, W3.H = H3 ∧ Af E W1 (Ev.lockH h1 v) W3 h3 ∧ Side E W3 h3 D acc ∧ RelVals E W3 h3.length accV acc ∧ (∀ e h', T (i + 1) accV h3 ≠ .exc e h') ∧
        Go E W1 h1 ((Ev.finR (Ev.lockO h1 v) (T (i + 1) accV h3)).bind fun vs h => Ev.mkL m vs h) (KV E Q) (fun _ _ => False), fun H3 z => ⟨xs.length - (i + 1), by omega, rfl, hl, z⟩, fun x H' hy => ?_⟩
      obtain ⟨W3, a3, rfl, rx⟩ := (go xs[i] (List.getElem?_eq_getElem hl)).2 x H' hy
      have s3 := s2.after a3
      have rv3 := a3.vals rv2
      have r3 : RelS E W3 h2.length σ σ' := a3.sg (a2.sg (by rw [lockH_len]; exact r1))
      refine ⟨W3, Ev.wipe (Ev.wipe σ own) tgs, h2, xs[i], rfl, ((r3.wipe own).wipe2 fun _ z => z).wipe tgs, a3.rel, rx, ?_⟩
      cases eb : Ev.bindT tgs one xs[i] (Ev.wipe (Ev.wipe σ own) tgs) with
      | none =>
        exfalso
        have eL : T i accV h2 = .bad 46 := by
          show (Ev.loopA F (xs.drop i) h2).bind _ = _
          rw [List.drop_eq_getElem_cons hl, loopA_cons, show F xs[i] h2 = .bad 46 from turnF_none eb]
          rfl
        rw [eL] at g2
        exact g2
      | some σ1 =>
        refine ⟨σ1, rfl, fun σ1' rr so => ⟨(so own hsub).trans wipe_idem, ?_⟩⟩
        let G : List Val → Hh → Res (List Val) := fun vs h => (Ev.loopA F (xs.drop (i + 1)) h).bind fun ws h => .ok ((accV ++ vs) ++ ws) h
        have eT : T i accV h2 = (Ev.evT E.P C cifs σ1 h2).bind fun b h => (turnB E C (.cls tgs1 one1 cit1 cifs1 (.cend ce)) σ1 b h).bind G := by
          show (Ev.loopA F (xs.drop i) h2).bind _ = _
          rw [List.drop_eq_getElem_cons hl, app_turn (show F xs[i] h2 = _ from turnF_some eb)]
        rw [eT] at g2 hx2
        have a23 := a2.trans a3
        refine ⟨W3, σ1, h2, rfl, rr, a3.rel, (finR_first a23 g2).told.mono (fun b W4 h4 a4 ⟨eb4, g4⟩ => ?_) fun _ _ z => z.elim⟩
        rw [eb4] at hx2
        have a24 := a23.trans a4
        have s4 := s3.after a4
        have rv4 := a4.vals rv3
        cases b with
        | false =>
          rw [if_neg (by decide)]
          have e0 : ((turnB E C (.cls tgs1 one1 cit1 cifs1 (.cend ce)) σ1 false h4).bind G) = T (i + 1) accV h4 := by
            show ((Ev.loopA F (xs.drop (i + 1)) h4).bind fun ws h => .ok ((accV ++ []) ++ ws) h) = _
            rw [List.append_nil]
          rw [e0] at g4
          exact ⟨W4, h4, accV, acc, rfl, a24, s4, rv4, fun ex h' z => hx2 ex h' (by rw [← e0] at z; exact z), g4⟩
        | true =>
          rw [if_pos rfl]
          have e1 : (turnB E C (.cls tgs1 one1 cit1 cifs1 (.cend ce)) σ1 true h4).bind G = (itE E C cit1 σ1 h4).bind fun b h => (match Ev.itemsV h b with
            | some xs => Ev.lendR b h fun h => Ev.loopA (turnF E C tgs1 one1 cifs1 (.cend ce) σ1) xs h
            | none => .bad 46 : Res (List Val)).bind G := by
            show (Ev.evC E.P C (.cls tgs1 one1 cit1 cifs1 (.cend ce)) σ1 h4).bind G = _
            rw [evC_cls, bind_assoc]
          rw [e1] at g4
          refine ⟨W4, σ1, h4, rfl, a4.sg rr, a4.rel, (finR_first a24 g4).told.mono (fun b0 Wb hb a5 ⟨eit1, g5⟩ J1 ⟨xs1, ex1, it1⟩ => ?_) fun _ _ z => z.elim⟩
          rw [ex1] at g5
          have g5 : Go E W1 h1 ((Ev.finR (Ev.lockO h1 v) ((Ev.finR (Ev.lockO hb b0) (Ev.loopA (turnF E C tgs1 one1 cifs1 (.cend ce) σ1) xs1 (Ev.lockH hb b0))).bind G)).bind fun vs h => Ev.mkL m vs h) (KV E Q) (fun _ _ => False) := g5
          have hx5 : ∀ ex h', ((Ev.finR (Ev.lockO hb b0) (Ev.loopA (turnF E C tgs1 one1 cifs1 (.cend ce) σ1) xs1 (Ev.lockH hb b0))).bind G) ≠ .exc ex h' := fun ex' h' z => hx2 ex' h' (by
            show (turnB E C (.cls tgs1 one1 cit1 cifs1 (.cend ce)) σ1 true h4).bind G = _
            rw [e1, eit1]
            show (match Ev.itemsV hb b0 with
              | some xs => Ev.lendR b0 hb fun h => Ev.loopA (turnF E C tgs1 one1 cifs1 (.cend ce) σ1) xs h
              | none => .bad 46 : Res (List Val)).bind G = _
            rw [ex1]
            exact z)
          have a25 := a24.trans a5
          refine inner_loop (cit1 := cit1) (own := own) (accV := accV) (σ1 := σ1) hD a25 (s4.after a5) (a5.vals rv4) (a5.sg (a4.sg rr)) it1 (G := G) (fun vs h ws h' z => ?_) (by rw [app_nil]; exact hx5) (by rw [app_nil]; exact g5) (fun W6 h6 aI accI a6 s6 rv6 hx6 g6 => ⟨W6, h6, accV ++ aI, acc ++ accI, rfl, a6, s6, rv6, hx6, g6⟩)
          have z : ((Ev.loopA F (xs.drop (i + 1)) h).bind fun ws h => .ok ((accV ++ vs) ++ ws) h) = .ok ws h' := z
          cases q : Ev.loopA F (xs.drop (i + 1)) h with
          | ok us h7 => rw [q] at z; cases z; exact ⟨us, by rw [List.append_assoc]⟩
          | exc e h7 => rw [q] at z; cases z
          | bad w => rw [q] at z; cases z
    · have hi' : i = xs.length := by omega
      refine .inl ⟨st (by omega), ?_⟩
      have e0 : Ev.finR (Ev.lockO h1 v) (T i accV h2) = match Ev.offH (Ev.lockO h1 v) h2 with
        | some h2 => .ok (accV ++ []) h2
        | none => .bad 80 := by
        show Ev.finR (Ev.lockO h1 v) ((Ev.loopA F (xs.drop i) h2).bind fun ws h => .ok (accV ++ ws) h) = _
        rw [hi', List.drop_length]
        rfl
      rw [e0] at g2
      cases q : Ev.offH (Ev.lockO h1 v) h2 with
      | none => rw [q] at g2; exact g2.elim
      | some h4 =>
        rw [q, List.append_nil] at g2
        obtain ⟨b1, l1⟩ := af_off a2 q
        refine mkL_end (acc := acc) hD b1 ⟨s2.at_, s2.nf, fun i u z => ?_⟩ (by rw [l1]; exact rv2) g2
        obtain ⟨u', z'⟩ := off_get q z
        exact s2.nr i u' z'
theorem te_lc {elt tg iter : Expr} {ifs : List Expr} {scope : Scope} {own : List (Str × Nat)} {pos : Pos} {cit cifs ce : Ev.CE} {tgs : List Nat} {one m : Bool} (hc : X.calm = true) (hN : X.N.Nodup) (hsub : ∀ i, i ∈ tgs → i ∈ own.map (·.2)) (hi : PI X tg iter (TRI E Wx (itE E C cit))) (ok : BlkOk X.N X.env.scope scope own)
    (hg : ∀ (s : Shared) (H : Hp) (Cc : Addr) (cl : List (Str × Addr)) (fp : List Addr), PG (X.blk s H scope (compEnvC scope cl Cc X.env) fp) tg (TGv E tgs one)) (ht : ∀ (s : Shared) (H : Hp) (Cc : Addr) (cl : List (Str × Addr)) (fp : List Addr), PTs (X.blk s H scope (compEnvC scope cl Cc X.env) fp) ifs (TTg E W0 (Ev.evT E.P C cifs)))
    (he : ∀ (s : Shared) (H : Hp) (Cc : Addr) (cl : List (Str × Addr)) (fp : List Addr), PE (X.blk s H scope (compEnvC scope cl Cc X.env) fp) elt (TR E W0 (Ev.evE E.P C ce))) (hs : ∀ x, foldedSetIterable iter X.env x = pure x := by intro _; rfl) :
    PEv E X Wx C (.ListComp elt [⟨tg, iter, ifs, 0⟩] scope pos) (.lc m (own.map (·.2)) (.cls tgs one cit cifs (.cend ce))) := pe_weak (L2.pe_lc hc hN hi ok hg ht he hs) fun σ' H Q t => lc_loop hsub t
theorem ts_setLc {i : Nat} {y : Str} {py : Pos} {elt tg iter : Expr} {ifs : List Expr} {scope : Scope} {own : List (Str × Nat)} {pos spos : Pos} {cit cifs ce : Ev.CE} {tgs : List Nat} {one m : Bool} (hc : X.calm = true) (hN : X.N.Nodup) (hy : X.N[i]? = some y) (hyl : X.env.scope.names.lookup y = some .local) (hsw : swapsWith (.ListComp elt [⟨tg, iter, ifs, 0⟩] scope pos) (some (.Name y py)) spos.line X.env = pure true) (hsub : ∀ i, i ∈ tgs → i ∈ own.map (·.2)) (hi : PI X tg iter (TRI E Wx (itE E C cit))) (ok : BlkOk X.N X.env.scope scope own)
    (hg : ∀ (s : Shared) (H : Hp) (Cc : Addr) (cl : List (Str × Addr)) (fp : List Addr), PG (X.blk s H scope (compEnvC scope cl Cc X.env) fp) tg (TGv E tgs one)) (ht : ∀ (s : Shared) (H : Hp) (Cc : Addr) (cl : List (Str × Addr)) (fp : List Addr), PTs (X.blk s H scope (compEnvC scope cl Cc X.env) fp) ifs (TTg E W0 (Ev.evT E.P C cifs)))
    (he : ∀ (s : Shared) (H : Hp) (Cc : Addr) (cl : List (Str × Addr)) (fp : List Addr), PE (X.blk s H scope (compEnvC scope cl Cc X.env) fp) elt (TR E W0 (Ev.evE E.P C ce))) (hs : ∀ x, foldedSetIterable iter X.env x = pure x := by intro _; rfl) :
    PSv E X Wx C (.Assign [.Name y py] (.ListComp elt [⟨tg, iter, ifs, 0⟩] scope pos) spos) (.asg (.nm i .nil) (.lc m (own.map (·.2)) (.cls tgs one cit cifs (.cend ce)))) := ps_weak (L2.ps_setLc hc hN hy hyl hsw hi ok hg ht he hs) fun D σ' H t =>
  lc_loop hsub ((TRS.first (m := Ev.evE E.P C (.lc m (own.map (·.2)) (.cls tgs one cit cifs (.cend ce)))) (f := fun σ v h => .nx (σ.set i (some v)) h) t).imp fun x H1 ⟨W, σ, h, v, e, r, rh, rv, g⟩ => by
    subst e
    exact GoS.nx rh (r.set i rv) g)
theorem te_lc2 {elt tg iter tg1 iter1 : Expr} {ifs ifs1 : List Expr} {scope : Scope} {own : List (Str × Nat)} {pos : Pos} {cit cifs cit1 cifs1 ce : Ev.CE} {tgs tgs1 : List Nat} {one one1 m : Bool} (hc : X.calm = true) (hN : X.N.Nodup) (hsub : ∀ i, i ∈ tgs → i ∈ own.map (·.2)) (hi : PI X tg iter (TRI E Wx (itE E C cit))) (ok : BlkOk X.N X.env.scope scope own) (hv : ∀ i ∈ tgs1, i ∈ own.map (·.2))
    (hg : ∀ (s : Shared) (H : Hp) (Cc : Addr) (cl : List (Str × Addr)) (fp : List Addr), PG (X.blk s H scope (compEnvC scope cl Cc X.env) fp) tg (TGv E tgs one)) (ht : ∀ (s : Shared) (H : Hp) (Cc : Addr) (cl : List (Str × Addr)) (fp : List Addr), PTs (X.blk s H scope (compEnvC scope cl Cc X.env) fp) ifs (TTg E W0 (Ev.evT E.P C cifs)))
    (hi1 : ∀ (s : Shared) (H : Hp) (Cc : Addr) (cl : List (Str × Addr)) (fp : List Addr), PI (X.blk s H scope (compEnvC scope cl Cc X.env) fp) tg1 iter1 (TRI E W0 (itE E C cit1))) (hg1 : ∀ (s : Shared) (H : Hp) (Cc : Addr) (cl : List (Str × Addr)) (fp : List Addr), PG (X.blk s H scope (compEnvC scope cl Cc X.env) fp) tg1 (TGv E tgs1 one1)) (ht1 : ∀ (s : Shared) (H : Hp) (Cc : Addr) (cl : List (Str × Addr)) (fp : List Addr), PTs (X.blk s H scope (compEnvC scope cl Cc X.env) fp) ifs1 (TTg E W0 (Ev.evT E.P C cifs1)))
    (he : ∀ (s : Shared) (H : Hp) (Cc : Addr) (cl : List (Str × Addr)) (fp : List Addr), PE (X.blk s H scope (compEnvC scope cl Cc X.env) fp) elt (TR E W0 (Ev.evE E.P C ce))) (hs : ∀ x, foldedSetIterable iter X.env x = pure x := by intro _; rfl) (hs1 : ∀ env x, foldedSetIterable iter1 env x = pure x := by intro _ _; rfl) :
    PEv E X Wx C (.ListComp elt [⟨tg, iter, ifs, 0⟩, ⟨tg1, iter1, ifs1, 0⟩] scope pos) (.lc m (own.map (·.2)) (.cls tgs one cit cifs (.cls tgs1 one1 cit1 cifs1 (.cend ce)))) := pe_weak (L2.pe_lc2 hc hN hi ok hv hg ht hi1 hg1 ht1 he hs hs1) fun σ' H Q t => lc2_loop hsub t
theorem ts_setLc2 {i : Nat} {y : Str} {py : Pos} {elt tg iter tg1 iter1 : Expr} {ifs ifs1 : List Expr} {scope : Scope} {own : List (Str × Nat)} {pos spos : Pos} {cit cifs cit1 cifs1 ce : Ev.CE} {tgs tgs1 : List Nat} {one one1 m : Bool} (hc : X.calm = true) (hN : X.N.Nodup) (hy : X.N[i]? = some y) (hyl : X.env.scope.names.lookup y = some .local)
    (hsw : swapsWith (.ListComp elt [⟨tg, iter, ifs, 0⟩, ⟨tg1, iter1, ifs1, 0⟩] scope pos) (some (.Name y py)) spos.line X.env = pure true) (hsub : ∀ i, i ∈ tgs → i ∈ own.map (·.2)) (hi : PI X tg iter (TRI E Wx (itE E C cit))) (ok : BlkOk X.N X.env.scope scope own) (hv : ∀ i ∈ tgs1, i ∈ own.map (·.2))
    (hg : ∀ (s : Shared) (H : Hp) (Cc : Addr) (cl : List (Str × Addr)) (fp : List Addr), PG (X.blk s H scope (compEnvC scope cl Cc X.env) fp) tg (TGv E tgs one)) (ht : ∀ (s : Shared) (H : Hp) (Cc : Addr) (cl : List (Str × Addr)) (fp : List Addr), PTs (X.blk s H scope (compEnvC scope cl Cc X.env) fp) ifs (TTg E W0 (Ev.evT E.P C cifs)))
    (hi1 : ∀ (s : Shared) (H : Hp) (Cc : Addr) (cl : List (Str × Addr)) (fp : List Addr), PI (X.blk s H scope (compEnvC scope cl Cc X.env) fp) tg1 iter1 (TRI E W0 (itE E C cit1))) (hg1 : ∀ (s : Shared) (H : Hp) (Cc : Addr) (cl : List (Str × Addr)) (fp : List Addr), PG (X.blk s H scope (compEnvC scope cl Cc X.env) fp) tg1 (TGv E tgs1 one1)) (ht1 : ∀ (s : Shared) (H : Hp) (Cc : Addr) (cl : List (Str × Addr)) (fp : List Addr), PTs (X.blk s H scope (compEnvC scope cl Cc X.env) fp) ifs1 (TTg E W0 (Ev.evT E.P C cifs1)))
    (he : ∀ (s : Shared) (H : Hp) (Cc : Addr) (cl : List (Str × Addr)) (fp : List Addr), PE (X.blk s H scope (compEnvC scope cl Cc X.env) fp) elt (TR E W0 (Ev.evE E.P C ce))) (hs : ∀ x, foldedSetIterable iter X.env x = pure x := by intro _; rfl) (hs1 : ∀ env x, foldedSetIterable iter1 env x = pure x := by intro _ _; rfl) :
    PSv E X Wx C (.Assign [.Name y py] (.ListComp elt [⟨tg, iter, ifs, 0⟩, ⟨tg1, iter1, ifs1, 0⟩] scope pos) spos) (.asg (.nm i .nil) (.lc m (own.map (·.2)) (.cls tgs one cit cifs (.cls tgs1 one1 cit1 cifs1 (.cend ce))))) := ps_weak (L2.ps_setLc2 hc hN hy hyl hsw hi ok hv hg ht hi1 hg1 ht1 he hs hs1) fun D σ' H t =>
  lc2_loop hsub ((TRS.first (m := Ev.evE E.P C (.lc m (own.map (·.2)) (.cls tgs one cit cifs (.cls tgs1 one1 cit1 cifs1 (.cend ce))))) (f := fun σ v h => .nx (σ.set i (some v)) h) t).imp fun x H1 ⟨W, σ, h, v, e, r, rh, rv, g⟩ => by
    subst e
    exact GoS.nx rh (r.set i rv) g)
end
end Sb
set_option Elab.async false
set_option linter.all false
set_option autoImplicit false
set_option maxRecDepth 100000
set_option maxHeartbeats 2000000
/-! # Ss: built-in functions -/
namespace Sb
open PySem PySem.Spec
open PyProof.Rows hiding St
open L2 (V Hp HO upd upd_same upd_ne VK TE TT TA TS Ends WX XK PE PT PA PS PSs Inv OpR CallR SqL SqT Dp Sp Room)
open Ev (PV Val MO Hh Sg Exc Res SR)
section
variable {E : En} {X : L2.Cx} {Wx : WX} {C : Ev.Call} {σ' : L2.St} {H : Hp} {W : Wd} {h : Hh}
/-- what a built-in function makes of its row -/
abbrev BfR (E : En) (Wx : WX) (σ' : L2.St) (C : Ev.Call) (b : Ev.BF) : List V → Hp → VK → Prop := Rn E Wx σ' (Ev.bfV E.P C b)
theorem te_bfB {b : Ev.BF} {id : String} {x : Str} {p pos : Pos} {e : Expr} {es : List Expr} {cs : Ev.CE} (hc : ∀ σ', CallR X (.builtin id) (BfR E Wx σ' C b)) (hg : L2.Gl X x) (hm : X.mg x = none) (hv : bootBuiltins x = some (.builtin id)) (ha : PAv E X Wx C (e :: es) cs) (hn : x ≠ "__name__" := by decide) (hdb : (x == ("__debug__" : Str)) = false := by decide)
    (he : starEach (e :: es) X.env = (false, eval e X.env) :: starEach es X.env := by rfl) (hpl : (backTo pos (starEach es X.env)).any (·.1) = false := by rfl) : PEv E X Wx C (.Call (.Name x p) (e :: es) [] pos) (.bf b cs) :=
  ⟨fun pins s σ' H Q I t => (L2.pe_callB (hc σ') hg hm hv ha hn hdb he hpl).run pins s σ' H Q I ((TRs.first (m := Ev.evA E.P C cs) (f := fun _ vs h => Ev.bfV E.P C b vs h) t).imp fun xs H1 ⟨W, σ, h, vs, e, r, rh, rv, g⟩ => ⟨W, h, vs, e, rh, rv, g⟩)⟩
theorem te_bfT {b : Ev.BF} {T : String} {x : Str} {p pos : Pos} {e : Expr} {es : List Expr} {cs : Ev.CE} (hc : ∀ σ', CallR X (.type T) (BfR E Wx σ' C b)) (hg : L2.Gl X x) (hm : X.mg x = none) (hv : bootBuiltins x = some (.type T)) (ha : PAv E X Wx C (e :: es) cs) (hn : x ≠ "__name__" := by decide) (hdb : (x == ("__debug__" : Str)) = false := by decide)
    (he : starEach (e :: es) X.env = (false, eval e X.env) :: starEach es X.env := by rfl) (hpl : (backTo pos (starEach es X.env)).any (·.1) = false := by rfl) : PEv E X Wx C (.Call (.Name x p) (e :: es) [] pos) (.bf b cs) :=
  ⟨fun pins s σ' H Q I t => (L2.pe_callTy (hc σ') hg hm hv ha hn hdb he hpl).run pins s σ' H Q I ((TRs.first (m := Ev.evA E.P C cs) (f := fun _ vs h => Ev.bfV E.P C b vs h) t).imp fun xs H1 ⟨W, σ, h, vs, e, r, rh, rv, g⟩ => ⟨W, h, vs, e, rh, rv, g⟩)⟩
/-- a built-in that looks at its values as they stand -/
def plainBf : Ev.BF → Bool
  | .all | .any | .tuple | .list | .sorted | .int | .repr | .max2 | .min2 | .max1 | .abs => true
  | _ => false
theorem bf_view {b : Ev.BF} (hb : plainBf b = true) {vs : List Val} {xs : List V} {Q : VK} {KX0 : Exc → Wd → Prop} (rh : RelH E W h) (rv : RelVals E W h.length vs xs) (g : Go E W h (Ev.bfV E.P C b vs h) (KV E Q) KX0) :
    ∃ ps r, Ev.vws h vs = some ps ∧ Ev.bfun b ps = some r ∧ ∀ W', Af E W h W' h → ∀ z, RelP E W' r z → Q z W'.H := by
  have g : Go E W h (match Ev.vws h vs with
    | some xs => Ev.ofO 21 (Ev.bfun b xs) h
    | none => .bad 21) (KV E Q) KX0 := by
    cases b <;> first | exact g | exact Bool.noConfusion hb
  cases z : Ev.vws h vs with
  | none => rw [z] at g; exact g.elim
  | some ps =>
    rw [z] at g
    obtain ⟨r, e, k⟩ := Go.ofO rh g
    exact ⟨ps, r, rfl, e, k⟩
theorem all_case : ∀ {ps : List PV} {r : PV}, Ev.bfun .all ps = some r → ∃ ys, ps = [.lst ys] ∧ (Ev.allB ys).map PV.bl = some r
  | [], _, e => by cases e
  | [p], _, e => by cases p <;> first | exact ⟨_, rfl, e⟩ | cases e
  | a :: b :: l, _, e => by cases a <;> cases e
theorem any_case : ∀ {ps : List PV} {r : PV}, Ev.bfun .any ps = some r → ∃ ys, ps = [.lst ys] ∧ (Ev.anyB ys).map PV.bl = some r
  | [], _, e => by cases e
  | [p], _, e => by cases p <;> first | exact ⟨_, rfl, e⟩ | cases e
  | a :: b :: l, _, e => by cases a <;> cases e
theorem tuple_case : ∀ {ps : List PV} {r : PV}, Ev.bfun .tuple ps = some r → ∃ ys, (ps = [.lst ys] ∨ ps = [.tup ys]) ∧ r = .tup ys
  | [], _, e => by cases e
  | [p], _, e => by cases p <;> first | (cases e; exact ⟨_, .inl rfl, rfl⟩) | (cases e; exact ⟨_, .inr rfl, rfl⟩) | cases e
  | a :: b :: l, _, e => by cases e
theorem abs_case : ∀ {ps : List PV} {r : PV}, Ev.bfun .abs ps = some r → ∃ i : Int, ps = [.int i] ∧ r = .int i.natAbs
  | [], _, e => by cases e
  | [p], _, e => by cases p <;> first | (cases e; exact ⟨_, rfl, rfl⟩) | cases e
  | a :: b :: l, _, e => by cases a <;> cases e
theorem max2_case : ∀ {ps : List PV} {r : PV}, Ev.bfun .max2 ps = some r → ∃ i j : Int, ps = [.int i, .int j] ∧ r = .int (if j > i then j else i)
  | [], _, e => by cases e
  | [p], _, e => by cases p <;> cases e
  | [p, q], _, e => by cases p <;> cases q <;> first | (cases e; exact ⟨_, _, rfl, rfl⟩) | cases e
  | a :: b :: c :: l, _, e => by cases a <;> first | cases e | (cases b <;> cases e)
theorem min2_case : ∀ {ps : List PV} {r : PV}, Ev.bfun .min2 ps = some r → ∃ i j : Int, ps = [.int i, .int j] ∧ r = .int (if j < i then j else i)
  | [], _, e => by cases e
  | [p], _, e => by cases p <;> cases e
  | [p, q], _, e => by cases p <;> cases q <;> first | (cases e; exact ⟨_, _, rfl, rfl⟩) | cases e
  | a :: b :: c :: l, _, e => by cases a <;> first | cases e | (cases b <;> cases e)
theorem max1_case : ∀ {ps : List PV} {r : PV}, Ev.bfun .max1 ps = some r → ∃ i ys, ps = [.lst (.int i :: ys)] ∧ (Ev.maxI i ys).map PV.int = some r
  | [], _, e => by cases e
  | [p], _, e => by
    cases p with
    | lst zs =>
      cases zs with
      | nil => cases e
      | cons z zs => cases z <;> first | exact ⟨_, _, rfl, e⟩ | cases e
    | _ => cases e
  | a :: b :: l, _, e => by
    cases a with
    | lst zs =>
      cases zs with
      | nil => cases e
      | cons z zs => cases z <;> cases e
    | _ => cases e
theorem bools_rel : ∀ {ps : List PV} {bs : List Bool} {ys : List V}, Ev.bools ps = some bs → RelPs E W ps ys → ys = bs.map V.bl
  | [], bs, ys, e, r => by cases e; cases r; rfl
  | p :: ps, bs, ys, e, ⟨y, t, e', r1, r2⟩ => by
    subst e'
    cases p with
    | bl b =>
      obtain ⟨cs, e3, rfl⟩ := Option.map_eq_some_iff.mp (show (Ev.bools ps).map (b :: ·) = some bs from e)
      cases r1
      rw [bools_rel e3 r2]
      rfl
    | _ => cases e
theorem cAll (hc : X.calm = true) : CallR X (.builtin "all") (BfR E Wx σ' C .all) := by
  intro pins s σ H xs us Q I r ⟨W, h, vs, eH, rh, rv, g⟩
  subst eH
  obtain ⟨ps, r0, e1, e2, k⟩ := bf_view rfl rh rv g
  · obtain ⟨ys, rfl, e2⟩ := all_case e2
    obtain ⟨bs, e, rfl⟩ := Option.map_eq_some_iff.mp (show ((Ev.bools ys).map fun bs => bs.all id).map PV.bl = some r0 from e2)
    obtain ⟨bs, e4, rfl⟩ := Option.map_eq_some_iff.mp e
    have e := e4
    obtain ⟨x, rfl, a, zs, rfl, hz, rz⟩ := vws1 rh e1 rv
    rw [bools_rel e rz] at hz
    exact L2.cr_all hc pins s σ W.H _ us Q I r ⟨a, bs, rfl, SqL.of hz, k W (Af.refl rh) _ rfl⟩
theorem cAny (hc : X.calm = true) : CallR X (.builtin "any") (BfR E Wx σ' C .any) := by
  intro pins s σ H xs us Q I r ⟨W, h, vs, eH, rh, rv, g⟩
  subst eH
  obtain ⟨ps, r0, e1, e2, k⟩ := bf_view rfl rh rv g
  · obtain ⟨ys, rfl, e2⟩ := any_case e2
    obtain ⟨bs, e, rfl⟩ := Option.map_eq_some_iff.mp (show ((Ev.bools ys).map fun bs => bs.any id).map PV.bl = some r0 from e2)
    obtain ⟨bs, e4, rfl⟩ := Option.map_eq_some_iff.mp e
    have e := e4
    obtain ⟨x, rfl, a, zs, rfl, hz, rz⟩ := vws1 rh e1 rv
    rw [bools_rel e rz] at hz
    exact L2.cr_any hc pins s σ W.H _ us Q I r ⟨a, bs, rfl, SqL.of hz, k W (Af.refl rh) _ rfl⟩
theorem cTuple : CallR X (.type "tuple") (BfR E Wx σ' C .tuple) := by
  intro pins s σ H xs us Q I r ⟨W, h, vs, eH, rh, rv, g⟩
  subst eH
  obtain ⟨ps, r0, e1, e2, k⟩ := bf_view rfl rh rv g
  obtain ⟨ys, rfl | rfl, rfl⟩ := tuple_case e2
  · obtain ⟨x, rfl, a, zs, rfl, hz, rz⟩ := vws1 rh e1 rv
    exact L2.call_tuple_of pins s σ W.H _ us Q I r ⟨a, zs, rfl, .inl ⟨SqL.of hz, fun l hl => k _ (af_new rh hl) _ (new_tup rh hl rz)⟩⟩
  · obtain ⟨x, rfl, a, zs, rfl, hf, hz, rz⟩ := vws1 rh e1 rv
    exact L2.call_tuple_of pins s σ W.H _ us Q I r ⟨a, zs, rfl, .inr ⟨SqT.of hz, k W (Af.refl rh) _ ⟨a, zs, rfl, hf, hz, rz⟩⟩⟩
theorem cAbs : CallR X (.builtin "abs") (BfR E Wx σ' C .abs) := by
  intro pins s σ H xs us Q I r ⟨W, h, vs, eH, rh, rv, g⟩
  subst eH
  obtain ⟨ps, r0, e1, e2, k⟩ := bf_view rfl rh rv g
  · obtain ⟨i, rfl, rfl⟩ := abs_case e2
    obtain ⟨x, rfl, rx⟩ := vws1 rh e1 rv
    cases rx
    have e : (if i < 0 then -i else i) = (i.natAbs : Int) := by split <;> omega
    exact L2.call_abs pins s σ W.H _ us Q I r ⟨i, rfl, by rw [e]; exact k W (Af.refl rh) _ rfl⟩
theorem cMax2 (hc : X.calm = true) : CallR X (.builtin "max") (BfR E Wx σ' C .max2) := by
  intro pins s σ H xs us Q I r ⟨W, h, vs, eH, rh, rv, g⟩
  subst eH
  obtain ⟨ps, r0, e1, e2, k⟩ := bf_view rfl rh rv g
  · obtain ⟨i, j, rfl, rfl⟩ := max2_case e2
    obtain ⟨x, y, rfl, rx, ry⟩ := vws2 rh e1 rv
    cases rx; cases ry
    exact L2.call_max2 hc pins s σ W.H _ us Q I r ⟨i, j, rfl, k W (Af.refl rh) _ rfl⟩
theorem cMin2 (hc : X.calm = true) : CallR X (.builtin "min") (BfR E Wx σ' C .min2) := by
  intro pins s σ H xs us Q I r ⟨W, h, vs, eH, rh, rv, g⟩
  subst eH
  obtain ⟨ps, r0, e1, e2, k⟩ := bf_view rfl rh rv g
  · obtain ⟨i, j, rfl, rfl⟩ := min2_case e2
    obtain ⟨x, y, rfl, rx, ry⟩ := vws2 rh e1 rv
    cases rx; cases ry
    exact L2.call_min2 hc pins s σ W.H _ us Q I r ⟨i, j, rfl, k W (Af.refl rh) _ rfl⟩
theorem maxI_rel : ∀ {ps : List PV} {ys : List V} {i m : Int}, Ev.maxI i ps = some m → RelPs E W ps ys → ∃ ns : List Int, ys = ns.map V.int ∧ (m = i ∨ m ∈ ns) ∧ i ≤ m ∧ ∀ y, y ∈ ns → y ≤ m
  | [], ys, i, m, e, r => by cases e; cases r; exact ⟨[], rfl, .inl rfl, Int.le_refl _, fun y hy => by simp at hy⟩
  | p :: ps, ys, i, m, e, ⟨y, t, e', r1, r2⟩ => by
    subst e'
    cases p with
    | int j =>
      cases r1
      obtain ⟨ns, rfl, h1, h2, h3⟩ := maxI_rel (i := if j > i then j else i) e r2
      refine ⟨j :: ns, rfl, ?_, ?_, fun y hy => ?_⟩
      · rcases h1 with h1 | h1
        · split at h1
          · exact .inr (by rw [h1]; simp)
          · exact .inl h1
        · exact .inr (by simp [h1])
      · split at h2 <;> omega
      · rcases List.mem_cons.mp hy with rfl | hy
        · split at h2 <;> omega
        · exact h3 y hy
    | _ => cases e
theorem cMax1 (hc : X.calm = true) : CallR X (.builtin "max") (BfR E Wx σ' C .max1) := by
  intro pins s σ H xs us Q I r ⟨W, h, vs, eH, rh, rv, g⟩
  subst eH
  obtain ⟨ps, r0, e1, e2, k⟩ := bf_view rfl rh rv g
  · obtain ⟨i, ys, rfl, e2⟩ := max1_case e2
    obtain ⟨m, em, rfl⟩ := Option.map_eq_some_iff.mp (show (Ev.maxI i ys).map PV.int = some r0 from e2)
    obtain ⟨x, rfl, a, zs, rfl, hz, y, t, rfl, r1, r2⟩ := vws1 rh e1 rv
    cases r1
    obtain ⟨ns, rfl, h1, h2, h3⟩ := maxI_rel em r2
    refine L2.cr_max hc pins s σ W.H _ us Q I r ⟨a, i :: ns, rfl, SqL.of hz, by simp, fun m' hm hle => ?_⟩
    have : m' = m := by
      have q1 : m ≤ m' := by
        rcases h1 with rfl | h1
        · exact hle _ (by simp)
        · exact hle m (by simp [h1])
      have q2 : m' ≤ m := by
        rcases List.mem_cons.mp hm with rfl | hm
        · exact h2
        · exact h3 m' hm
      omega
    rw [this]
    exact k W (Af.refl rh) _ rfl
end
end Sb
set_option Elab.async false
set_option linter.all false
set_option autoImplicit false
set_option maxRecDepth 100000
set_option maxHeartbeats 2000000
/-! # Su: isinstance, len, list, int, str, repr -/
namespace Sb
open PySem PySem.Spec
open PyProof.Rows hiding St
open L2 (V Hp HO upd upd_same upd_ne VK TE TT TA TS Ends WX XK PE PT PA PS PSs Inv OpR CallR SqL SqT Dp Sp Room RelV)
open Ev (PV Val MO Hh Sg Exc Res SR)
/-- the type's name of what is no instance -/
def tyS : PV → String
  | .non => "NoneType"
  | .bl _ => "bool"
  | .int _ => "int"
  | .str _ => "str"
  | .tup _ => "tuple"
  | .lst _ => "list"
  | .dic _ => "dict"
  | _ => ""
/-- what is asked of the classes -/
structure IsK (E : En) (K : PySem.W.Frag) : Prop where
  ins : ∀ (c : Nat) (D : Ev.Cls), E.P.clss[c]? = some D → D.ins = true → L2.Cls K (E.cad c) ∧ PySem.W.findIn K (.ref (E.cad c)) "__class__" = some (some (.builtin "object.__class__")) ∧
    PySem.W.specialIn K (.builtin "object.__class__") "__get__" = some (some (.builtin "getset_descriptor.__get__")) ∧ PySem.W.takesIn K (.builtin "object.__class__") = some true ∧ PySem.W.mroIn K (E.cad c) (.type "object") = some true
  to : ∀ (c : Nat) (D : Ev.Cls) (t : Ev.Ty), E.P.clss[c]? = some D → D.ins = true → PySem.W.kitOne K (.ref (E.cad c)) (.type (tyName t)) = some false
  of : ∀ (c : Nat) (D : Ev.Cls) (n : String), E.P.clss[c]? = some D → D.ins = true → n ∈ tyNames → PySem.W.kitOne K (.type n) (.ref (E.cad c)) = some false
  both : ∀ (c d : Nat) (D D' : Ev.Cls), E.P.clss[c]? = some D → E.P.clss[d]? = some D' → D.ins = true → D'.ins = true → PySem.W.kitOne K (.ref (E.cad c)) (.ref (E.cad d)) = some (c == d)
section
variable {E : En} {X : L2.Cx} {Wx : WX} {C : Ev.Call} {σ' : L2.St} {H : Hp} {W : Wd} {h : Hh} {pins : List (Addr × Obj)} {σ : L2.St} {s : Shared}
def Kit (K : PySem.W.Frag) (s : Shared) (u t : Value) : Prop := ∃ P : Heap → Prop, PySem.W.KitX K u t P ∧ P s.heap ∧ u ≠ .builtin "__main__.__loader__#opaque"
theorem kit_dict {a : Addr} {o : Obj} (e : s.heap.get? a = some o) (c : o.cls = .type "dict") : Kit X.K s (.ref a) (.type "dict") := ⟨_, PySem.W.kitx_dict, ⟨o, e, c⟩, fun z => nomatch z⟩
theorem dic_cls (I : Inv X pins σ W.H s) {a : Addr} {o : HO} {β : Type} {Rv : β → V → Prop} {kvs : List (PV × β)} (h : L2.Rd W.H a o) (d : DV E W Rv kvs a o) : ∃ ob, s.heap.get? a = some ob ∧ ob.cls = .type "dict" := dv_type I h d
/-- the type of a value as it is viewed -/
theorem kit_view (I : Inv X pins σ W.H s) {v : PV} {x : V} {u : Value} (rv : RelC E W v x) (rx : RelV x u) (hn : tyS v ≠ "") : Kit X.K s u (.type (tyS v)) := by
  cases v with
  | non => cases rv; exact L2.kit_of I rx (.base .non)
  | bl b => cases rv; exact L2.kit_of I rx (.base (.bl b))
  | int b => cases rv; exact L2.kit_of I rx (.base (.int b))
  | str b => cases rv; exact L2.kit_of I rx (.base (.str _))
  | lst xs => obtain ⟨a, ys, rfl, hq, _⟩ := rv; exact L2.kit_of I rx (.base (.lst hq))
  | tup xs => obtain ⟨a, ys, rfl, _, hq, _⟩ := rv; exact L2.kit_of I rx (.base (.tup hq))
  | dic kvs =>
    obtain ⟨a, o, rfl, hq, d⟩ := RelC.dv rv
    obtain ⟨ob, e, c⟩ := dic_cls I hq d
    cases rx
    exact kit_dict e c
  | _ => exact absurd rfl hn
/-- what stands at a mutable object's place -/
theorem kit_mut (I : Inv X pins σ W.H s) (rh : RelH E W h) {i : Nat} {o : MO} {u : Value} (e : Ev.getO h i = some o) (rx : RelV (.ref (W.ρ i)) u) : (∀ xs, o = .lst xs → Kit X.K s u (.type "list")) ∧ ∀ kvs, o = .dic kvs → Kit X.K s u (.type "dict") := by
  refine ⟨fun xs z => ?_, fun kvs z => ?_⟩
  · subst z
    obtain ⟨ys, hq, _⟩ := rh.lst e
    exact L2.kit_of I rx (.base (.lst hq))
  · subst z
    obtain ⟨o, hq, d⟩ := rh.dic e
    obtain ⟨ob, e, c⟩ := dic_cls I hq d.dv
    cases rx
    exact kit_dict e c
theorem kit_ins (I : Inv X pins σ W.H s) (rh : RelH E W h) (is : IsK E X.K) {v : Val} {x : V} {u : Value} {c : Nat} {D : Ev.Cls} (e : Ev.clsOf h v = some c) (hD : E.P.clss[c]? = some D) (hi : D.ins = true) (rv : RelVal E W h.length v x) (rx : RelV x u) : Kit X.K s u (.ref (E.cad c)) := by
  obtain ⟨k1, k2, k3, k4, k5⟩ := is.ins c D hD hi
  cases v with
  | p v =>
    cases v with
    | ins d vs =>
      cases e
      obtain ⟨a, dx, ys, rfl, _, hq, _⟩ := rv
      exact L2.kit_of I rx (.base (.ins hq k1 k2 k3 k4 k5))
    | _ => cases e
  | r i =>
    obtain ⟨_, rfl⟩ := rv
    have e : (match Ev.getO h i with
      | some (.ins c _) => some c
      | _ => none) = some c := e
    cases q : Ev.getO h i with
    | none => simp only [q] at e; cases e
    | some o =>
      simp only [q] at e
      cases o with
      | ins d fs =>
        cases e
        obtain ⟨dx, ys, hq, _⟩ := rh.ins q
        exact L2.kit_of I rx (.base (.ins hq k1 k2 k3 k4 k5))
      | _ => cases e
theorem kitB_ty (p : PV) (t : Ev.Ty) (h : tyS p ≠ "") : L2.kitB (tyS p) (tyName t) = some (Ev.tyOf p t) := by
  cases p <;> cases t <;> first | exact absurd rfl h | rfl | decide +kernel
theorem isIns_of {P : Ev.Prog} {c : Nat} (h : Ev.isIns P c = true) : ∃ D, P.clss[c]? = some D ∧ D.ins = true := by
  unfold Ev.isIns at h
  cases q : P.clss[c]? with
  | none => rw [q] at h; cases h
  | some D => rw [q] at h; exact ⟨D, rfl, h⟩
/-- isinstance(x, T): the answer -/
theorem isi_ans (I : Inv X pins σ W.H s) (rh : RelH E W h) (is : IsK E X.K) {v : Val} {x : V} {u : Value} {t : Ev.Ty} {Q : VK} {KX0 : Exc → Wd → Prop} (rv : RelVal E W h.length v x) (rx : RelV x u) (g : Go E W h (Ev.bfV E.P C (.isi t) [v] h) (KV E Q) KX0) :
    ∃ tv b, Kit X.K s u tv ∧ PySem.W.kitOne X.K tv (.type (tyName t)) = some b ∧ Q (.bl b) W.H := by
  have g : Go E W h (match Ev.clsOf h v with
    | some c => if Ev.isIns E.P c then .ok (.p (.bl false)) h else .bad 20
    | none => match (generalizing := false) v with
      | .p x => Ev.ofO 20 (Ev.bfun (.isi t) [x]) h
      | .r k => match Ev.getO h k with
        | some (.lst _) => .ok (.p (.bl (t == .list))) h
        | some (.dic _) => .ok (.p (.bl (t == .dict))) h
        | _ => .bad 20) (KV E Q) KX0 := g
  cases q : Ev.clsOf h v with
  | some c =>
    rw [q] at g
    have g : Go E W h (if Ev.isIns E.P c then .ok (.p (.bl false)) h else .bad 20) (KV E Q) KX0 := g
    split at g
    · rename_i hi
      obtain ⟨D, hD, hi⟩ := isIns_of hi
      exact ⟨_, false, kit_ins I rh is q hD hi rv rx, is.to c D t hD hi, Go.ok (α := Val) rh g _ rfl⟩
    · exact g.elim
  | none =>
    rw [q] at g
    cases v with
    | p p =>
      obtain ⟨r, e, k⟩ := Go.ofO rh g
      have key : tyS p ≠ "" ∧ r = .bl (Ev.tyOf p t) := by
        cases p <;> first | (cases e; exact ⟨(by simp [tyS]), rfl⟩) | cases e
      obtain ⟨h1, rfl⟩ := key
      exact ⟨_, _, kit_view I (RelC.of rv) rx h1, L2.kit_ty (kitB_ty p t h1), k W (Af.refl rh) _ rfl⟩
    | r i =>
      obtain ⟨_, rfl⟩ := rv
      have g : Go E W h (match Ev.getO h i with
        | some (.lst _) => .ok (.p (.bl (t == .list))) h
        | some (.dic _) => .ok (.p (.bl (t == .dict))) h
        | _ => .bad 20) (KV E Q) KX0 := g
      cases z : Ev.getO h i with
      | none => simp only [z] at g; exact g.elim
      | some o =>
        simp only [z] at g
        cases o with
        | lst xs =>
          refine ⟨_, Ev.tyOf (.lst []) t, (kit_mut I rh z rx).1 xs rfl, L2.kit_ty (kitB_ty (.lst []) t (by decide)), ?_⟩
          have : (t == Ev.Ty.list) = Ev.tyOf (.lst []) t := by cases t <;> rfl
          rw [← this]
          exact Go.ok (α := Val) rh g _ rfl
        | dic kvs =>
          refine ⟨_, Ev.tyOf (.dic []) t, (kit_mut I rh z rx).2 kvs rfl, L2.kit_ty (kitB_ty (.dic []) t (by decide)), ?_⟩
          have : (t == Ev.Ty.dict) = Ev.tyOf (.dic []) t := by cases t <;> rfl
          rw [← this]
          exact Go.ok (α := Val) rh g _ rfl
        | _ => exact g.elim
theorem isic_ans (I : Inv X pins σ W.H s) (rh : RelH E W h) (is : IsK E X.K) {v : Val} {x : V} {u : Value} {d : Nat} {Q : VK} {KX0 : Exc → Wd → Prop} (rv : RelVal E W h.length v x) (rx : RelV x u) (g : Go E W h (Ev.bfV E.P C (.isic d) [v] h) (KV E Q) KX0) :
    ∃ tv b, Kit X.K s u tv ∧ PySem.W.kitOne X.K tv (.ref (E.cad d)) = some b ∧ Q (.bl b) W.H := by
  have g : Go E W h (match Ev.clsOf h v with
    | some c => if Ev.isIns E.P c && Ev.isIns E.P d then .ok (.p (.bl (c == d))) h else .bad 20
    | none => match (generalizing := false) v with
      | .p x => if Ev.isIns E.P d then Ev.ofO 20 (Ev.bfun (.isic d) [x]) h else .bad 20
      | .r k => match Ev.getO h k with
        | some (.lst _) => if Ev.isIns E.P d then .ok (.p (.bl false)) h else .bad 20
        | some (.dic _) => if Ev.isIns E.P d then .ok (.p (.bl false)) h else .bad 20
        | _ => .bad 20) (KV E Q) KX0 := g
  cases q : Ev.clsOf h v with
  | some c =>
    rw [q] at g
    have g : Go E W h (if Ev.isIns E.P c && Ev.isIns E.P d then .ok (.p (.bl (c == d))) h else .bad 20) (KV E Q) KX0 := g
    split at g
    · rename_i hi
      obtain ⟨i1, i2⟩ := Bool.and_eq_true_iff.mp hi
      obtain ⟨D, hD, hi⟩ := isIns_of i1
      obtain ⟨D', hD', hi'⟩ := isIns_of i2
      exact ⟨_, c == d, kit_ins I rh is q hD hi rv rx, is.both c d D D' hD hD' hi hi', Go.ok (α := Val) rh g _ rfl⟩
    · exact g.elim
  | none =>
    rw [q] at g
    cases v with
    | p p =>
      have g : Go E W h (if Ev.isIns E.P d then Ev.ofO 20 (Ev.bfun (.isic d) [p]) h else .bad 20) (KV E Q) KX0 := g
      split at g
      · rename_i hi
        obtain ⟨D, hD, hi⟩ := isIns_of hi
        obtain ⟨r, e, k⟩ := Go.ofO rh g
        have key : tyS p ≠ "" ∧ tyS p ∈ tyNames ∧ r = .bl false := by
          cases p <;> first | (cases e; exact ⟨(by simp [tyS]), (by simp [tyS, tyNames]), rfl⟩) | cases e
        obtain ⟨h1, h2, rfl⟩ := key
        exact ⟨_, false, kit_view I (RelC.of rv) rx h1, is.of d D _ hD hi h2, k W (Af.refl rh) _ rfl⟩
      · exact g.elim
    | r i =>
      obtain ⟨_, rfl⟩ := rv
      have g : Go E W h (match Ev.getO h i with
        | some (.lst _) => if Ev.isIns E.P d then .ok (.p (.bl false)) h else .bad 20
        | some (.dic _) => if Ev.isIns E.P d then .ok (.p (.bl false)) h else .bad 20
        | _ => .bad 20) (KV E Q) KX0 := g
      cases z : Ev.getO h i with
      | none => simp only [z] at g; exact g.elim
      | some o =>
        simp only [z] at g
        cases o with
        | lst xs =>
          have g : Go E W h (if Ev.isIns E.P d then .ok (.p (.bl false)) h else .bad 20) (KV E Q) KX0 := g
          split at g
          · rename_i hi
            obtain ⟨D, hD, hi⟩ := isIns_of hi
            exact ⟨_, false, (kit_mut I rh z rx).1 xs rfl, is.of d D _ hD hi (by decide), Go.ok (α := Val) rh g _ rfl⟩
          · exact g.elim
        | dic kvs =>
          have g : Go E W h (if Ev.isIns E.P d then .ok (.p (.bl false)) h else .bad 20) (KV E Q) KX0 := g
          split at g
          · rename_i hi
            obtain ⟨D, hD, hi⟩ := isIns_of hi
            exact ⟨_, false, (kit_mut I rh z rx).2 kvs rfl, is.of d D _ hD hi (by decide), Go.ok (α := Val) rh g _ rfl⟩
          · exact g.elim
        | _ => exact g.elim
/-- isinstance(e, T) -/
theorem te_isi {e eT : Expr} {ce : Ev.CE} {t : Ev.Ty} {p pos : Pos} (is : IsK E X.K) (hg : L2.Gl X "isinstance") (hm : X.mg "isinstance" = none) (he : PEv E X Wx C e ce) (hT : PE X eT (L2.tC (.ty (tyName t))))
    (h1 : starEach [e, eT] X.env = (false, eval e X.env) :: starEach [eT] X.env := by rfl) (h2 : starEach [eT] X.env = (false, eval eT X.env) :: starEach [] X.env := by rfl) (hpl : (backTo pos (starEach [eT] X.env)).any (·.1) = false := by rfl) : PEv E X Wx C (.Call (.Name "isinstance" p) [e, eT] [] pos) (.bf (.isi t) (.cons ce .nil)) :=
  ⟨fun pins s σ' H Q I tr => (L2.pe_callB (r := fun xs H Q => ∃ x, xs = [x, .ty (tyName t)] ∧ BfR E Wx σ' C (.isi t) [x] H Q) (fun pins s σ H xs us Q I r hh => by
    obtain ⟨x, rfl, W, h, vs, eH, rh, rv, g⟩ := hh
    subst eH
    obtain ⟨u1, u2, rfl, r1, r2⟩ := L2.vals2 r
    cases r2
    match vs, rv with
    | [v], ⟨y, t', e', q1, q2⟩ =>
      cases e'
      obtain ⟨tv, b, ⟨Pk, Z, pk, hx⟩, eb, q⟩ := isi_ans I rh is q1 r1 g
      exact PySem.W.kia_one Z I.kIn pk eb hx fun tk => ⟨.bl b, W.H, I.tok tk, rfl, q⟩
    | v :: w :: l, ⟨y, t', e', q1, y2, t2, e2, _⟩ => subst e2; cases e'
    | [], e' => cases e') hg hm rfl (L2.pa_cons he (L2.pa_cons hT L2.pa_nil h2) h1) (by decide) (by decide) h1 hpl).run pins s σ' H Q I (by
    refine (TR.first (m := Ev.evE E.P C ce) (f := fun _ x h => Ev.bfV E.P C (.isi t) [x] h) ?_).imp fun x H1 ⟨W, σ, h, v, e, r, rh, rv, g⟩ => ⟨x, rfl, W, h, [v], e, rh, ⟨x, [], rfl, rv, rfl⟩, g⟩
    obtain ⟨W, σ, h, e, r, rh, g⟩ := tr
    refine ⟨W, σ, h, e, r, rh, ?_⟩
    have g : Go E W h (((Ev.evE E.P C ce σ h).bind fun x h => (Ev.evA E.P C .nil σ h).bind fun xs h => .ok (x :: xs) h).bind fun vs h => Ev.bfV E.P C (.isi t) vs h) (KV E Q) (KX E Wx σ') := g
    rw [bind_assoc] at g
    exact g)⟩
theorem te_isic {e eT : Expr} {ce : Ev.CE} {d : Nat} {p pos : Pos} (is : IsK E X.K) (hg : L2.Gl X "isinstance") (hm : X.mg "isinstance" = none) (he : PEv E X Wx C e ce) (hT : PE X eT (L2.tC (.ref (E.cad d))))
    (h1 : starEach [e, eT] X.env = (false, eval e X.env) :: starEach [eT] X.env := by rfl) (h2 : starEach [eT] X.env = (false, eval eT X.env) :: starEach [] X.env := by rfl) (hpl : (backTo pos (starEach [eT] X.env)).any (·.1) = false := by rfl) : PEv E X Wx C (.Call (.Name "isinstance" p) [e, eT] [] pos) (.bf (.isic d) (.cons ce .nil)) :=
  ⟨fun pins s σ' H Q I tr => (L2.pe_callB (r := fun xs H Q => ∃ x, xs = [x, .ref (E.cad d)] ∧ BfR E Wx σ' C (.isic d) [x] H Q) (fun pins s σ H xs us Q I r hh => by
    obtain ⟨x, rfl, W, h, vs, eH, rh, rv, g⟩ := hh
    subst eH
    obtain ⟨u1, u2, rfl, r1, r2⟩ := L2.vals2 r
    cases r2
    match vs, rv with
    | [v], ⟨y, t', e', q1, q2⟩ =>
      cases e'
      obtain ⟨tv, b, ⟨Pk, Z, pk, hx⟩, eb, q⟩ := isic_ans I rh is q1 r1 g
      exact PySem.W.kia_one Z I.kIn pk eb hx fun tk => ⟨.bl b, W.H, I.tok tk, rfl, q⟩
    | v :: w :: l, ⟨y, t', e', q1, y2, t2, e2, _⟩ => subst e2; cases e'
    | [], e' => cases e') hg hm rfl (L2.pa_cons he (L2.pa_cons hT L2.pa_nil h2) h1) (by decide) (by decide) h1 hpl).run pins s σ' H Q I (by
    refine (TR.first (m := Ev.evE E.P C ce) (f := fun _ x h => Ev.bfV E.P C (.isic d) [x] h) ?_).imp fun x H1 ⟨W, σ, h, v, e, r, rh, rv, g⟩ => ⟨x, rfl, W, h, [v], e, rh, ⟨x, [], rfl, rv, rfl⟩, g⟩
    obtain ⟨W, σ, h, e, r, rh, g⟩ := tr
    refine ⟨W, σ, h, e, r, rh, ?_⟩
    have g : Go E W h (((Ev.evE E.P C ce σ h).bind fun x h => (Ev.evA E.P C .nil σ h).bind fun xs h => .ok (x :: xs) h).bind fun vs h => Ev.bfV E.P C (.isic d) vs h) (KV E Q) (KX E Wx σ') := g
    rw [bind_assoc] at g
    exact g)⟩
end
end Sb
set_option Elab.async false
set_option linter.all false
set_option autoImplicit false
set_option maxRecDepth 100000
set_option maxHeartbeats 2000000
/-! # Sv: len, list, sorted, int, str, repr -/
namespace Sb
open PySem PySem.Spec
open PyProof.Rows hiding St
open L2 (V Hp HO upd upd_same upd_ne VK TE TT TA TS Ends WX XK PE PT PA PS PSs Inv OpR CallR SqL SqT Dp Sp Room RelV)
open Ev (PV Val MO Hh Sg Exc Res SR)
section
variable {E : En} {X : L2.Cx} {Wx : WX} {C : Ev.Call} {σ' : L2.St} {H : Hp} {W : Wd} {h : Hh} {pins : List (Addr × Obj)} {σ : L2.St} {s : Shared}
theorem gt_len {β : Type} {Rv : β → V → Prop} : ∀ {kvs : List (PV × β)} {bs : List Addr} {ys : List V}, RelGT E W Rv kvs bs ys → (nks (Ev.keysP kvs)).length = kvs.length ∧ bs.length = kvs.length ∧ ys.length = kvs.length
  | [], _, _, r => by obtain ⟨rfl, rfl⟩ := r; exact ⟨rfl, rfl, rfl⟩
  | (_, _) :: _, _, _, ⟨b, bt, y, yt, e1, e2, _, _, _, h4⟩ => by
    subst e1 e2
    obtain ⟨q1, q2, q3⟩ := gt_len h4
    exact ⟨congrArg (· + 1) q1, congrArg (· + 1) q2, congrArg (· + 1) q3⟩
theorem g_len {β : Type} {Rv : β → V → Prop} : ∀ {kvs : List (PV × β)} {ks : List (L2.Key × V)}, RelG Rv kvs ks → ks.length = kvs.length
  | [], _, r => by cases r; rfl
  | (_, _) :: _, _, ⟨k, y, t, e, _, _, r⟩ => by subst e; exact congrArg (· + 1) (g_len r)
/-- the length of a dict as it stands -/
theorem dv_len (hp : E.prog = X.prog) (hw : E.w = X.w) (I : Inv X pins σ W.H s) {β : Type} {Rv : β → V → Prop} {kvs : List (PV × β)} {a : Addr} {o : HO} {Q : VK} (h : L2.Rd W.H a o) (d : DV E W Rv kvs a o) (q : Q (.int kvs.length) W.H) :
    wpAny (model X.prog X.w) X.A (call (.builtin "len") [.ref a]) (L2.EP X pins σ Q) X.xe s := by
  rcases d with ⟨ks, rfl, r⟩ | ⟨bs, ys, rfl, _, r⟩
  · refine L2.d_len I h fun t s' I' => ⟨.int ks.length, W.H, I', ⟨t, rfl⟩, ?_⟩
    rw [g_len r]
    exact q
  · obtain ⟨hn, us, rv, hm⟩ := dicN_at hp hw I h r
    obtain ⟨l1, l2, l3⟩ := gt_len r
    obtain ⟨⟨_, hk, _⟩, _⟩ := h.ok I.hok
    have hl : ((nks (Ev.keysP kvs)).zip (bs.zip us)).length = kvs.length := by
      have := rv.length
      simp only [List.length_zip]
      omega
    rw [← hp, ← hw]
    refine call_len_dictH (knd := nestedKind E.prog E.w) hn hm (by have := L2.line63; omega) ?_
    rw [hl]
    exact ⟨.int kvs.length, W.H, I.tok _, ⟨_, rfl⟩, q⟩
theorem len_view (hK : E.K = X.K) (hp : E.prog = X.prog) (hw : E.w = X.w) (I : Inv X pins σ W.H s) {v r : PV} {x : V} {u : Value} {Q : VK} (e : Ev.bfun .len [v] = some r) (rv : RelC E W v x) (rx : RelV x u) (q : ∀ z, RelP E W r z → Q z W.H) :
    wpAny (model X.prog X.w) X.A (call (.builtin "len") [u]) (L2.EP X pins σ Q) X.xe s := by
  cases v with
  | lst xs =>
    cases e
    obtain ⟨a, ys, rfl, hq, rs⟩ := rv
    have hl := rs.length
    exact L2.call_len_seq pins s σ W.H [.ref a] [u] Q I (.cons rx .nil) ⟨a, ys, rfl, .inl (SqL.of hq), by rw [hl]; exact q _ rfl⟩
  | tup xs =>
    cases e
    obtain ⟨a, ys, rfl, _, hq, rs⟩ := rv
    have hl := rs.length
    exact L2.call_len_seq pins s σ W.H [.ref a] [u] Q I (.cons rx .nil) ⟨a, ys, rfl, .inr (SqT.of hq), by rw [hl]; exact q _ rfl⟩
  | str z =>
    cases rv
    have e : (if Ev.fits z.length then some (PV.int z.length) else none) = some r := e
    split at e
    · rename_i hz
      cases e
      have hz := Nat.le_of_ble_eq_true hz
      exact L2.call_len_str pins s σ W.H [.str ⟨z.toArray⟩] [u] Q I (.cons rx .nil) ⟨⟨z.toArray⟩, rfl, hz, q _ rfl⟩
    · cases e
  | dic kvs =>
    cases e
    obtain ⟨a, o, rfl, hq, d⟩ := RelC.dv rv
    cases rx
    exact dv_len hp hw I hq d (q _ rfl)
  | lam l xs =>
    cases e
    obtain ⟨a, ns, rfl, rfl, sc⟩ := rv
    exact L2.call_len_seq pins s σ W.H [.ref a] [u] Q I (.cons rx .nil) ⟨a, ns.map V.int, rfl, .inl (sc.sq hK), q _ (by show _ = _; rw [List.length_map, List.length_map])⟩
  | _ => cases e
theorem cLen (hK : E.K = X.K) (hp : E.prog = X.prog) (hw : E.w = X.w) (nl : NoDun E.P (·.len)) : CallR X (.builtin "len") (BfR E Wx σ' C .len) := by
  intro pins s σ H xs us Q I r ⟨W, h, vs, eH, rh, rv, g⟩
  subst eH
  match vs, rv with
  | [], e => exact g.elim
  | v :: w :: l, _ =>
    have g : Go E W h (match Ev.vws h (v :: w :: l) with
      | some xs => Ev.ofO 21 (Ev.bfun .len xs) h
      | none => .bad 21) (KV E Q) (KX E Wx σ') := g
    cases z : Ev.vws h (v :: w :: l) with
    | none => rw [z] at g; exact g.elim
    | some ps =>
      have hl := vws_len z
      match ps, hl with
      | a :: b :: c, _ => rw [z] at g; exact g.elim
  | [v], ⟨x, t, e', rx, rt⟩ =>
    cases rt
    subst e'
    obtain ⟨u, rfl, ru⟩ := L2.vals1 r
    have g : Go E W h (match Ev.dun E.P (·.len) h v with
      | some (some d) => C d [v] h
      | some none => .bad 19
      | none => match (generalizing := false) v with
        | .p x => Ev.ofO 19 (Ev.bfun .len [x]) h
        | .r k => match Ev.getO h k with
          | some (.lst xs) => .ok (.p (.int xs.length)) h
          | some (.dic kvs) => .ok (.p (.int kvs.length)) h
          | _ => .bad 19) (KV E Q) (KX E Wx σ') := g
    rcases dun_none nl (h := h) (v := v) with q | q
    · rw [q] at g
      cases v with
      | p p =>
        obtain ⟨r0, e, k⟩ := Go.ofO rh g
        exact len_view hK hp hw I e (RelC.of rx) ru (k W (Af.refl rh))
      | r i =>
        obtain ⟨_, rfl⟩ := rx
        have g : Go E W h (match Ev.getO h i with
          | some (.lst xs) => .ok (.p (.int xs.length)) h
          | some (.dic kvs) => .ok (.p (.int kvs.length)) h
          | _ => .bad 19) (KV E Q) (KX E Wx σ') := g
        cases z : Ev.getO h i with
        | none => simp only [z] at g; exact g.elim
        | some o =>
          simp only [z] at g
          cases o with
          | lst xs =>
            obtain ⟨ys, hq, rs⟩ := rh.lst z
            have hl := rs.length
            exact L2.call_len_seq pins s σ W.H [.ref (W.ρ i)] [u] Q I (.cons ru .nil) ⟨_, ys, rfl, .inl (SqL.of hq), by rw [hl]; exact Go.ok (α := Val) rh g _ rfl⟩
          | dic kvs =>
            obtain ⟨o, hq, d⟩ := rh.dic z
            cases ru
            exact dv_len hp hw I hq d.dv (Go.ok (α := Val) rh g _ rfl)
          | _ => exact g.elim
    · rw [q] at g; exact g.elim
end
end Sb
set_option Elab.async false
set_option linter.all false
set_option autoImplicit false
set_option maxRecDepth 100000
set_option maxHeartbeats 2000000
/-! # Sw: list, sorted -/
namespace Sb
open PySem PySem.Spec
open PyProof.Rows hiding St
open L2 (V Hp HO upd upd_same upd_ne VK TE TT TA TS Ends WX XK PE PT PA PS PSs Inv OpR CallR SqL SqT Dp Sp Room RelV)
open Ev (PV Val MO Hh Sg Exc Res SR)
section
variable {E : En} {X : L2.Cx} {Wx : WX} {C : Ev.Call} {σ' : L2.St} {H : Hp} {W : Wd} {h : Hh} {pins : List (Addr × Obj)} {σ : L2.St} {s : Shared}
theorem ts_all : ∀ {kvs : List (PV × PV)} {bs : List Addr} {ys : List V}, RelTs E W kvs bs ys → (Ev.keysP kvs).all Ev.isTup = true
  | [], _, _, _ => rfl
  | (k, v) :: r, _, _, ⟨b, bt, y, yt, e1, e2, h1, h2, h3, h4⟩ => by
    show (Ev.isTup k && (Ev.keysP r).all Ev.isTup) = true
    rw [ts_all h4, (Bool.and_eq_true_iff.mp h1).1]
    rfl
/-- what list, sorted go through -/
def ListSrc (E : En) (K : PySem.W.Frag) (W : Wd) (vs : List PV) (a : Addr) : Prop := (∃ ys, (SqL K W.H a ys ∨ SqT K W.H a ys) ∧ RelPs E W vs ys) ∨ (∃ ks : List (L2.Key × V), L2.Rd W.H a (.dK ks) ∧ RelPs E W vs (ks.map fun q => L2.kV q.1)) ∨ ∃ ks bs ys, L2.Rd W.H a (DicN E a ks bs ys) ∧ ks.length = bs.length ∧ bs.length = ys.length ∧ RelPs E W vs (bs.map V.ref)
theorem list_src {v r : PV} {x : V} (e : Ev.bfun .list [v] = some r) (rv : RelC E W v x) : ∃ vs a, r = .lst vs ∧ x = .ref a ∧ ListSrc E X.K W vs a := by
  cases v with
  | lst xs => cases e; obtain ⟨a, ys, rfl, hq, rs⟩ := rv; exact ⟨xs, a, rfl, rfl, .inl ⟨ys, .inl (SqL.of hq), rs⟩⟩
  | tup xs => cases e; obtain ⟨a, ys, rfl, _, hq, rs⟩ := rv; exact ⟨xs, a, rfl, rfl, .inl ⟨ys, .inr (SqT.of hq), rs⟩⟩
  | dic kvs =>
    cases e
    obtain ⟨a, o, rfl, hq, ⟨ks, rfl, rs⟩ | ⟨bs, ys, rfl, ne, rs⟩⟩ := rv
    · exact ⟨_, a, rfl, rfl, .inr (.inl ⟨ks, hq, (ks_rel rs).1⟩)⟩
    · obtain ⟨r1, r2, r3, r4⟩ := ts_rel rs
      exact ⟨_, a, rfl, rfl, .inr (.inr ⟨_, bs, ys, hq, r4, r3, r1⟩)⟩
  | _ => cases e
theorem one_case : ∀ {b : Ev.BF} {ps : List PV} {r : PV}, (b = .list ∨ b = .sorted) → Ev.bfun b ps = some r → ∃ v, ps = [v]
  | b, [], r, hb, e => by rcases hb with rfl | rfl <;> cases e
  | b, [v], r, hb, e => ⟨v, rfl⟩
  | b, v :: w :: l, r, hb, e => by rcases hb with rfl | rfl <;> cases v <;> cases e
theorem vals_of : ∀ {xs : List V} {us : List Value}, us.length = xs.length → (∀ (j : Nat) (v : Value), us[j]? = some v → ∃ x : V, xs[j]? = some x ∧ L2.RelV x v) → L2.Vals xs us
  | [], [], _, _ => .nil
  | [], _ :: _, h, _ => by cases h
  | _ :: _, [], h, _ => by cases h
  | x :: xs, u :: us, h, k => by
    obtain ⟨y, e, r⟩ := k 0 u rfl
    cases e
    exact .cons r (vals_of (Nat.succ.inj h) fun j v e => k (j + 1) v e)
theorem list_dicN (hc : X.calm = true) {us : List Value} {a : Addr} {ks : List NestedKey} {bs : List Addr} {ys : List V} {Q : VK} (I : Inv X pins σ W.H s) (r : L2.Vals [.ref a] us) (hq : L2.Rd W.H a (DicN E a ks bs ys)) (l1 : ks.length = bs.length) (l2 : bs.length = ys.length)
    (q : ∀ l, W.H l = none → Q (.ref l) (upd W.H l (.lst (bs.map V.ref)))) : wpAny (model X.prog X.w) X.A (call (.type "list") us) (L2.EP X pins σ Q) X.xe s := by
  obtain ⟨⟨lo, hz, ws, rv, o, es, ep, ho, hx, hdt, he, _⟩, _⟩ := hq.ok I.hok
  obtain ⟨u, rfl, rx⟩ := L2.vals1 r
  cases rx
  have lu := rv.length
  have hsz : es.size = bs.length := by
    have := congrArg List.length he
    simp at this
    omega
  have raw : s.heap.DictRaw a es ep := ⟨o, ho, hx, hdt⟩
  refine PySem.W.kdl_call (KdlSrc.rawDict lo) (I.ok.hd hc) raw (by rw [hsz, ← l1]; exact hz) fun h' tk acc c' hk hD hacc => ?_
  have hv : L2.Vals (bs.map V.ref) acc.toList := vals_of (by rw [Array.length_toList, List.length_map, ← hsz]; exact hacc.1) fun j v e => by
    obtain ⟨hi, ev⟩ := hacc.2 j v (by rw [← Array.getElem?_toList]; exact e)
    have hb : j < bs.length := by omega
    have hu : j < ws.length := by omega
    have hkj : j < ks.length := by omega
    have q : es.toList[j]? = some (entryOfKey (nestedKind E.prog E.w) (ks[j], (bs[j], ws[j]))) := by
      have z : (ks.zip (bs.zip ws))[j]? = some (ks[j], (bs[j], ws[j])) := List.getElem?_zip_eq_some.mpr ⟨List.getElem?_eq_getElem hkj, List.getElem?_zip_eq_some.mpr ⟨List.getElem?_eq_getElem hb, List.getElem?_eq_getElem hu⟩⟩
      rw [he, List.getElem?_map, z]
      rfl
    have q2 : es[j] = entryOfKey (nestedKind E.prog E.w) (ks[j], (bs[j], ws[j])) := by
      have : es.toList[j]? = some es[j] := by simp [hi]
      rw [this] at q
      exact Option.some.inj q
    exact ⟨.ref bs[j], by simp [List.getElem?_eq_getElem hb], by rw [ev, q2]; rfl⟩
  exact ⟨.ref s.heap.objs.size, upd W.H s.heap.objs.size (.lst (bs.map V.ref)), I.laid (t' := tk) hk (Nat.le_refl _)
    (show L2.ObjOk X.prog X.w _ _ _ (.lst (bs.map V.ref)) from ⟨by rw [List.length_map, ← l1]; exact hz, acc.toList, c', hv, by rw [Array.toArray_toList]; exact hD⟩), rfl, q _ (I.hok.fresh (Nat.le_refl _))⟩
theorem list_call (hc : X.calm = true) {us : List Value} {a : Addr} {vs : List PV} {Q : VK} (I : Inv X pins σ W.H s) (r : L2.Vals [.ref a] us) (src : ListSrc E X.K W vs a) (q : ∀ ys, RelPs E W vs ys → ∀ l, W.H l = none → Q (.ref l) (upd W.H l (.lst ys))) :
    wpAny (model X.prog X.w) X.A (call (.type "list") us) (L2.EP X pins σ Q) X.xe s := by
  rcases src with ⟨ys, hq, rs⟩ | ⟨ks, hq, rs⟩ | ⟨ks, bs, ys, hq, l1, l2, rs⟩
  · exact L2.call_list_of pins s σ W.H _ us Q I r ⟨a, ys, rfl, hq, q ys rs⟩
  · exact L2.call_listD hc pins s σ W.H _ us Q I r ⟨a, ks, rfl, hq, q _ rs⟩
  · exact list_dicN hc I r hq l1 l2 (q _ rs)
theorem cList (hc : X.calm = true) : CallR X (.type "list") (BfR E Wx σ' C .list) := by
  intro pins s σ H xs us Q I r ⟨W, h, vs, eH, rh, rv, g⟩
  subst eH
  obtain ⟨ps, r0, e1, e2, k⟩ := bf_view rfl rh rv g
  obtain ⟨v, rfl⟩ := one_case (.inl rfl) e2
  obtain ⟨x, rfl, rx⟩ := vws1 rh e1 rv
  obtain ⟨vs, a, rfl, rfl, src⟩ := list_src (X := X) e2 rx
  exact list_call hc I r src fun ys rs l hl => k _ (af_new rh hl) _ (new_lst rh hl rs)
theorem cListM (hc : X.calm = true) : CallR X (.type "list") (BfR E Wx σ' C .listM) := by
  intro pins s σ H xs us Q I r ⟨W, h, vs, eH, rh, rv, g⟩
  subst eH
  have g : Go E W h (match Ev.vws h vs with
    | some xs => match Ev.bfun .list xs with
      | some (.lst vs) => Ev.mkL true (Ev.liftP vs) h
      | _ => .bad 21
    | none => .bad 21) (KV E Q) (KX E Wx σ') := by
    match vs, g with
    | [], g => exact g
    | [_], g => exact g
    | _ :: _ :: _, g => exact g
  cases z : Ev.vws h vs with
  | none => rw [z] at g; exact g.elim
  | some ps =>
    rw [z] at g
    have g : Go E W h (match Ev.bfun .list ps with
      | some (.lst vs) => Ev.mkL true (Ev.liftP vs) h
      | _ => .bad 21) (KV E Q) (KX E Wx σ') := g
    cases e2 : Ev.bfun .list ps with
    | none => rw [e2] at g; exact g.elim
    | some r0 =>
      rw [e2] at g
      obtain ⟨v, rfl⟩ := one_case (.inl rfl) e2
      obtain ⟨x, rfl, rx⟩ := vws1 rh z rv
      obtain ⟨vs, a, rfl, rfl, src⟩ := list_src (X := X) e2 rx
      have g : Go E W h (Ev.mkL true (Ev.liftP vs) h) (KV E Q) (KX E Wx σ') := g
      exact list_call hc I r src fun ys rs l hl => (mkL_go rh (liftP_rel rs) g).2 l hl
end
end Sb
set_option Elab.async false
set_option linter.all false
set_option autoImplicit false
set_option maxRecDepth 100000
set_option maxHeartbeats 2000000
/-! # Sx: sorted -/
namespace Sb
open PySem PySem.Spec
open PyProof.Rows hiding St
open L2 (V Hp HO upd upd_same upd_ne VK TE TT TA TS Ends WX XK PE PT PA PS PSs Inv OpR CallR SqL SqT Dp Sp Room RelV)
open Ev (PV Val MO Hh Sg Exc Res SR)
section
/-- an order that sorting may use -/
structure Ord {α : Type} (lt : α → α → Bool) : Prop where
  asym : ∀ a b, lt a b = true → lt b a = false
  trans : ∀ a b c, lt b a = false → lt c b = false → lt c a = false
  anti : ∀ a b, lt b a = false → lt a b = false → a = b
variable {α : Type} {lt : α → α → Bool} {f : α → PV}
theorem gins (o : Ord lt) (hf : ∀ a b, Ev.ltP (f a) (f b) = some (lt a b)) (x : α) : ∀ (ms : List α), ms.Pairwise (fun a b => lt b a = false) → ∃ ks : List α, Ev.insP (f x) (ms.map f) = some (ks.map f) ∧ ks.Perm (x :: ms) ∧ ks.Pairwise (fun a b => lt b a = false)
  | [], _ => ⟨[x], rfl, List.Perm.refl _, by simp⟩
  | y :: ms, hp => by
    obtain ⟨h1, h2⟩ := List.pairwise_cons.mp hp
    cases q : lt y x with
    | true =>
      obtain ⟨ks, e, pk, sk⟩ := gins o hf x ms h2
      refine ⟨y :: ks, ?_, (pk.cons y).trans (List.Perm.swap x y ms), List.pairwise_cons.mpr ⟨fun b hb => ?_, sk⟩⟩
      · show (match Ev.ltP (f y) (f x) with
          | some true => match Ev.insP (f x) (ms.map f) with
            | some r => some (f y :: r)
            | none => none
          | some false => some (f x :: f y :: ms.map f)
          | none => none) = _
        rw [hf, q, e]
        rfl
      · rcases List.mem_cons.mp (pk.subset hb) with rfl | hb
        · exact o.asym _ _ q
        · exact h1 b hb
    | false =>
      refine ⟨x :: y :: ms, ?_, List.Perm.refl _, List.pairwise_cons.mpr ⟨fun b hb => ?_, hp⟩⟩
      · show (match Ev.ltP (f y) (f x) with
          | some true => match Ev.insP (f x) (ms.map f) with
            | some r => some (f y :: r)
            | none => none
          | some false => some (f x :: f y :: ms.map f)
          | none => none) = _
        rw [hf, q]
        rfl
      · rcases List.mem_cons.mp hb with rfl | hb
        · exact q
        · exact o.trans _ _ _ q (h1 b hb)
theorem gsort (o : Ord lt) (hf : ∀ a b, Ev.ltP (f a) (f b) = some (lt a b)) : ∀ (xs : List α), ∃ ks : List α, Ev.sortP (xs.map f) = some (ks.map f) ∧ ks.Perm xs ∧ ks.Pairwise (fun a b => lt b a = false)
  | [] => ⟨[], rfl, List.Perm.refl _, List.Pairwise.nil⟩
  | x :: xs => by
    obtain ⟨ms, e, pm, sm⟩ := gsort o hf xs
    obtain ⟨ks, e2, pk, sk⟩ := gins o hf x ms sm
    refine ⟨ks, ?_, pk.trans (pm.cons x), sk⟩
    show (match Ev.sortP (xs.map f) with
      | some r => Ev.insP (f x) r
      | none => none) = _
    rw [e]
    exact e2
/-- whatever sorts, gives this -/
theorem gsort_eq (o : Ord lt) (hf : ∀ a b, Ev.ltP (f a) (f b) = some (lt a b)) {xs ys : List α} {r : List PV} (e : Ev.sortP (xs.map f) = some r) (p : ys.Perm xs) (hs : ys.Pairwise (fun a b => lt b a = false)) : r = ys.map f := by
  obtain ⟨ks, e2, pk, sk⟩ := gsort o hf xs
  rw [e2] at e
  cases e
  rw [List.Perm.eq_of_pairwise (fun a b _ _ h1 h2 => o.anti a b h1 h2) sk hs (pk.trans p.symm)]
theorem ord_int : Ord (fun a b : Int => decide (a < b)) := ⟨fun a b h => by simp at *; omega, fun a b c h1 h2 => by simp at *; omega, fun a b h1 h2 => by simp at *; omega⟩
theorem ord_txt : Ord Ev.ltN := ⟨fun a b h => by
    rw [ltN_lt] at *
    simp only [decide_eq_true_eq, decide_eq_false_iff_not] at *
    exact fun h' => List.lt_irrefl _ (List.lt_trans h h'),
  fun a b c h1 h2 => by
    rw [ltN_lt] at *
    simp only [decide_eq_false_iff_not, List.not_lt] at *
    exact List.le_trans h1 h2,
  fun a b h1 h2 => by
    rw [ltN_lt] at *
    simp only [decide_eq_false_iff_not, List.not_lt] at *
    exact List.le_antisymm h1 h2⟩
theorem ltCps_lt : ∀ a b : List Nat, ltCps a b = decide (a < b)
  | [], [] => rfl
  | [], _ :: _ => by simp [ltCps]
  | _ :: _, [] => by simp [ltCps]
  | a :: as, b :: bs => by
    have ih := ltCps_lt as bs
    simp only [ltCps, ih, List.cons_lt_cons_iff]
    by_cases h : a < b <;> by_cases h2 : a = b <;> simp [h, h2]
theorem rising_pw : ∀ (p : Str) (l : List Str), risingS p l = true → (p :: l).Pairwise (fun a b => ltCps b.cps.toList a.cps.toList = false)
  | p, [], _ => List.pairwise_singleton _ _
  | p, x :: r, h => by
    have h : (!ltCps x.cps.toList p.cps.toList && risingS x r) = true := h
    obtain ⟨h1, h2⟩ := Bool.and_eq_true_iff.mp h
    have ih := rising_pw x r h2
    have h1 : ltCps x.cps.toList p.cps.toList = false := by simpa using h1
    refine List.pairwise_cons.mpr ⟨fun b hb => ?_, ih⟩
    rcases List.mem_cons.mp hb with rfl | hb
    · exact h1
    · have h3 := (List.pairwise_cons.mp ih).1 b hb
      rw [ltCps_lt] at *
      simp only [decide_eq_false_iff_not, List.not_lt] at *
      exact List.le_trans h1 h3
theorem sorted_pw : ∀ (l : List Str), sortedS l = true → l.Pairwise (fun a b => ltCps b.cps.toList a.cps.toList = false)
  | [], _ => List.Pairwise.nil
  | x :: r, h => rising_pw x r h
end
section
variable {E : En} {X : L2.Cx} {Wx : WX} {C : Ev.Call} {σ' : L2.St} {H : Hp} {W : Wd} {h : Hh} {pins : List (Addr × Obj)} {σ : L2.St} {s : Shared}
theorem ints_of : ∀ {ps : List PV} {ns : List Int}, Ev.intsP ps = some ns → ps = ns.map PV.int
  | [], _, e => by cases e; rfl
  | p :: ps, ns, e => by
    cases p with
    | int i =>
      obtain ⟨ms, e2, rfl⟩ := Option.map_eq_some_iff.mp (show (Ev.intsP ps).map (i :: ·) = some ns from e)
      rw [ints_of e2, List.map_cons]
    | _ => cases e
theorem texts_of : ∀ {ps : List PV} {ns : List (List Nat)}, Ev.texts ps = some ns → ps = ns.map PV.str
  | [], _, e => by cases e; rfl
  | p :: ps, ns, e => by
    cases p with
    | str i =>
      obtain ⟨ms, e2, rfl⟩ := Option.map_eq_some_iff.mp (show (Ev.texts ps).map (i :: ·) = some ns from e)
      rw [texts_of e2, List.map_cons]
    | _ => cases e
theorem ints_rel : ∀ {ns : List Int} {ys : List V}, RelPs E W (ns.map PV.int) ys → ys = ns.map V.int
  | [], _, r => by cases r; rfl
  | n :: ns, _, ⟨y, t, e, r1, r2⟩ => by subst e; cases r1; rw [ints_rel r2]; rfl
theorem texts_rel : ∀ {ns : List (List Nat)} {ys : List V}, RelPs E W (ns.map PV.str) ys → ys = (ns.map St').map V.str
  | [], _, r => by cases r; rfl
  | n :: ns, _, ⟨y, t, e, r1, r2⟩ => by subst e; cases r1; rw [texts_rel r2]; rfl
theorem ints_to : ∀ {ns : List Int}, RelPs E W (ns.map PV.int) (ns.map V.int)
  | [] => rfl
  | n :: ns => ⟨_, _, rfl, rfl, ints_to⟩
theorem texts_to : ∀ {ns : List (List Nat)}, RelPs E W (ns.map PV.str) ((ns.map St').map V.str)
  | [] => rfl
  | n :: ns => ⟨_, _, rfl, rfl, texts_to⟩
theorem ints_sorted {ns ms : List Int} {r : List PV} (e : Ev.sortP (ns.map PV.int) = some r) (p : ms.Perm ns) (hs : ms.Pairwise (· ≤ ·)) : r = ms.map PV.int :=
  gsort_eq (f := PV.int) ord_int (fun _ _ => rfl) e p (hs.imp fun h => by simp; omega)
theorem texts_sorted {ns : List (List Nat)} {ms : List Str} {r : List PV} (e : Ev.sortP (ns.map PV.str) = some r) (p : ms.Perm (ns.map St')) (hs : sortedS ms = true) : ∃ ks : List (List Nat), ms = ks.map St' ∧ r = ks.map PV.str := by
  have hm : (ms.map fun s => s.cps.toList).map St' = ms := by
    rw [List.map_map]
    conv => rhs; rw [← List.map_id ms]
    rfl
  have e' : Ev.sortP (List.map PV.str ns) = some r := e
  refine ⟨ms.map fun s => s.cps.toList, hm.symm, gsort_eq (f := PV.str) (lt := Ev.ltN) (xs := ns) (ys := ms.map fun s => s.cps.toList) ord_txt (fun _ _ => rfl) e' ?_ ?_⟩
  · have q := p.map fun s : Str => s.cps.toList
    rw [List.map_map] at q
    have : ns.map ((fun s : Str => s.cps.toList) ∘ St') = ns := by
      conv => rhs; rw [← List.map_id ns]
      rfl
    rwa [this] at q
  · rw [List.pairwise_map]
    exact (sorted_pw ms hs).imp fun h => by rw [ltN_lt]; rwa [ltCps_lt] at h
theorem sortO_case {xs : List PV} {r : List PV} (e : Ev.sortO xs = some r) : (∃ ns : List Int, xs = ns.map PV.int ∧ Ev.sortP (ns.map PV.int) = some r) ∨ ∃ ns : List (List Nat), xs = ns.map PV.str ∧ ns.length < 64 ∧ Ev.sortP (ns.map PV.str) = some r := by
  unfold Ev.sortO at e
  cases q : Ev.intsP xs with
  | some ns =>
    rw [q] at e
    obtain rfl := ints_of q
    exact .inl ⟨ns, rfl, e⟩
  | none =>
    rw [q] at e
    cases q2 : Ev.texts xs with
    | none => simp only [q2] at e; cases e
    | some ns =>
      simp only [q2] at e
      split at e
      · rename_i hl
        obtain rfl := texts_of q2
        have hl : Nat.blt (ns.map PV.str).length 64 = true := hl
        rw [List.length_map] at hl
        exact .inr ⟨ns, rfl, Nat.le_of_ble_eq_true hl, e⟩
      · cases e
theorem ks_ints : ∀ {ks : List (L2.Key × V)} {ns : List Int}, ks.map (fun q => L2.kV q.1) = ns.map V.int → ks.map (·.1) = ns.map Sum.inl
  | [], [], _ => rfl
  | [], _ :: _, e => nomatch e
  | _ :: _, [], e => nomatch e
  | (k, v) :: ks, n :: ns, e => by
    obtain ⟨e1, e2⟩ := List.cons.inj e
    cases k with
    | inl i => cases e1; exact congrArg (Sum.inl n :: ·) (ks_ints e2)
    | inr i => cases e1
theorem ks_texts : ∀ {ks : List (L2.Key × V)} {ns : List Str}, ks.map (fun q => L2.kV q.1) = ns.map V.str → ks.map (·.1) = ns.map Sum.inr
  | [], [], _ => rfl
  | [], _ :: _, e => nomatch e
  | _ :: _, [], e => nomatch e
  | (k, v) :: ks, n :: ns, e => by
    obtain ⟨e1, e2⟩ := List.cons.inj e
    cases k with
    | inr i => cases e1; exact congrArg (Sum.inr n :: ·) (ks_texts e2)
    | inl i => cases e1
theorem sorted_one : ∀ {ps : List PV} {r : PV}, Ev.bfun .sorted ps = some r → ∃ xs zs, (((∃ kvs, ps = [.dic kvs] ∧ xs = Ev.keysP kvs ∧ kvs.length < 64) ∨ ps = [.lst xs]) ∧ Ev.sortO xs = some zs ∧ r = .lst zs) ∨ (ps = [.lst xs] ∧ xs.length < 2 ∧ zs = xs ∧ r = .lst xs)
  | [], r, e => by cases e
  | [v], r, e => by
    cases v with
    | lst xs =>
      have e : (if Ev.okLt 2 xs = true then some (PV.lst xs) else (Ev.sortO xs).map PV.lst) = some r := e
      split at e
      · rename_i hl
        cases e
        exact ⟨xs, xs, .inr ⟨rfl, Nat.le_of_ble_eq_true hl, rfl, rfl⟩⟩
      · obtain ⟨zs, e3, rfl⟩ := Option.map_eq_some_iff.mp e
        exact ⟨xs, zs, .inl ⟨.inr rfl, e3, rfl⟩⟩
    | dic kvs =>
      have e : (if Ev.okLt 64 kvs then (Ev.sortO (Ev.keysP kvs)).map PV.lst else none) = some r := e
      split at e
      · rename_i hl
        obtain ⟨zs, e3, rfl⟩ := Option.map_eq_some_iff.mp e
        exact ⟨_, zs, .inl ⟨.inl ⟨kvs, rfl, rfl, Nat.le_of_ble_eq_true hl⟩, e3, rfl⟩⟩
      · cases e
    | _ => cases e
  | v :: w :: l, r, e => by cases v <;> cases e
theorem perm_small {α : Type} : ∀ {l m : List α}, l.length < 2 → m.Perm l → m = l
  | [], m, _, hp => hp.eq_nil
  | [v], m, _, hp => List.perm_singleton.mp hp
  | _ :: _ :: l, _, h, _ => by
    exfalso
    simp at h
    omega
theorem cSorted (hc : X.calm = true) : CallR X (.builtin "sorted") (BfR E Wx σ' C .sorted) := by
  intro pins s σ H xs us Q I r ⟨W, h, vs, eH, rh, rv, g⟩
  subst eH
  obtain ⟨ps, r0, e1, e2, k⟩ := bf_view rfl rh rv g
  obtain ⟨ws, zs, ⟨hx, e3, rfl⟩ | ⟨rfl, h2, rfl, rfl⟩⟩ := sorted_one e2
  case inr =>
    obtain ⟨x, rfl, a, ys, rfl, hq, rs⟩ := vws1 rh e1 rv
    obtain ⟨its, rv, hl, hz⟩ := I.list (SqL.of hq)
    obtain ⟨u, rfl, ru⟩ := L2.vals1 r
    cases ru
    have l1 := rv.length
    have l2 := rs.length
    have l3 : its.length < 2 := by omega
    refine Srt.sorted_any hl.isList (by rw [← rv.length]; exact hz) (fun h2 => absurd h2 (by omega)) fun out hp => ?_
    have eo : out = its := perm_small l3 hp
    subst eo
    obtain ⟨n, hn⟩ := sortedAll_at s.heap out out.toArray
    have hf : W.H (s.heap.objs.size + 1) = none := I.hok.fresh (Nat.le_succ _)
    exact ⟨.ref (s.heap.objs.size + 1), upd W.H (s.heap.objs.size + 1) (.lst ys), I.laid (t' := s.toks) (fun b o e => sortedAll_old e) (Nat.le_succ _) ⟨hz, out, n, rv, hn⟩, rfl, k _ (af_new rh hf) _ (new_lst rh hf rs)⟩
  have fin : ∀ (l : Addr) (ys : List V), W.H l = none → RelPs E W zs ys → Q (.ref l) (upd W.H l (.lst ys)) := fun l ys hl rs => k _ (af_new rh hl) _ (new_lst rh hl rs)
  rcases hx with ⟨kvs, rfl, rfl, h64⟩ | rfl
  · obtain ⟨x, rfl, rx⟩ := vws1 rh e1 rv
    obtain ⟨a, o, rfl, hq, ⟨ks, rfl, rs⟩ | ⟨bs, ys, rfl, ne, rs⟩⟩ := rx
    · have hk := (ks_rel rs).1
      have hl := keysP_len (kvs := kvs)
      rcases sortO_case e3 with ⟨ns, e4, e5⟩ | ⟨ns, e4, _, e5⟩
      · rw [e4] at hk hl
        rw [List.length_map] at hl
        exact L2.call_sortedDI hc pins s σ W.H _ us Q I r ⟨a, ks, ns, rfl, hq, ks_ints (ints_rel hk), by omega, fun ys p pm pw hp => fin p _ hp (by rw [ints_sorted e5 pm pw]; exact ints_to)⟩
      · rw [e4] at hk hl
        rw [List.length_map] at hl
        refine L2.call_sortedD hc pins s σ W.H _ us Q I r ⟨a, ks, ns.map St', rfl, hq, ks_texts (texts_rel hk), by rw [List.length_map]; omega, fun ys p pm pw hp => ?_⟩
        obtain ⟨ms, rfl, rfl⟩ := texts_sorted e5 pm pw
        exact fin p _ hp texts_to
    · have ha := ts_all rs
      rcases sortO_case e3 with ⟨ns, e4, e5⟩ | ⟨ns, e4, _, e5⟩
      · rw [e4] at ha
        cases ns with
        | nil => cases kvs with
          | nil => exact absurd rfl ne
          | cons q l => nomatch e4
        | cons n ns => nomatch ha
      · rw [e4] at ha
        cases ns with
        | nil => cases kvs with
          | nil => exact absurd rfl ne
          | cons q l => nomatch e4
        | cons n ns => nomatch ha
  · obtain ⟨x, rfl, a, ys, rfl, hq, rs⟩ := vws1 rh e1 rv
    rcases sortO_case e3 with ⟨ns, rfl, e5⟩ | ⟨ns, rfl, h64, e5⟩
    · obtain rfl := ints_rel rs
      exact L2.cr_sortedI pins s σ W.H _ us Q I r ⟨a, ns, rfl, SqL.of hq, fun ys p pm pw hp => fin p _ hp (by rw [ints_sorted e5 pm pw]; exact ints_to)⟩
    · obtain rfl := texts_rel rs
      refine L2.cr_sortedS pins s σ W.H _ us Q I r ⟨a, ns.map St', rfl, SqL.of hq, by rw [List.length_map]; exact h64, fun ys p pm pw hp => ?_⟩
      obtain ⟨ms, rfl, rfl⟩ := texts_sorted e5 pm pw
      exact fin p _ hp texts_to
end
end Sb
set_option Elab.async false
set_option linter.all false
set_option autoImplicit false
set_option maxRecDepth 100000
set_option maxHeartbeats 2000000
/-! # Sy: int, str, repr -/
namespace Sb
open PySem PySem.Spec
open PyProof.Rows hiding St
open L2 (V Hp HO upd upd_same upd_ne VK TE TT TA TS Ends WX XK PE PT PA PS PSs Inv OpR CallR SqL SqT Dp Sp Room RelV)
open Ev (PV Val MO Hh Sg Exc Res SR)
section
theorem digits_go : ∀ (k n : Nat) (acc : List Nat), n < 2 ^ k → Ev.digitsOf.go (k + 1) n acc = TL.numL n ++ acc
  | 0, n, acc, h => by
    have : n = 0 := by omega
    subst this
    rfl
  | k + 1, n, acc, h => by
    show (if n < 10 then (48 + n) :: acc else Ev.digitsOf.go (k + 1) (n / 10) ((48 + n % 10) :: acc)) = _
    split
    · rename_i hn
      rw [TL.numL_lt hn]
      rfl
    · rename_i hn
      rw [digits_go k (n / 10) _ (by rw [Nat.pow_succ] at h; omega), TL.numL_step (n := n) (by omega), List.append_assoc]
      rfl
theorem digitsOf_num (n : Nat) : Ev.digitsOf n = TL.numL n := by
  have := digits_go (n.log2 + 1) n [] Nat.lt_log2_self
  rw [List.append_nil] at this
  exact this
theorem numT_of {i : Int} {t : List Nat} (e : Ev.numT i = some t) : ∃ n : Nat, i = n ∧ n.log2 < 1920 ∧ Str.ofString (toString i) = St' t := by
  cases i with
  | ofNat n =>
    have e : (if Nat.blt n.log2 1920 then some (Ev.digitsOf n) else none) = some t := e
    split at e
    · rename_i hl
      cases e
      refine ⟨n, rfl, Nat.le_of_ble_eq_true hl, ?_⟩
      rw [digitsOf_num]
      exact SX.num_S n
    · cases e
  | negSucc n => cases e
theorem nat_none : ∀ (s : List Nat), s.foldl (fun a c => match a with
    | some n => if 48 ≤ c && c ≤ 57 then some (n * 10 + (c - 48)) else none
    | none => none) (none : Option Nat) = none
  | [] => rfl
  | _ :: s => nat_none s
theorem nat_go : ∀ (s : List Nat) (m n : Nat), s.foldl (fun a c => match a with
    | some n => if 48 ≤ c && c ≤ 57 then some (n * 10 + (c - 48)) else none
    | none => none) (some m) = some n → s.all (fun c => decide (48 ≤ c) && decide (c ≤ 57)) = true ∧ s.foldl (fun acc c => acc * 10 + (c - 48)) m = n
  | [], m, n, e => by cases e; exact ⟨rfl, rfl⟩
  | c :: s, m, n, e => by
    rw [List.foldl_cons] at e
    have e : s.foldl (fun a c => match a with
      | some n => if 48 ≤ c && c ≤ 57 then some (n * 10 + (c - 48)) else none
      | none => none) (if (decide (48 ≤ c) && decide (c ≤ 57)) = true then some (m * 10 + (c - 48)) else none) = some n := e
    cases q : decide (48 ≤ c) && decide (c ≤ 57) with
    | true =>
      rw [q, if_pos rfl] at e
      obtain ⟨h1, h2⟩ := nat_go s _ n e
      refine ⟨?_, h2⟩
      rw [List.all_cons, q, h1]
      rfl
    | false =>
      rw [q, if_neg (by decide), nat_none] at e
      cases e
theorem natOf_int {s : List Nat} {n : Nat} (e : Ev.natOf s = some n) (hl : s.length ≤ 640) : intText? (St' s) = some (n : Int) := by
  cases s with
  | nil => cases e
  | cons c s =>
    obtain ⟨h1, h2⟩ := nat_go (c :: s) 0 n e
    rw [← h2]
    exact SX.int_S h1 (by simp) (by omega)
end
section
variable {E : En} {X : L2.Cx} {Wx : WX} {C : Ev.Call} {σ' : L2.St} {H : Hp} {W : Wd} {h : Hh} {pins : List (Addr × Obj)} {σ : L2.St} {s : Shared}
theorem int_case : ∀ {ps : List PV} {r : PV}, Ev.bfun .int ps = some r → (∃ i, ps = [.int i] ∧ r = .int i) ∨ (∃ b : Bool, ps = [.bl b] ∧ r = .int (if b then 1 else 0)) ∨ ∃ s n, ps = [.str s] ∧ s.length ≤ 640 ∧ Ev.natOf s = some n ∧ r = .int n
  | [], r, e => by cases e
  | [v], r, e => by
    cases v with
    | int i => cases e; exact .inl ⟨i, rfl, rfl⟩
    | bl b => cases e; exact .inr (.inl ⟨b, rfl, rfl⟩)
    | str s =>
      have e : (if Ev.okLt 641 s then (match Ev.natOf s with | some n => some (PV.int n) | none => none) else none) = some r := e
      split at e
      · rename_i hl
        cases q : Ev.natOf s with
        | none => rw [q] at e; cases e
        | some n =>
          rw [q] at e
          cases e
          exact .inr (.inr ⟨s, n, rfl, Nat.le_of_lt_succ (Nat.le_of_ble_eq_true hl), q, rfl⟩)
      · cases e
    | _ => cases e
  | v :: w :: l, r, e => by cases v <;> cases e
theorem cInt : CallR X (.type "int") (BfR E Wx σ' C .int) := by
  intro pins s σ H xs us Q I r ⟨W, h, vs, eH, rh, rv, g⟩
  subst eH
  obtain ⟨ps, r0, e1, e2, k⟩ := bf_view rfl rh rv g
  rcases int_case e2 with ⟨i, rfl, rfl⟩ | ⟨b, rfl, rfl⟩ | ⟨t, n, rfl, hl, e3, rfl⟩
  · obtain ⟨x, rfl, rx⟩ := vws1 rh e1 rv
    cases rx
    exact L2.call_int1 pins s σ W.H _ us Q I r (.inl ⟨i, rfl, k W (Af.refl rh) _ rfl⟩)
  · obtain ⟨x, rfl, rx⟩ := vws1 rh e1 rv
    cases rx
    exact L2.call_int1 pins s σ W.H _ us Q I r (.inr ⟨b, rfl, k W (Af.refl rh) _ rfl⟩)
  · obtain ⟨x, rfl, rx⟩ := vws1 rh e1 rv
    cases rx
    exact L2.call_int_str pins s σ W.H _ us Q I r ⟨St' t, n, rfl, natOf_int e3 hl, by rw [SX.S_len]; exact hl, k W (Af.refl rh) _ rfl⟩
theorem repr_case : ∀ {ps : List PV} {r : PV}, Ev.bfun .repr ps = some r → (ps = [.non] ∧ r = .str Ev.txNone) ∨ ∃ i t, ps = [.int i] ∧ Ev.numT i = some t ∧ r = .str t
  | [], r, e => by cases e
  | [v], r, e => by
    cases v with
    | non => cases e; exact .inl ⟨rfl, rfl⟩
    | int i =>
      obtain ⟨t, q, rfl⟩ := Option.map_eq_some_iff.mp (show (Ev.numT i).map PV.str = some r from e)
      exact .inr ⟨i, t, rfl, q, rfl⟩
    | _ => cases e
  | v :: w :: l, r, e => by cases v <;> cases e
theorem cRepr : CallR X (.builtin "repr") (BfR E Wx σ' C .repr) := by
  intro pins s σ H xs us Q I r ⟨W, h, vs, eH, rh, rv, g⟩
  subst eH
  obtain ⟨ps, r0, e1, e2, k⟩ := bf_view rfl rh rv g
  rcases repr_case e2 with ⟨rfl, rfl⟩ | ⟨i, t, rfl, e3, rfl⟩
  · obtain ⟨x, rfl, rx⟩ := vws1 rh e1 rv
    cases rx
    obtain ⟨u, rfl, ru⟩ := L2.vals1 r
    cases ru
    exact PySem.P.repr_of_none ⟨.str (St' Ev.txNone), W.H, I.tok _, ⟨_, rfl⟩, k W (Af.refl rh) _ rfl⟩
  · obtain ⟨x, rfl, rx⟩ := vws1 rh e1 rv
    cases rx
    obtain ⟨n, rfl, hl, et⟩ := numT_of e3
    exact SkE.call_repr_int pins s σ W.H _ us Q I r ⟨(n : Int), rfl, hl, by rw [et]; exact k W (Af.refl rh) _ rfl⟩
theorem str_case {v : PV} {r : PV} (e : Ev.bfun .str [v] = some r) : (∃ s, v = .str s ∧ r = .str s) ∨ ∃ i t, v = .int i ∧ Ev.numT i = some t ∧ r = .str t := by
  cases v with
  | str s => cases e; exact .inl ⟨s, rfl, rfl⟩
  | int i =>
    obtain ⟨t, q, rfl⟩ := Option.map_eq_some_iff.mp (show (Ev.numT i).map PV.str = some r from e)
    exact .inr ⟨i, t, rfl, q, rfl⟩
  | _ => cases e
theorem str_go {v : Val} {x : V} {Q : VK} {KX0 : Exc → Wd → Prop} (ns : NoDun E.P (·.str)) (rh : RelH E W h) (rv : RelVal E W h.length v x) (g : Go E W h (Ev.strV E.P C v h) (KV E Q) KX0) :
    ∃ p r, RelC E W p x ∧ Ev.bfun .str [p] = some r ∧ ∀ z, RelP E W r z → Q z W.H := by
  have g : Go E W h (match Ev.dun E.P (·.str) h v with
    | some (some d) => C d [v] h
    | some none => .bad 18
    | none => match Ev.vw h v with
      | some x => Ev.ofO 18 (Ev.bfun .str [x]) h
      | none => .bad 18) (KV E Q) KX0 := g
  rcases dun_none ns (h := h) (v := v) with q | q
  · rw [q] at g
    cases z : Ev.vw h v with
    | none => simp only [z] at g; exact g.elim
    | some p =>
      simp only [z] at g
      obtain ⟨r, e, k⟩ := Go.ofO rh g
      exact ⟨p, r, vw_rel rh z rv, e, k W (Af.refl rh)⟩
  · rw [q] at g; exact g.elim
theorem cStr (ns : NoDun E.P (·.str)) : CallR X (.type "str") (BfR E Wx σ' C .str) := by
  intro pins s σ H xs us Q I r ⟨W, h, vs, eH, rh, rv, g⟩
  subst eH
  match vs, rv with
  | [], e =>
    have g : Go E W h (match Ev.vws h [] with
      | some xs => Ev.ofO 21 (Ev.bfun .str xs) h
      | none => .bad 21) (KV E Q) (KX E Wx σ') := g
    exact g.elim
  | v :: w :: l, _ =>
    have g : Go E W h (match Ev.vws h (v :: w :: l) with
      | some xs => Ev.ofO 21 (Ev.bfun .str xs) h
      | none => .bad 21) (KV E Q) (KX E Wx σ') := g
    cases z : Ev.vws h (v :: w :: l) with
    | none => rw [z] at g; exact g.elim
    | some ps =>
      have hl := vws_len z
      match ps, hl with
      | a :: b :: c, _ => rw [z] at g; exact g.elim
  | [v], ⟨x, t, e', rx, rt⟩ =>
    cases rt
    subst e'
    obtain ⟨p, r0, rp, e, k⟩ := str_go ns rh rx (show Go E W h (Ev.strV E.P C v h) (KV E Q) (KX E Wx σ') from g)
    rcases str_case e with ⟨t, rfl, rfl⟩ | ⟨i, t, rfl, e3, rfl⟩
    · cases rp
      exact SkE.call_str_str pins s σ W.H _ us Q I r ⟨St' t, rfl, k _ rfl⟩
    · cases rp
      obtain ⟨n, rfl, hl, et⟩ := numT_of e3
      exact L2.call_str_int pins s σ W.H _ us Q I r ⟨(n : Int), rfl, hl, by rw [et]; exact k _ rfl⟩
end
end Sb
set_option Elab.async false
set_option linter.all false
set_option autoImplicit false
set_option maxRecDepth 100000
set_option maxHeartbeats 2000000
/-! # Sz: methods of builtins -/
namespace Sb
open PySem PySem.Spec
open PyProof.Rows hiding St
open L2 (V Hp HO upd upd_same upd_ne VK TE TT TA TS Ends WX XK PE PT PA PS PSs Inv OpR CallR SqL SqT Dp Sp Room RelV MtR)
open Ev (PV Val MO Hh Sg Exc Res SR)
section
variable {E : En} {X : L2.Cx} {Wx : WX} {C : Ev.Call} {σ' : L2.St} {H : Hp} {W : Wd} {h : Hh} {pins : List (Addr × Obj)} {σ : L2.St} {s : Shared}
def bkN : Ev.BK → String
  | .lst => "list"
  | .str => "str"
  | .dic => "dict"
/-- of this type, and with no attributes of its own -/
def Bare (s : Shared) (T : String) (u : Value) : Prop := s.TypeIs u T ∧ ∀ a, u = .ref a → ∃ ob, s.heap.get? a = some ob ∧ ob.dict = none
theorem bare_lst (I : Inv X pins σ H s) {a : Addr} {xs : List V} {u : Value} (hq : SqL X.K H a xs) (rx : RelV (.ref a) u) : Bare s "list" u := L2.tyV_is (T := "list") I rx (.inl ⟨rfl, xs, hq⟩)
theorem bare_dic (I : Inv X pins σ W.H s) {a : Addr} {o : HO} {u : Value} {β : Type} {Rv : β → V → Prop} {kvs : List (PV × β)} (hq : L2.Rd W.H a o) (d : DV E W Rv kvs a o) (rx : RelV (.ref a) u) : Bare s "dict" u := by
  cases rx
  have z : ∃ ob, s.heap.get? a = some ob ∧ ob.ExactDict := by
    rcases d with ⟨ks, rfl, _⟩ | ⟨bs, ys, rfl, _⟩
    · obtain ⟨_, _, vs, _, ob, es, ep, ho, hx, _⟩ := hq.ok I.hok
      exact ⟨ob, ho, hx⟩
    · obtain ⟨⟨_, _, us, _, ob, es, ep, ho, hx, _⟩, _⟩ := hq.ok I.hok
      exact ⟨ob, ho, hx⟩
  obtain ⟨ob, ho, hx⟩ := z
  refine ⟨⟨ob, ho, hx.1⟩, fun b e => ?_⟩
  cases e
  exact ⟨ob, ho, hx.2.1⟩
theorem bm_bare {b : Ev.BM} {v : Val} {x : V} {u : Value} (I : Inv X pins σ W.H s) (rh : RelH E W h) (e : Ev.bmK b v h = true) (rv : RelVal E W h.length v x) (rx : RelV x u) : Bare s (bkN (Ev.bmT b)) u := by
  have eqk : ∀ k : Ev.BK, (Ev.bmT b == k) = true → Ev.bmT b = k := fun k h => of_decide_eq_true h
  cases v with
  | p p =>
    have rc := RelC.of rv
    cases p with
    | str t =>
      rw [eqk .str e]
      cases rc
      exact L2.tyV_is (T := "str") I rx rfl
    | lst xs =>
      rw [eqk .lst e]
      obtain ⟨a, ys, rfl, hq, _⟩ := rc
      exact bare_lst I (SqL.of hq) rx
    | dic kvs =>
      rw [eqk .dic e]
      obtain ⟨a, o, rfl, hq, d⟩ := RelC.dv rc
      exact bare_dic I hq d rx
    | _ => cases e
  | r i =>
    obtain ⟨_, rfl⟩ := rv
    have e : (match Ev.getO h i with
      | some (.lst _) => Ev.bmT b == .lst
      | some (.dic _) => Ev.bmT b == .dic
      | _ => false) = true := e
    cases z : Ev.getO h i with
    | none => simp only [z] at e; cases e
    | some o =>
      simp only [z] at e
      cases o with
      | lst xs =>
        obtain ⟨ys, hq, _⟩ := rh.lst z
        rw [eqk .lst e]
        exact bare_lst I (SqL.of hq) rx
      | dic kvs =>
        obtain ⟨o, hq, d⟩ := rh.dic z
        rw [eqk .dic e]
        exact bare_dic I hq d.dv rx
      | _ => cases e
/-- what a builtin's method makes of its object and row -/
def BmR (E : En) (Wx : WX) (σ' : L2.St) (b : Ev.BM) : V → List V → Hp → VK → Prop := fun x xs H Q => ∃ (W : Wd) (h : Hh) (v : Val) (vs : List Val), W.H = H ∧ RelH E W h ∧ RelVal E W h.length v x ∧ RelVals E W h.length vs xs ∧ Go E W h (Ev.bmV b v vs h) (KV E Q) (KX E Wx σ')
theorem te_bm {b : Ev.BM} {T id : String} {o e : Expr} {es : List Expr} {co cs : Ev.CE} {name : Str} {apos cpos : Pos} (hT : bkN (Ev.bmT b) = T) (pa : PlainAttrs T) (slot : Slot T name id) (ty : typeOf (.builtin id) = pure (.type "method_descriptor")) (hm : ∀ σ', MtR X id (BmR E Wx σ' b))
    (ho : PEv E X Wx C o co) (ha : PAv E X Wx C (e :: es) cs)
    (hb : attributeBase o name X.env (eval o X.env) = eval o X.env := by rfl)
    (few : ((backTo cpos (starEach (e :: es) X.env)).all (fun x => !x.1) && (backToKw cpos (keywordEach [] X.env)).all (fun x => x.1.isSome) && decide ((e :: es).length + ([] : List Keyword).length + (if ([] : List Keyword).isEmpty then 0 else 1) < 30)) = true := by rfl)
    (hl : (apos.endLine == cpos.line) = true := by rfl) (hst : starEach (e :: es) X.env = (false, eval e X.env) :: starEach es X.env := by rfl) (hpl : (backTo cpos (starEach es X.env)).any (·.1) = false := by rfl) :
    PEv E X Wx C (.Call (.Attribute o name apos) (e :: es) [] cpos) (.bm b co cs) := by
  refine ⟨fun pins s σ' H Q I t => ?_⟩
  have t := TR.first (m := Ev.evE E.P C co) (f := fun σ x h => match Ev.bmK b x h with
    | true => (Ev.evA E.P C cs σ h).bind fun vs h => Ev.bmV b x vs h
    | false => .bad 25) t
  refine wpAny_Call_method_late hb few hl rfl (L2.thn (ho.run pins s σ' H _ I t) fun u s1 ⟨x, H1, I1, rx, W, σ, h, v, eH, r, rh, rv, g⟩ => ?_)
  subst eH
  cases q : Ev.bmK b v h with
  | false => simp only [q] at g; exact g.elim
  | true =>
    simp only [q] at g
    subst hT
    obtain ⟨b1, b2⟩ := bm_bare I1 rh q rv rx
    refine ⟨_, id, pa, slot, ty, b1, b2, ?_⟩
    have ta : TRs E Wx (Ev.evA E.P C cs) σ' W.H fun xs H2 => BmR E Wx σ' b x xs H2 Q := ⟨W, σ, h, rfl, r, rh, (Go.bind g).imp fun vs W2 h2 a2 g2 xs rxs => ⟨W2, h2, v, vs, rfl, a2.rel, a2.val rv, rxs, g2⟩⟩
    have run := ha.run cpos pins s1 σ' W.H _ I1 ta
    rw [hst] at run ⊢
    refine Calls.callWith_builtin (by show (false || (backTo cpos (starEach es X.env)).any (·.1)) = false; rw [hpl] <;> rfl) (Calls.evalArgs_plain (L2.thn run fun us s2 ⟨xs, H2, I2, r2, q2⟩ => ?_))
    exact hm σ' pins s2 σ' H2 x xs u us Q I2 rx r2 q2
theorem te_bm0 {b : Ev.BM} {T id : String} {o : Expr} {co : Ev.CE} {name : Str} {apos cpos : Pos} (hT : bkN (Ev.bmT b) = T) (pa : PlainAttrs T) (slot : Slot T name id) (ty : typeOf (.builtin id) = pure (.type "method_descriptor")) (hm : ∀ σ', MtR X id (BmR E Wx σ' b))
    (ho : PEv E X Wx C o co) (hb : attributeBase o name X.env (eval o X.env) = eval o X.env := by rfl) (hl : (apos.endLine == cpos.line) = true := by rfl) :
    PEv E X Wx C (.Call (.Attribute o name apos) [] [] cpos) (.bm b co .nil) := by
  refine ⟨fun pins s σ' H Q I t => ?_⟩
  have t := TR.first (m := Ev.evE E.P C co) (f := fun σ x h => match Ev.bmK b x h with
    | true => (Ev.evA E.P C .nil σ h).bind fun vs h => Ev.bmV b x vs h
    | false => .bad 25) t
  refine wpAny_Call_method0_late hb hl (L2.thn (ho.run pins s σ' H _ I t) fun u s1 ⟨x, H1, I1, rx, W, σ, h, v, eH, r, rh, rv, g⟩ => ?_)
  subst eH
  cases q : Ev.bmK b v h with
  | false => simp only [q] at g; exact g.elim
  | true =>
    simp only [q] at g
    subst hT
    obtain ⟨b1, b2⟩ := bm_bare I1 rh q rv rx
    exact ⟨_, id, pa, slot, ty, b1, b2, Calls.callWith_builtin rfl (PySem.evalArgs_none (hm σ' pins s1 σ' W.H x [] u [] Q I1 rx .nil ⟨W, h, v, [], rfl, rh, rv, rfl, g⟩))⟩
end
end Sb
set_option Elab.async false
set_option linter.all false
set_option autoImplicit false
set_option maxRecDepth 100000
set_option maxHeartbeats 2000000
/-! # Ta: append, pop, join, split, partition -/
namespace Sb
open PySem PySem.Spec
open PyProof.Rows hiding St
open L2 (V Hp HO upd upd_same upd_ne VK TE TT TA TS Ends WX XK PE PT PA PS PSs Inv OpR CallR SqL SqT Dp Sp Room RelV MtR)
open Ev (PV Val MO Hh Sg Exc Res SR)
section
variable {E : En} {X : L2.Cx} {Wx : WX} {C : Ev.Call} {σ' : L2.St} {H : Hp} {W : Wd} {h : Hh} {pins : List (Addr × Obj)} {σ : L2.St} {s : Shared}
/-- a list is written anew -/
theorem af_lst (rh : RelH E W h) {i : Nat} {u : MO} {zs : List Val} {ys : List V} (e : Ev.getW h i = some u) (r : RelVals E W h.length zs ys) : Af E W h (W.chg i (.lst ys)) (h.set i (some (.lst zs))) :=
  af_chg rh e ⟨ys, upd_same, r.mono (ex_chg rh (getW_R e)) (Nat.le_refl _) fun _ _ => rfl⟩
theorem go_lst {b : Ev.BM} {v : Val} {vs : List Val} {x : V} {K : Val → Wd → Hh → Prop} {KX0 : Exc → Wd → Prop} (hb : b = .append ∨ b = .pop) (rh : RelH E W h) (rv : RelVal E W h.length v x) (g : Go E W h (Ev.bmV b v vs h) K KX0) :
    ∃ i xs ys, v = .r i ∧ x = .ref (W.ρ i) ∧ Ev.getW h i = some (.lst xs) ∧ W.H (W.ρ i) = some (.lst ys) ∧ RelVals E W h.length xs ys := by
  cases v with
  | p p =>
    have g : Go E W h (match Ev.vw h (.p p), Ev.vws h vs with
      | some x, some ys => Ev.ofO 25 (Ev.bmeth b x ys) h
      | _, _ => .bad 25) K KX0 := by rcases hb with rfl | rfl <;> exact g
    cases z : Ev.vws h vs with
    | none => rw [z] at g; exact g.elim
    | some ps =>
      rw [z] at g
      have g : Go E W h (Ev.ofO 25 (Ev.bmeth b p ps) h) K KX0 := g
      have : Ev.bmeth b p ps = none := by rcases hb with rfl | rfl <;> rfl
      rw [this] at g
      exact g.elim
  | r i =>
    obtain ⟨_, rfl⟩ := rv
    unfold Ev.bmV at g
    have hm : Ev.isMut b = true := by rcases hb with rfl | rfl <;> rfl
    simp only [hm, if_true] at g
    cases z : Ev.getW h i with
    | none => simp only [z] at g; exact g.elim
    | some o =>
      simp only [z] at g
      cases o with
      | lst xs =>
        obtain ⟨ys, h2, rs⟩ := rh.lst (getO_W z)
        exact ⟨i, xs, ys, rfl, rfl, z, h2, rs⟩
      | dic kvs =>
        simp only at g
        rcases hb with rfl | rfl <;> exact g.elim
      | _ => exact g.elim
theorem plain_bad {b : Ev.BM} {o : Val} {vs : List Val} {K : Val → Wd → Hh → Prop} {KX0 : Exc → Wd → Prop} (hb : ∀ x ys, Ev.bmeth b x ys = none) (g : Go E W h (Ev.bmV.plain b o vs h) K KX0) : False := by
  unfold Ev.bmV.plain at g
  cases z : Ev.vw h o with
  | none => simp only [z] at g; exact g
  | some p =>
    cases z2 : Ev.vws h vs with
    | none => simp only [z, z2] at g; exact g
    | some ps => simp only [z, z2, hb] at g; exact g
theorem RelVals.dropLast {n : Nat} : ∀ {xs : List Val} {ys : List V}, RelVals E W n xs ys → RelVals E W n xs.dropLast ys.dropLast
  | [], _, r => by cases r; rfl
  | [_], _, ⟨y, t, e, _, r⟩ => by subst e; cases r; rfl
  | x :: z :: l, _, ⟨y, t, e, h, y2, t2, e2, h2, r⟩ => by
    subst e e2
    exact ⟨y, _, rfl, h, RelVals.dropLast (xs := z :: l) (ys := y2 :: t2) ⟨y2, t2, rfl, h2, r⟩⟩
theorem mAppend : MtR X "list.append" (BmR E Wx σ' .append) := by
  intro pins s σ H x xs v us Q I rx rs ⟨W, h, w, vs, eH, rh, rv, rvs, g⟩
  subst eH
  obtain ⟨i, zs, ys, rfl, rfl, e, h2, rz⟩ := go_lst (.inl rfl) rh rv g
  have g : Go E W h (match (some (MO.lst zs) : Option MO) with
    | some (.lst xs) => match (generalizing := false) vs with
      | [v] => if Nat.blt xs.length Ev.sizeMax then .ok (.p .non) (h.set i (some (.lst (xs ++ [v])))) else .bad 22
      | _ => Ev.bmV.plain .append (.r i) vs h
    | _ => .bad 24) (KV E Q) (KX E Wx σ') := by
    unfold Ev.bmV at g
    simp only [show Ev.isMut .append = true from rfl, if_true, e] at g
    match vs, g with
    | [], g => exact g
    | [v], g => exact g
    | _ :: _ :: _, g => exact g
  match vs, rvs, g with
  | [v], ⟨y, t, e1, r1, r2⟩, g =>
    cases r2
    subst e1
    have g : Go E W h (if Nat.blt zs.length Ev.sizeMax then .ok (.p .non) (h.set i (some (.lst (zs ++ [v])))) else .bad 22) (KV E Q) (KX E Wx σ') := g
    split at g
    · rename_i hl
      have hl : zs.length < sizeLine := Nat.le_of_ble_eq_true hl
      exact L2.mt_append pins s σ W.H _ _ _ us Q I rx rs ⟨_, ys, y, rfl, rfl, h2, by rw [rz.length]; exact hl, g _ (af_lst rh e (rz.append ⟨y, [], rfl, r1, rfl⟩)) .non rfl⟩
    · exact g.elim
  | [], _, g => exact (plain_bad (fun _ _ => rfl) g).elim
  | a :: b :: l, _, g => exact (plain_bad (fun _ _ => rfl) g).elim
theorem mPop : MtR X "list.pop" (BmR E Wx σ' .pop) := by
  intro pins s σ H x xs v us Q I rx rs ⟨W, h, w, vs, eH, rh, rv, rvs, g⟩
  subst eH
  obtain ⟨i, zs, ys, rfl, rfl, e, h2, rz⟩ := go_lst (.inr rfl) rh rv g
  match vs, rvs, g with
  | [], e1, g =>
    cases e1
    have g : Go E W h (match zs.getLast? with
      | some v => .ok v (h.set i (some (.lst zs.dropLast)))
      | none => .bad 22) (KV E Q) (KX E Wx σ') := by
      unfold Ev.bmV at g
      simp only [show Ev.isMut .pop = true from rfl, if_true, e] at g
      exact g
    cases q : zs.getLast? with
    | none => rw [q] at g; exact g.elim
    | some v =>
      rw [q] at g
      rw [List.getLast?_eq_getElem?] at q
      obtain ⟨y, h3, r3⟩ := rz.get q
      rw [← rz.length] at h3
      have af := af_lst rh e rz.dropLast
      exact L2.mt_pop pins s σ W.H _ _ _ us Q I rx rs ⟨_, ys, y, rfl, rfl, h2, h3, g _ af y (af.val r3)⟩
  | v :: l, _, g =>
    have g : Go E W h (Ev.bmV.plain .pop (.r i) (v :: l) h) (KV E Q) (KX E Wx σ') := by
      unfold Ev.bmV at g
      simp only [show Ev.isMut .pop = true from rfl, if_true, e] at g
      exact g
    exact (plain_bad (fun _ _ => rfl) g).elim
end
end Sb
set_option Elab.async false
set_option linter.all false
set_option autoImplicit false
set_option maxRecDepth 100000
set_option maxHeartbeats 2000000
/-! # Tb: join, split, partition -/
namespace Sb
open PySem PySem.Spec
open PyProof.Rows hiding St
open L2 (V Hp HO upd upd_same upd_ne VK TE TT TA TS Ends WX XK PE PT PA PS PSs Inv OpR CallR SqL SqT Dp Sp Room RelV MtR)
open Ev (PV Val MO Hh Sg Exc Res SR)
section
theorem isPre_pre : ∀ (a b : List Nat), Ev.isPre a b = TL.pre a b
  | [], b => by simp [Ev.isPre, TL.pre]
  | x :: a, [] => rfl
  | x :: a, y :: b => by
    have ih := isPre_pre a b
    show (x == y && Ev.isPre a b) = (y :: b.take a.length == x :: a)
    rw [ih]
    show (x == y && (b.take a.length == a)) = (y == x && (b.take a.length == a))
    rw [show (x == y) = (y == x) from Bool.eq_iff_iff.mpr ⟨fun h => by rw [eq_of_beq h]; exact beq_self_eq_true _, fun h => by rw [eq_of_beq h]; exact beq_self_eq_true _⟩]
theorem splitN_spl {sep : List Nat} (hs : sep ≠ []) : ∀ (n : Nat) (cur s : List Nat), s.length < n → Ev.splitN sep n cur s = TL.spl sep 0 cur.reverse s
  | 0, _, _, h => absurd h (Nat.not_lt_zero _)
  | n + 1, cur, [], _ => by rw [TL.spl_nil]; rfl
  | n + 1, cur, c :: r, h => by
    have h : r.length < n := Nat.lt_of_succ_lt_succ h
    show (if Ev.isPre sep (c :: r) = true then cur.reverse :: Ev.splitN sep n [] ((c :: r).drop sep.length) else Ev.splitN sep n (c :: cur) r) = _
    rw [isPre_pre]
    cases q : TL.pre sep (c :: r) with
    | true =>
      rw [if_pos rfl, TL.spl_hit q, TL.spl_pass]
      cases sep with
      | nil => exact absurd rfl hs
      | cons x a =>
        rw [splitN_spl hs n [] _ (Nat.lt_of_le_of_lt (by simp) h)]
        rfl
    | false =>
      rw [if_neg (by decide), TL.spl_miss q, splitN_spl hs n (c :: cur) r h, List.reverse_cons]
theorem partN_par {sep : List Nat} : ∀ (cur s : List Nat), Ev.partN sep cur s = TL.par sep cur.reverse s
  | _, [] => rfl
  | cur, c :: r => by
    show (if Ev.isPre sep (c :: r) = true then some (cur.reverse, (c :: r).drop sep.length) else Ev.partN sep (c :: cur) r) = (if TL.pre sep (c :: r) = true then some (cur.reverse, (c :: r).drop sep.length) else TL.par sep (cur.reverse ++ [c]) r)
    rw [isPre_pre, partN_par (c :: cur) r, List.reverse_cons]
theorem joinT_L (sep : List Nat) : ∀ ys : List (List Nat), Ev.joinT sep ys = TL.joinL sep ys
  | [] => rfl
  | [_] => rfl
  | p :: q :: r => by
    show p ++ (sep ++ Ev.joinT sep (q :: r)) = p ++ (sep ++ TL.joinL sep (q :: r))
    rw [joinT_L sep (q :: r)]
end
section
variable {E : En} {X : L2.Cx} {Wx : WX} {C : Ev.Call} {σ' : L2.St} {H : Hp} {W : Wd} {h : Hh} {pins : List (Addr × Obj)} {σ : L2.St} {s : Shared}
/-- a method that looks at its values as they stand: the object is a text -/
theorem bm_str {b : Ev.BM} (hb : Ev.bmT b = .str) {v : Val} {vs : List Val} {x : V} {Q : VK} {KX0 : Exc → Wd → Prop} (rh : RelH E W h) (rv : RelVal E W h.length v x) (g : Go E W h (Ev.bmV b v vs h) (KV E Q) KX0) (hp : ∀ p ps r, Ev.bmeth b p ps = some r → ∃ t, p = .str t) :
    ∃ t ps r, x = .str (St' t) ∧ Ev.vws h vs = some ps ∧ Ev.bmeth b (.str t) ps = some r ∧ ∀ W', Af E W h W' h → ∀ z, RelP E W' r z → Q z W'.H := by
  cases v with
  | p p =>
    have g : Go E W h (match Ev.vws h vs with
      | some ys => Ev.ofO 25 (Ev.bmeth b p ys) h
      | none => .bad 25) (KV E Q) KX0 := by
      have g : Go E W h (match Ev.vw h (.p p), Ev.vws h vs with
        | some x, some ys => Ev.ofO 25 (Ev.bmeth b x ys) h
        | _, _ => .bad 25) (KV E Q) KX0 := by cases b <;> first | exact g | cases hb
      cases z : Ev.vws h vs with
      | none => rw [z] at g; exact g
      | some ps => rw [z] at g; exact g
    cases z : Ev.vws h vs with
    | none => rw [z] at g; exact g.elim
    | some ps =>
      rw [z] at g
      obtain ⟨r, e, k⟩ := Go.ofO rh g
      obtain ⟨t, rfl⟩ := hp _ _ _ e
      exact ⟨t, ps, r, rv, rfl, e, k⟩
  | r i =>
    exfalso
    have hm : Ev.isMut b = false := by cases b <;> first | rfl | cases hb
    unfold Ev.bmV at g
    simp only [hm] at g
    have g : Go E W h (match Ev.getO h i with
      | some (.lst xs) => Ev.bmV.plain b (.r i) vs h
      | _ => .bad 24) (KV E Q) KX0 := by
      cases z : Ev.getO h i with
      | none => simp only [z] at g ⊢; exact g
      | some o =>
        simp only [z] at g ⊢
        cases o with
        | lst xs => cases b <;> first | exact g | cases hb
        | dic kvs => cases b <;> first | exact g | cases hb
        | _ => exact g
    cases z : Ev.getO h i with
    | none => simp only [z] at g; exact g
    | some o =>
      simp only [z] at g
      cases o with
      | lst xs =>
        simp only at g
        unfold Ev.bmV.plain at g
        cases z2 : Ev.vw h (.r i) with
        | none => simp only [z2] at g; exact g
        | some p =>
          cases z3 : Ev.vws h vs with
          | none => simp only [z2, z3] at g; exact g
          | some ps =>
            simp only [z2, z3] at g
            obtain ⟨r, e, k⟩ := Go.ofO rh g
            obtain ⟨t, rfl⟩ := hp _ _ _ e
            unfold Ev.vw at z2
            simp only [z] at z2
            cases z4 : Ev.pures xs with
            | none => simp only [z4] at z2; cases z2
            | some ws => simp only [z4] at z2; cases z2
      | _ => exact g
theorem join_case : ∀ {p : PV} {ps : List PV} {r : PV}, Ev.bmeth .join p ps = some r → ∃ t ys, p = .str t ∧ (ps = [.lst (ys.map PV.str)] ∨ ps = [.tup (ys.map PV.str)]) ∧ Ev.joinOk t ys = true ∧ r = .str (Ev.joinT t ys) := by
  intro p ps r e
  have go : ∀ t xs, (match Ev.texts xs with
      | some ys => if Ev.joinOk t ys then some (PV.str (Ev.joinT t ys)) else none
      | none => none) = some r → ∃ ys, xs = ys.map PV.str ∧ Ev.joinOk t ys = true ∧ r = .str (Ev.joinT t ys) := fun t xs e => by
    cases q : Ev.texts xs with
    | none => rw [q] at e; cases e
    | some ys =>
      rw [q] at e
      have e : (if Ev.joinOk t ys then some (PV.str (Ev.joinT t ys)) else none) = some r := e
      split at e
      · rename_i h
        cases e
        exact ⟨ys, texts_of q, h, rfl⟩
      · cases e
  cases p with
  | str t =>
    match ps, e with
    | [], e => cases e
    | a :: b :: l, e => cases e
    | [x], e =>
      cases x with
      | lst xs => obtain ⟨ys, rfl, h, rfl⟩ := go t xs e; exact ⟨t, ys, rfl, .inl rfl, h, rfl⟩
      | tup xs => obtain ⟨ys, rfl, h, rfl⟩ := go t xs e; exact ⟨t, ys, rfl, .inr rfl, h, rfl⟩
      | _ => cases e
  | _ => cases e
theorem lens_st : ∀ ys : List (List Nat), ((ys.map St').map (·.length)) = ys.map (·.length)
  | [] => rfl
  | y :: ys => by rw [List.map_cons, List.map_cons, List.map_cons, lens_st ys]; rfl
theorem mJoin : MtR X "str.join" (BmR E Wx σ' .join) := by
  intro pins s σ H x xs v us Q I rx rs ⟨W, h, w, vs, eH, rh, rv, rvs, g⟩
  subst eH
  obtain ⟨t, ps, r, rfl, e1, e2, k⟩ := bm_str rfl rh rv g fun p ps r e => let ⟨t, _, e, _⟩ := join_case e; ⟨t, e⟩
  obtain ⟨t, ys, e, hps, ok, rfl⟩ := join_case e2
  cases e
  have ok : (ys.map (·.length)).sum + ys.length * t.length ≤ 16777216 := Nat.le_of_ble_eq_true ok
  have fin : Q (.str (Txt.join (St' t) (ys.map St'))) W.H := k W (Af.refl rh) _ (by rw [joinT_L]; exact congrArg V.str (SX.join_S t ys))
  have hz : ((ys.map St').map (·.length)).sum + (ys.map St').length * (St' t).length ≤ 16777216 := by rw [lens_st, List.length_map, SX.S_len]; exact ok
  rcases hps with rfl | rfl
  · obtain ⟨x, rfl, a, zs, rfl, hq, rz⟩ := vws1 rh e1 rvs
    obtain rfl := texts_rel rz
    exact L2.mt_join pins s σ W.H _ _ _ us Q I rx rs ⟨_, a, ys.map St', rfl, rfl, .inl (SqL.of hq), hz, fin⟩
  · obtain ⟨x, rfl, a, zs, rfl, _, hq, rz⟩ := vws1 rh e1 rvs
    obtain rfl := texts_rel rz
    exact L2.mt_join pins s σ W.H _ _ _ us Q I rx rs ⟨_, a, ys.map St', rfl, rfl, .inr (SqT.of hq), hz, fin⟩
theorem split_case : ∀ {p : PV} {ps : List PV} {r : PV}, Ev.bmeth .split p ps = some r → ∃ s t, p = .str s ∧ ps = [.str t] ∧ t ≠ [] ∧ s.length + 2 ≤ sizeLine ∧ (t.all fun c => decide (c < 256)) = true ∧ r = .lst ((Ev.split t s).map PV.str) := by
  intro p ps r e
  cases p with
  | str a =>
    match ps, e with
    | [], e => cases e
    | a :: b :: l, e => cases a <;> cases e
    | [x], e =>
      cases x with
      | str t =>
        have e : (if (!t.isEmpty && Ev.fits (a.length + 2) && t.all fun c => decide (c < 256)) = true then some (PV.lst ((Ev.split t a).map .str)) else none) = some r := e
        split at e
        · rename_i h
          obtain ⟨h1, h3⟩ := Bool.and_eq_true_iff.mp h
          obtain ⟨h1, h2⟩ := Bool.and_eq_true_iff.mp h1
          cases e
          refine ⟨a, t, rfl, rfl, ?_, Nat.le_of_ble_eq_true h2, h3, rfl⟩
          rintro rfl
          cases h1
        · cases e
      | _ => cases e
  | _ => cases e
theorem mSplit : MtR X "str.split" (BmR E Wx σ' .split) := by
  intro pins s σ H x xs v us Q I rx rs ⟨W, h, w, vs, eH, rh, rv, rvs, g⟩
  subst eH
  obtain ⟨t, ps, r, rfl, e1, e2, k⟩ := bm_str rfl rh rv g fun p ps r e => let ⟨t, _, e, _⟩ := split_case e; ⟨t, e⟩
  obtain ⟨a, b, e, rfl, hb, hl, h8, rfl⟩ := split_case e2
  cases e
  obtain ⟨x, rfl, rx2⟩ := vws1 rh e1 rvs
  cases rx2
  have hs : Txt.split (St' t) (St' b) = (Ev.split b t).map St' := by
    rw [SX.split_S hb h8]
    show (TL.spl b 0 [] t).map St' = (Ev.splitN b (t.length + 1) [] t).map St'
    rw [splitN_spl hb _ _ _ (Nat.lt_succ_self _)]
    rfl
  refine L2.mt_split pins s σ W.H _ _ _ us Q I rx rs ⟨St' t, St' b, rfl, rfl, ?_, by rw [SX.S_len]; exact hl, fun p hp => ?_⟩
  · rw [SX.S_len]
    cases b with
    | nil => exact absurd rfl hb
    | cons c l => rfl
  · rw [hs]
    exact k _ (af_new rh hp) _ (new_lst rh hp texts_to)
theorem par_case : ∀ {p : PV} {ps : List PV} {r : PV}, Ev.bmeth .partition p ps = some r → ∃ s t, p = .str s ∧ ps = [.str t] ∧ t ≠ [] ∧ s.length ≤ sizeLine ∧ r = .tup (Ev.part t s) := by
  intro p ps r e
  cases p with
  | str a =>
    match ps, e with
    | [], e => cases e
    | a :: b :: l, e => cases a <;> cases e
    | [x], e =>
      cases x with
      | str t =>
        have e : (if (!t.isEmpty && Ev.fits a.length) = true then some (PV.tup (Ev.part t a)) else none) = some r := e
        split at e
        · rename_i h
          obtain ⟨h1, h2⟩ := Bool.and_eq_true_iff.mp h
          cases e
          refine ⟨a, t, rfl, rfl, ?_, Nat.le_of_ble_eq_true h2, rfl⟩
          rintro rfl
          cases h1
        · cases e
      | _ => cases e
  | _ => cases e
theorem mPartition : MtR X "str.partition" (BmR E Wx σ' .partition) := by
  intro pins s σ H x xs v us Q I rx rs ⟨W, h, w, vs, eH, rh, rv, rvs, g⟩
  subst eH
  obtain ⟨t, ps, r, rfl, e1, e2, k⟩ := bm_str rfl rh rv g fun p ps r e => let ⟨t, _, e, _⟩ := par_case e; ⟨t, e⟩
  obtain ⟨a, b, e, rfl, hb, hl, rfl⟩ := par_case e2
  cases e
  obtain ⟨x, rfl, rx2⟩ := vws1 rh e1 rvs
  cases rx2
  refine L2.mt_partition pins s σ W.H _ _ _ us Q I rx rs ⟨St' t, St' b, rfl, rfl, ?_, by rw [SX.S_len]; exact hl, fun p hp => ?_⟩
  · rw [SX.S_len]
    cases b with
    | nil => exact absurd rfl hb
    | cons c l => rfl
  · refine k _ (af_new rh hp) _ (new_tup rh hp ?_)
    unfold Ev.part
    rw [partN_par]
    show RelPs E W (match TL.par b [] t with
      | some (x, y) => [.str x, .str b, .str y]
      | none => [.str t, .str [], .str []]) _
    cases q : TL.par b [] t with
    | none => rw [SX.partition_none hb q]; exact ⟨_, _, rfl, rfl, _, _, rfl, rfl, _, _, rfl, rfl, rfl⟩
    | some z =>
      obtain ⟨y, z⟩ := z
      rw [SX.partition_some hb q]
      exact ⟨_, _, rfl, rfl, _, _, rfl, rfl, _, _, rfl, rfl, rfl⟩
end
end Sb
set_option Elab.async false
set_option linter.all false
set_option autoImplicit false
set_option maxRecDepth 100000
set_option maxHeartbeats 2000000
/-! # Tc: d.get -/
namespace Sb
open PySem PySem.Spec
open PyProof.Rows hiding St
open L2 (V Hp HO upd upd_same upd_ne VK TE TT TA TS Ends WX XK PE PT PA PS PSs Inv OpR CallR SqL SqT Dp Sp Room RelV MtR)
open Ev (PV Val MO Hh Sg Exc Res SR)
section
variable {E : En} {X : L2.Cx} {Wx : WX} {C : Ev.Call} {σ' : L2.St} {H : Hp} {W : Wd} {h : Hh} {pins : List (Addr × Obj)} {σ : L2.St} {s : Shared}
theorem get1_case : ∀ {p : PV} {ps : List PV} {r : PV}, Ev.bmeth .get1 p ps = some r → ∃ kvs k o, p = .dic kvs ∧ ps = [k] ∧ Ev.keyK k kvs = true ∧ Ev.lookP k kvs = some o ∧ r = o.getD .non := by
  intro p ps r e
  cases p with
  | dic kvs =>
    match ps, e with
    | [], e => cases e
    | a :: b :: l, e => cases e
    | [k], e =>
      have e : (if Ev.keyK k kvs then match Ev.lookP k kvs with
        | some (some v) => some v
        | some none => some .non
        | none => none
        else none) = some r := e
      split at e
      · rename_i hk
        cases q : Ev.lookP k kvs with
        | none => rw [q] at e; cases e
        | some o =>
          rw [q] at e
          cases o with
          | none => cases e; exact ⟨kvs, k, none, rfl, rfl, hk, q, rfl⟩
          | some w => cases e; exact ⟨kvs, k, some _, rfl, rfl, hk, q, rfl⟩
      · cases e
  | _ => cases e
theorem mGet1 (hp : E.prog = X.prog) (hw : E.w = X.w) (hu : X.A.units + 64 < cLine) : MtR X "dict.get" (BmR E Wx σ' .get1) := by
  intro pins s σ H x xs v us Q I rx rs ⟨W, h, w, vs, eH, rh, rv, rvs, g⟩
  subst eH
  cases w with
  | p p =>
    have g : Go E W h (match Ev.vws h vs with
      | some ys => Ev.ofO 25 (Ev.bmeth .get1 p ys) h
      | none => .bad 25) (KV E Q) (KX E Wx σ') := by
      have g : Go E W h (match Ev.vw h (.p p), Ev.vws h vs with
        | some x, some ys => Ev.ofO 25 (Ev.bmeth .get1 x ys) h
        | _, _ => .bad 25) (KV E Q) (KX E Wx σ') := g
      cases z : Ev.vws h vs with
      | none => rw [z] at g; exact g
      | some ps => rw [z] at g; exact g
    cases z : Ev.vws h vs with
    | none => rw [z] at g; exact g.elim
    | some ps =>
      rw [z] at g
      obtain ⟨r, e, k⟩ := Go.ofO rh g
      obtain ⟨kvs, key, o, rfl, rfl, hk, hl, rfl⟩ := get1_case e
      obtain ⟨a, ob, rfl, hq, d⟩ := RelC.dv (RelC.of rv)
      obtain ⟨y, rfl, ry⟩ := vws1 rh z rvs
      obtain ⟨u, rfl, ru⟩ := L2.vals1 rs
      cases rx
      refine DV.get1 hp hw hu I hq d hk (relC_flat ry (keyK_np hk).1 (keyK_np hk).2) ru hl fun y w' s' I' hr r' => ⟨y, W.H, I', r', k W (Af.refl rh) _ ?_⟩
      rcases hr with ⟨v, rfl, q⟩ | ⟨rfl, rfl⟩
      · exact q
      · exact rfl
  | r i =>
    obtain ⟨_, rfl⟩ := rv
    unfold Ev.bmV at g
    simp only [show Ev.isMut .get1 = false from rfl] at g
    cases z : Ev.getO h i with
    | none => simp only [z] at g; exact g.elim
    | some o =>
      simp only [z] at g
      cases o with
      | lst ws =>
        have g : Go E W h (Ev.bmV.plain .get1 (.r i) vs h) (KV E Q) (KX E Wx σ') := g
        unfold Ev.bmV.plain at g
        cases z2 : Ev.vw h (.r i) with
        | none => simp only [z2] at g; exact g.elim
        | some p =>
          cases z3 : Ev.vws h vs with
          | none => simp only [z2, z3] at g; exact g.elim
          | some ps =>
            simp only [z2, z3] at g
            obtain ⟨r, e, k⟩ := Go.ofO rh g
            obtain ⟨_, _, _, rfl, _⟩ := get1_case e
            unfold Ev.vw at z2
            simp only [z] at z2
            cases z4 : Ev.pures ws with
            | none => simp only [z4] at z2; cases z2
            | some ws => simp only [z4] at z2; cases z2
      | dic kvs =>
        obtain ⟨ob, hq, d⟩ := rh.dic z
        match vs, rvs, g with
        | [.p key], ⟨y, t, e1, ry, r2⟩, g =>
          cases r2
          subst e1
          obtain ⟨u, rfl, ru⟩ := L2.vals1 rs
          cases rx
          have g : Go E W h (if Ev.keyK key kvs then match Ev.lookP key kvs with
            | some (some v) => .ok v h
            | some none => .ok (.p .non) h
            | none => .bad 23
            else .bad 23) (KV E Q) (KX E Wx σ') := g
          split at g
          · rename_i hk
            cases q : Ev.lookP key kvs with
            | none => rw [q] at g; exact g.elim
            | some r =>
              rw [q] at g
              refine DV.get1 hp hw hu I hq d.dv hk ry ru q fun y w' s' I' hr r' => ⟨y, W.H, I', r', ?_⟩
              rcases hr with ⟨v, rfl, q2⟩ | ⟨rfl, rfl⟩
              · exact Go.ok (α := Val) rh g _ q2
              · exact Go.ok (α := Val) rh g _ rfl
          · exact g.elim
        | [], _, g => exact (show False from g).elim
        | [.r _], _, g => exact (show False from g).elim
        | v :: w :: l, _, g => exact (by cases v <;> exact g : False).elim
      | _ => exact g.elim
end
end Sb
set_option Elab.async false
set_option linter.all false
set_option autoImplicit false
set_option maxRecDepth 100000
set_option maxHeartbeats 2000000
/-! # Td: a piece of work run apart; a def's call; new instances -/
namespace Sb
open PySem PySem.Spec
open PyProof.Rows hiding St
open L2 (V Hp HO upd upd_same upd_ne VK TE TT TA TS Ends WX XK PE PT PA PS PSs Inv OpR CallR SqL SqT Dp Sp Room RelV)
open Ev (PV Val MO Hh Sg Exc Res SR)
section
variable {E : En} {W W1 W2 W' : Wd} {h h1 h2 h' : Hh}
theorem af_apart (rh : RelH E W h) (hF : ∀ a, W1.F a ↔ W.F a) (hH : ∀ a o, W.H a = some o → W1.H a = some o) (hp : ∀ i u, Ev.getR h1 i = some u → W.H (W1.ρ i) = none) (a : Af E W1 h1 W2 h2) : Af E W h ⟨W2.H, W2.F, W.ρ⟩ h := by
  have x1 : Ex W W1 := ⟨fun b hb => ⟨(hF b).mpr hb, by
    obtain ⟨o, e⟩ := rh.frz b hb
    rw [e]; exact hH b o e⟩⟩
  have x2 : Ex W1 ⟨W2.H, W2.F, W.ρ⟩ := ⟨fun b hb => a.ex.fro b hb⟩
  have kp : ∀ b o, W.H b = some o → (∀ ps, o ≠ .tbl ps) → W2.H b = some o := fun b o e nt => a.keep b o (hH b o e) (fun i u q z => by
    have := hp i u (getW_R q)
    rw [z, e] at this
    cases this) nt
  refine ⟨⟨a.rel.tab, a.rel.frz, fun i o e => ?_, fun i o e z => ?_, rh.inj⟩, Nat.le_refl _, fun _ _ => rfl, x1.trans x2, fun b o e _ nt => kp b o e nt, fun b hb => ?_, fun b o e => ?_, fun i u _ q => ⟨u, q⟩, fun i u _ q => ⟨u, q⟩, fun i u hl e => absurd (getR_lt e) (Nat.not_lt.mpr hl)⟩
  · obtain ⟨ob, q⟩ := (rh.live i o e).some
    have q2 := kp _ ob q ((rh.live i o e).nt q).1
    exact (rh.live i o e).mono (x1.trans x2) (Nat.le_refl _) (fun _ _ => rfl) (q2.trans q.symm)
  · obtain ⟨ob, q⟩ := (rh.live i o e).some
    rcases a.fro _ z with z | z | ⟨j, u, q1, z⟩
    · exact rh.out i o e ((hF _).mp z)
    · rw [hH _ ob q] at z; cases z
    · have := hp j u q1
      rw [z, q] at this
      cases this
  · rcases a.fro b hb with z | z | ⟨j, u, q1, z⟩
    · exact .inl ((hF b).mp z)
    · cases q : W.H b with
      | none => exact .inr (.inl rfl)
      | some o => rw [hH b o q] at z; cases z
    · exact .inr (.inl (by rw [← z]; exact hp j u q1))
  · exact a.dom b o (hH b o e)
theorem rho_ex {ρ : Nat → Addr} : Ex W ⟨W.H, W.F, ρ⟩ := ⟨fun _ h => ⟨h, rfl⟩⟩
theorem rho_ex' {ρ : Nat → Addr} : Ex ⟨W.H, W.F, ρ⟩ W := ⟨fun _ h => ⟨h, rfl⟩⟩
theorem rho_rel {ρ : Nat → Addr} {p : PV} {x : V} (r : RelP E W p x) : RelP E ⟨W.H, W.F, ρ⟩ p x := RelP.mono rho_ex r
theorem rho_relX {ρ : Nat → Addr} {e : Exc} {C : Value} {d : Option Addr} (r : RelX E W e C d) : RelX E ⟨W.H, W.F, ρ⟩ e C d := RelX.mono rho_ex r
theorem relH_nil (rh : RelH E W h) : RelH E W [] := by
  have n : ∀ {i : Nat} {u : MO}, Ev.getR [] i = some u → False := fun {i u} e => by
    have := getR_lt e
    exact absurd this (Nat.not_lt_zero i)
  exact ⟨rh.tab, rh.frz, fun _ _ e => (n e).elim, fun _ _ e => (n e).elim, fun _ _ _ _ e => (n e).elim⟩
theorem af_apart0 (rh : RelH E W h) (a : Af E W [] W2 h2) : Af E W h ⟨W2.H, W2.F, W.ρ⟩ h :=
  af_apart (W1 := W) (h1 := []) rh (fun _ => Iff.rfl) (fun _ _ e => e) (fun i u e => absurd (getR_lt e) (Nat.not_lt_zero i)) a
/-! ### what is let go -/
theorem getR_take {n i : Nat} {u : MO} (e : Ev.getR (h.take n) i = some u) : i < n ∧ Ev.getR h i = some u := by
  have hl := getR_lt e
  rw [List.length_take] at hl
  have hn : i < n := by omega
  unfold Ev.getR at e ⊢
  rw [List.getElem?_take, if_pos hn] at e
  exact ⟨hn, e⟩
theorem getW_take {n i : Nat} {u : MO} (e : Ev.getW (h.take n) i = some u) : Ev.getW h i = some u := by
  have e' := getW_R e
  unfold Ev.getW at e ⊢
  rw [e'] at e
  rw [(getR_take e').2]
  exact e
theorem below_val {n m : Nat} {v : Val} {x : V} (b : Ev.refsBelow n v = true) (r : RelVal E W m v x) : RelVal E W n v x := by
  cases v with
  | p v => exact r
  | r i => exact ⟨blt_t.mp b, r.2⟩
theorem below_vals {n m : Nat} : ∀ {v : List Val} {x : List V}, v.all (Ev.refsBelow n) = true → RelVals E W m v x → RelVals E W n v x
  | [], _, _, r => r
  | v :: vs, _, b, ⟨y, t, e, h1, h2⟩ => by
    rw [List.all_cons, Bool.and_eq_true] at b
    exact ⟨y, t, e, below_val b.1 h1, below_vals b.2 h2⟩
theorem below_ks {n m : Nat} : ∀ {v : List (PV × Val)} {x : List (L2.Key × V)}, (v.all fun q => Ev.refsBelow n q.2) = true → RelVKs E W m v x → RelVKs E W n v x
  | [], _, _, r => r
  | (k, v) :: vs, _, b, ⟨z, y, t, e, hk, h1, h2⟩ => by
    rw [List.all_cons, Bool.and_eq_true] at b
    exact ⟨z, y, t, e, hk, below_val b.1 h1, below_ks b.2 h2⟩
theorem below_ts {n m : Nat} : ∀ {v : List (PV × Val)} {bs : List Addr} {x : List V}, (v.all fun q => Ev.refsBelow n q.2) = true → RelVTs E W m v bs x → RelVTs E W n v bs x
  | [], _, _, _, r => r
  | (k, v) :: vs, _, _, b, ⟨c, bt, y, yt, e1, e2, hk, h0, h1, h2⟩ => by
    rw [List.all_cons, Bool.and_eq_true] at b
    exact ⟨c, bt, y, yt, e1, e2, hk, h0, below_val b.1 h1, below_ts b.2 h2⟩
theorem below_fs {n m : Nat} : ∀ {v : List (Nat × Val)} {x : List (Str × V)}, (v.all fun q => Ev.refsBelow n q.2) = true → RelFs E W m v x → RelFs E W n v x
  | [], _, _, r => r
  | (k, v) :: vs, _, b, ⟨y, t, e, h1, h2⟩ => by
    rw [List.all_cons, Bool.and_eq_true] at b
    exact ⟨y, t, e, below_val b.1 h1, below_fs b.2 h2⟩
theorem below_d {n m : Nat} {kvs : List (PV × Val)} {a : Addr} {o : HO} (b : (kvs.all fun q => Ev.refsBelow n q.2) = true) (r : RelD E W m kvs a o) : RelD E W n kvs a o := by
  rcases r with ⟨ks, e, r⟩ | ⟨bs, ys, e, ne, r⟩
  · exact .inl ⟨ks, e, below_ks b r⟩
  · exact .inr ⟨bs, ys, e, ne, below_ts b r⟩
theorem below_o {n m : Nat} {o : MO} {a : Addr} (b : Ev.moBelow n o = true) (r : RelO E W m o a) : RelO E W n o a := by
  cases o with
  | lst xs =>
    obtain ⟨ys, h1, h2⟩ := r
    exact ⟨ys, h1, below_vals b h2⟩
  | dic kvs =>
    obtain ⟨o, h1, h2⟩ := r
    exact ⟨o, h1, below_d b h2⟩
  | ins c fs =>
    obtain ⟨dx, ys, h1, h2⟩ := r
    exact ⟨dx, ys, h1, below_fs b h2⟩
  | clo l env => exact (show False from r).elim
  | lck o =>
    cases o with
    | lst xs =>
      obtain ⟨ys, h1, h2⟩ := r
      exact ⟨ys, h1, below_vals b h2⟩
    | dic kvs =>
      obtain ⟨ob, o, h1, h2⟩ := r
      exact ⟨ob, o, h1, below_d b h2⟩
    | _ => exact (show False from r).elim
theorem af_take {n : Nat} (hn : n = h.length) (a : Af E W h W' h') (b : ((h'.take n).all (Ev.objBelow n)) = true) : Af E W h W' (h'.take n) := by
  have hl : (h'.take n).length = n := by rw [List.length_take]; have := a.len; omega
  refine ⟨⟨a.rel.tab, a.rel.frz, fun i o e => ?_, fun i o e => a.rel.out i o (getR_take e).2, fun i j o u e1 e2 => a.rel.inj i j o u (getR_take e1).2 (getR_take e2).2⟩, by rw [hl]; omega, a.rho, a.ex, a.keep, a.fro, a.dom, fun i u hi e => a.old i u hi (getW_take e), fun i u hi e => a.oldR i u hi (getR_take e).2, fun i u hi e => ?_⟩
  · rw [hl]
    refine below_o ?_ (a.rel.live i o (getR_take e).2)
    have hm : (some o) ∈ h'.take n := by
      unfold Ev.getR at e
      cases q : (h'.take n)[i]? with
      | none => rw [q] at e; cases e
      | some w => rw [q] at e; subst e; exact List.mem_of_getElem? q
    exact List.all_eq_true.mp b _ hm
  · have := (getR_take e).1
    omega
theorem af_settle (a : Af E W h W' h') : Af E W h W' (Ev.settle h.length h') := by
  unfold Ev.settle
  split
  · rename_i b
    exact af_take rfl a b
  · exact a
/-! ### a def's call -/
theorem relS_start {n : Nat} {as : List Val} {vs : List V} {m : Nat} {N : List Str} (r : RelVals E W n as vs) (hm : m = N.length) : RelS E W n (Ev.start as m) (L2.start N vs) := by
  have hl := RelVals.length r
  refine ⟨by unfold Ev.start L2.start; simp [hl, hm], fun i v e => ?_⟩
  unfold Ev.start at e
  unfold L2.start
  by_cases hi : i < as.length
  · rw [List.getElem?_append_left (by simpa using hi), List.getElem?_map] at e
    obtain ⟨w, e1, e2⟩ := Option.map_eq_some_iff.mp e
    cases e2
    obtain ⟨y, h1, h2⟩ := r.get e1
    exact ⟨y, by rw [List.getElem?_append_left (by simp [hl, hi]), List.getElem?_map, h1]; rfl, h2⟩
  · rw [List.getElem?_append_right (by simpa using hi)] at e
    have := List.mem_of_getElem? e
    rw [List.mem_replicate] at this
    cases this.2
theorem pures_rel0 : ∀ {as : List Val} {ps : List PV} {vs : List V} {n m : Nat}, Ev.pures as = some ps → RelVals E W n as vs → RelVals E W m as vs
  | [], _, _, _, _, _, r => r
  | .p v :: as, ps, _, n, m, e, ⟨y, t, e1, h1, h2⟩ => by
    unfold Ev.pures at e
    cases q : Ev.pures as with
    | none => rw [q] at e; cases e
    | some qs => exact ⟨y, t, e1, h1, pures_rel0 q h2⟩
  | .r i :: as, _, _, _, _, e, _ => by cases e
theorem callD_step {P : Ev.Prog} {k f : Nat} {d : Ev.Def} {as : List Val} (hl : Nat.ble 1000000 f = false) (hd : P.defs[f]? = some d) (hs : d.star = false) (hn : as.length = d.np) : Ev.callD P (k + 1) f as h = match d.keep, Ev.pures as with
    | false, some _ => (match Ev.runD P (Ev.callD P k) d as [] with
      | .ok (.p v) _ => .ok (.p v) h
      | .ok (.r _) _ => .bad 75
      | .exc e _ => .exc e h
      | .bad w => .bad w)
    | _, _ => Ev.runD P (Ev.callD P k) d as h := by
  have eb : Ev.bindArgs d as = some as := by
    unfold Ev.bindArgs
    rw [hs, if_neg (by decide), if_pos (by simp [hn])]
  show (if Nat.ble 1000000 f = true then _ else _) = _
  rw [hl, if_neg (by decide), hd]
  simp only [eb]
  try rfl
theorem body_of {X : L2.Cx} {P : Ev.Prog} {k f : Nat} {d : Ev.Def} {as : List Val} {vs : List V} {Q : VK} {Ex : XK} {N : List Str} (hP : E.P = P) (hl : Nat.ble 1000000 f = false) (hd : P.defs[f]? = some d) (hs : d.star = false) (hn : as.length = d.np) (hN : d.n = N.length) (rh : RelH E W h) (rv : RelVals E W h.length as vs)
    (g : Go E W h (Ev.callD P (k + 1) f as h) (KV E Q) (fun e W' => ∀ C d, RelX E W' e C d → Ex C d W'.H)) : TRS E (fun C d _ H => Ex C d H) (Ev.exS E.P (Ev.callD P k) d.body) { nx := fun _ H' => Q .non H', rt := Q } (L2.start N vs) W.H := by
  subst hP
  have inp : Go E W h (Ev.runD E.P (Ev.callD E.P k) d as h) (KV E Q) (fun e W' => ∀ C d, RelX E W' e C d → Ex C d W'.H) → TRS E (fun C d _ H => Ex C d H) (Ev.exS E.P (Ev.callD E.P k) d.body) { nx := fun _ H' => Q .non H', rt := Q } (L2.start N vs) W.H := fun g => by
    refine ⟨W, Ev.start as d.n, h, rfl, relS_start rv hN, rh, ?_⟩
    unfold Ev.runD at g
    cases q : Ev.exS E.P (Ev.callD E.P k) d.body (Ev.start as d.n) h with
    | nx σ1 h1 =>
      rw [q] at g
      exact fun W' a σ1' r => g W' (af_settle a) .non rfl
    | rt v h1 =>
      simp only [q] at g
      refine fun W' a x rx => ?_
      split at g
      · rename_i b
        have a2 := af_settle a
        refine g W' a2 x ?_
        have := below_val b rx
        cases v with
        | p v => exact this
        | r i => exact ⟨Nat.lt_of_lt_of_le this.1 a2.len, this.2⟩
      · exact g W' a x rx
    | bk σ1 h1 => rw [q] at g; exact g.elim
    | ct σ1 h1 => rw [q] at g; exact g.elim
    | exc e σ1 h1 =>
      rw [q] at g
      exact fun W' a σ1' r C d rx => g W' (af_settle a) C d rx
    | bad w => rw [q] at g; exact g.elim
  rw [callD_step hl hd hs hn] at g
  cases qk : d.keep with
  | true => rw [qk] at g; exact inp g
  | false =>
    cases qp : Ev.pures as with
    | none => rw [qk, qp] at g; exact inp g
    | some ps =>
      simp only [qk, qp] at g
      refine ⟨W, Ev.start as d.n, [], rfl, relS_start (pures_rel0 qp rv) hN, relH_nil rh, ?_⟩
      unfold Ev.runD at g
      cases q : Ev.exS E.P (Ev.callD E.P k) d.body (Ev.start as d.n) [] with
      | nx σ1 h1 =>
        simp only [q] at g
        exact fun W' a σ1' r => g _ (af_apart0 rh a) .non rfl
      | rt v h1 =>
        simp only [q] at g
        refine fun W' a x rx => ?_
        cases v with
        | p v =>
          have e : (if Ev.refsBelow ([] : Hh).length (.p v) = true then (.ok (.p v) (Ev.settle ([] : Hh).length h1) : Res Val) else .ok (.p v) h1) = .ok (.p v) (Ev.settle ([] : Hh).length h1) := if_pos rfl
          rw [e] at g
          exact g _ (af_apart0 rh a) x (rho_rel rx)
        | r i =>
          by_cases b : Ev.refsBelow ([] : Hh).length (.r i) = true
          · exact absurd (blt_t.mp b) (Nat.not_lt_zero i)
          · rw [if_neg b] at g
            exact g.elim
      | bk σ1 h1 => simp only [q] at g; exact g.elim
      | ct σ1 h1 => simp only [q] at g; exact g.elim
      | exc e σ1 h1 =>
        simp only [q] at g
        exact fun W' a σ1' r C d rx => g _ (af_apart0 rh a) C d (rho_relX rx)
      | bad w => simp only [q] at g; exact g.elim
end
/-- the def's code object, as its record has it -/
def CodeAt (K : PySem.W.Frag) (f : Addr) (cdv : Value) : Prop := ∃ (oc : Value) (od : Option Addr) (fd : FuncData) (osl : Array (Option Value)), K.lookup f = some ⟨oc, od, .func fd, osl⟩ ∧ fd.code = cdv
/-- THE STEP: a def whose body keeps to the compact one, its calls at k, keeps its promise at k + 1 -/
theorem fnK_step {E : En} {P : Program} {w : World} {K : PySem.W.Frag} {mg : Str → Option Value} {base : Heap} {x qual : Str} {params : Arguments} {body : List Stmt} {scope : Scope} {kws : List (Str × V)} {k f : Nat} {fd : FuncData} {N ps : List Str} {d : Ev.Def}
    (F : L2.FunD K x qual params body scope [] kws (E.adr f) fd) (S : L2.FnScope N ps scope) (hl : Nat.ble 1000000 f = false) (hd : E.P.defs[f]? = some d) (hs : d.star = false) (hn : d.np = ps.length) (hN : d.n = N.length)
    (hb : ∀ (kV doc pm : Value) (an : Option Addr) (cdv ct : Value) (us : List Value), us.length = ps.length → bindArgs (PySem.W.fnOf x qual params body scope .none kV doc pm an cdv ct) ⟨us, []⟩ = pure (ps.zip us))
    (hbody : ∀ (cdv : Value) (A : Around) (outer : List Env) (s : Shared) (H : Hp) (Ex : XK), CodeAt K (E.adr f) cdv → PySem.W.codeIn K cdv qual = true → Room (4 * k + 3) (A.deeper (envOfC qual scope s.heap.objs.size (E.adr f) cdv)) →
      PSsv E (L2.cxOf (L2.CX P w) P w K mg base N qual scope (E.adr f) cdv A outer s H Ex) (fun C d _ H => Ex C d H) (Ev.callD E.P k) body d.body) : FnK E P w K mg base (k + 1) f where
  ex := ⟨fd, ps, by
      obtain ⟨oc, od, dV, kV, doc, pm, an, cdv, ct, osl, rfl, lk, hcd, _, _⟩ := F.ex
      exact L2.fn_of lk hcd S (fun vs H Q Ex ⟨W, h, as, d', _, _, rv, hd', _, ha, _⟩ => by
        rw [hd] at hd'
        cases hd'
        rw [RelVals.length rv, ha, hn]) fun A outer s H vs Q Ex hr ⟨W, h, as, d', eH, rh, rv, hd', _, ha, g⟩ => ⟨_, hbody cdv A outer s H Ex ⟨oc, od, _, osl, lk, rfl⟩ hcd hr, by
          rw [hd] at hd'
          cases hd'
          subst eH
          exact body_of (X := L2.cxOf (L2.CX P w) P w K mg base N qual scope (E.adr f) cdv A outer s W.H Ex) rfl hl hd hs ha hN rh rv g⟩, F.bindsN hb⟩
  kp := F.kp
end Sb
set_option Elab.async false
set_option linter.all false
set_option autoImplicit false
set_option maxRecDepth 100000
set_option maxHeartbeats 2000000
/-! # Te: new instances, class methods, calls of values -/
namespace Sb
open PySem PySem.Spec
open PyProof.Rows hiding St
open L2 (V Hp HO upd upd_same upd_ne VK TE TT TA TS Ends WX XK PE PT PA PS PSs Inv OpR CallR SqL SqT Dp Sp Room RelV EP FnOk Mk Binds Vals PassesAt)
open Ev (PV Val MO Hh Sg Exc Res SR)
/-- every def is plain, no lambda stands by itself -/
structure PlainP (P : Ev.Prog) : Prop where
  all : ∀ (f : Nat) (d : Ev.Def), P.defs[f]? = some d → d.star = false ∧ d.dfl = []
  lams : P.lams = []
  few : P.defs.length < 1000000
section
variable {E : En} {X : L2.Cx} {Wx : WX} {σ' : L2.St} {H : Hp} {k f : Nat} {W W1 W2 W' : Wd} {h h1 h2 h' : Hh}
theorem PlainP.of (pp : PlainP E.P) {as : List Val} (hn : ∀ w, Ev.callD E.P k f as h ≠ .bad w) : PlainD E.P f ∧ Nat.ble 1000000 f = false := by
  cases k with
  | zero => exact absurd rfl (hn 71)
  | succ k =>
    have e : ∀ w, (if Nat.ble 1000000 f = true then (match E.P.lams[f - 1000000]? with
        | some (n, b) => Ev.evE E.P (Ev.callD E.P k) b (Ev.start as n) h
        | none => .bad 72)
      else match E.P.defs[f]? with
      | none => .bad 73
      | some d => match Ev.bindArgs d as with
        | none => .bad 74
        | some vs => match d.keep, Ev.pures vs with
          | false, some _ => (match Ev.runD E.P (Ev.callD E.P k) d vs [] with
            | .ok (.p v) _ => .ok (.p v) h
            | .ok (.r _) _ => .bad 75
            | .exc e _ => .exc e h
            | .bad w => .bad w)
          | _, _ => Ev.runD E.P (Ev.callD E.P k) d vs h : Res Val) ≠ .bad w := hn
    cases q : Nat.ble 1000000 f with
    | true =>
      rw [q, if_pos rfl, pp.lams] at e
      exact absurd rfl (e 72)
    | false =>
      rw [q, if_neg (by decide)] at e
      cases q2 : E.P.defs[f]? with
      | none =>
        rw [q2] at e
        exact absurd rfl (e 73)
      | some d => exact ⟨⟨d, q2, pp.all f d q2⟩, rfl⟩
theorem sp_ofA {as : List Val} {vs : List V} {Q : VK} (pp : PlainP E.P) (rh : RelH E W h) (rv : RelVals E W h.length as vs) (g : Go E W h (Ev.callD E.P k f as h) (KV E Q) (KX E Wx σ')) : spEv E k f vs W.H Q (L2.WE Wx σ') := by
  obtain ⟨pd, hl⟩ := pp.of g.nbad
  exact sp_of pd hl rh rv g
/-! ### new instances -/
theorem run_makeS {C : Addr} {g : Addr} {j : Nat} {fd : FuncData} {ps : List Str} {sp : Sp} {pins : List (Addr × Obj)} {s : Shared} {Q : VK} {us : List Value} {vs : List V} {Ex : XK} (M : Mk X.K C g) (F : FnOk X.prog X.w X.K X.mg X.base (L2.CX X.prog X.w) j g fd ps sp) (hr : Room (j + 1) X.A) (hb : Binds X.K fd ps [])
    (hx : PassesAt (L2.CX X.prog X.w) X σ' Ex) (I : Inv X pins σ' H s) (r : Vals vs us)
    (h : ∀ x dx, H x = none → H dx = none → dx ≠ x → sp (.ref x :: vs) (upd (upd H dx (.own x)) x (.ins C dx [])) (fun v H2 => v = .non ∧ Q (.ref x) H2) Ex) :
    wpAny (model X.prog X.w) X.A (call (.ref C) us) (EP X pins σ' Q) X.xe s := by
  have hq := h (s.heap.objs.size + 1) s.heap.objs.size (I.hok.fresh (Nat.le_succ _)) (I.hok.fresh (Nat.le_refl _)) (Nat.ne_of_lt (Nat.lt_succ_self _))
  have I2 := L2.Inv.made (C := C) I
  have r2 : Vals (V.ref (s.heap.objs.size + 1) :: vs) (Value.ref (s.heap.objs.size + 1) :: us) := .cons rfl r
  have hl : (Value.ref (s.heap.objs.size + 1) :: us ++ []).length = ps.length := by
    have e := r2.length
    rw [F.len _ _ _ _ hq] at e
    rw [List.append_nil]
    exact e.symm
  have hbb := hb { s with heap := (s.heap.push PySem.W.emptyDict).push (PySem.W.instObj C s.heap.objs.size) } (Value.ref (s.heap.objs.size + 1) :: us) I2.kIn hl
  rw [List.append_nil] at hbb
  refine wpAny_call (L2.make_map (f := g) I.kIn M.makes M.init (beq_iff_eq.mp M.fn) (codeAny_mono (F.run _ X.stack _ _ ⟨Value.ref (s.heap.objs.size + 1) :: us, []⟩ (Value.ref (s.heap.objs.size + 1) :: us) _ _ Ex (hr.make C us [])
    (I2.env0.make C us []) hbb r2 hq) fun r s' hq' => ?_))
  cases r with
  | error e => exact hx pins _ _ e s' I2 hq'
  | ok fl =>
    cases fl with
    | ret u =>
      obtain ⟨v, H', I3, rv, ev, q3⟩ := I2.after hq'
      subst ev
      exact ⟨rv, ⟨V.ref (s.heap.objs.size + 1), H', I3, rfl, q3⟩⟩
    | next => exact False.elim hq'
    | brk => exact False.elim hq'
    | cont => exact False.elim hq'
theorem flds_rel {n : Nat} : ∀ {fs : List Nat} {gs : List (Nat × Val)} {vs : List PV} {ys : List (Str × V)}, Ev.fldsP fs gs = some vs → RelFs E W n gs ys → ∃ zs, ys = (fs.map E.fnm).zip zs ∧ RelPs E W vs zs ∧ vs.length = fs.length
  | [], [], _, _, e, r => by cases e; cases r; exact ⟨[], rfl, rfl, rfl⟩
  | [], _ :: _, _, _, e, _ => by cases e
  | _ :: _, [], _, _, e, _ => by cases e
  | f :: fs, (g, .r i) :: gs, _, _, e, _ => by cases e
  | f :: fs, (g, .p v) :: gs, ws, _, e, ⟨y, t, e1, h1, h2⟩ => by
    have e : (if (f == g) = true then (match Ev.fldsP fs gs with
      | some vs => some (v :: vs)
      | none => none) else none) = some ws := e
    split at e
    · rename_i q
      cases z : Ev.fldsP fs gs with
      | none => rw [z] at e; cases e
      | some vs =>
        rw [z] at e
        cases e
        obtain ⟨zs, e2, r2, l2⟩ := flds_rel z h2
        have : f = g := by simpa using q
        subst this
        exact ⟨y :: zs, by rw [e1, e2]; rfl, ⟨y, zs, rfl, h1, r2⟩, by simp [l2]⟩
    · cases e
/-- what is asked of the classes that are made -/
def MkK (E : En) (K : PySem.W.Frag) (c : Nat) : Prop := ∀ (D : Ev.Cls) (d : Nat), E.P.clss[c]? = some D → D.init = some d → Mk K (E.cad c) (E.adr d)
/-- a new instance, from its values -/
theorem new_run {c : Nat} {pins : List (Addr × Obj)} {s : Shared} {Q : VK} {as : List Val} {us : List Value} {vs : List V} (F : ∀ d, FnK E X.prog X.w X.K X.mg X.base k d) (pp : PlainP E.P) (M : MkK E X.K c) (hr : Room (4 * k + 1) X.A) (tk : L2.Takes X Wx) (rh : RelH E W h) (rv : RelVals E W h.length as vs)
    (g : Go E W h (Ev.make E.P (Ev.callD E.P k) c as h) (KV E Q) (KX E Wx σ')) : ∃ C : Addr, C = E.cad c ∧ PySem.W.keepIn X.K (.ref C) = true ∧ ∀ (us : List Value) (s : Shared), Inv X pins σ' W.H s → Vals vs us → wpAny (model X.prog X.w) X.A (call (.ref C) us) (EP X pins σ' Q) X.xe s := by
  unfold Ev.make at g
  cases q : E.P.clss[c]? with
  | none => rw [q] at g; exact g.elim
  | some D =>
    simp only [q] at g
    cases q2 : D.init with
    | none => simp only [q2] at g; exact g.elim
    | some d =>
      simp only [q2] at g
      have m := M D d q q2
      obtain ⟨fd, ps, F1, b⟩ := (F d).ex
      refine ⟨E.cad c, rfl, m.kp, fun us s I r => run_makeS m F1 hr b (L2.passAt tk σ') I r fun x dx nx ndx hne => ?_⟩
      have hx : upd (upd W.H dx (.own x)) x (.ins (E.cad c) dx []) x = some (.ins (E.cad c) dx []) := upd_same
      have up : ∀ (b : Addr) (o : HO), W.H b = some o → upd (upd W.H dx (.own x)) x (.ins (E.cad c) dx []) b = some o := fun b o e => by
        rw [upd_ne (fun z => by rw [z, nx] at e; cases e), upd_ne (fun z => by rw [z, ndx] at e; cases e)]
        exact e
      cases q3 : D.imm with
      | true =>
        simp only [q3] at g
        cases q4 : Ev.pures as with
        | none => simp only [q4] at g; exact g.elim
        | some xs =>
          simp only [q4] at g
          let W1 : Wd := ⟨upd (upd W.H dx (.own x)) x (.ins (E.cad c) dx []), W.F, fun _ => x⟩
          have x1 : Ex W W1 := ⟨fun b hb => ⟨hb, by
            obtain ⟨o, e⟩ := rh.frz b hb
            rw [e]
            exact up b o e⟩⟩
          have g0 : ∀ {i : Nat} {u : MO}, Ev.getR [some (.ins c [])] i = some u → i = 0 ∧ u = .ins c [] := fun {i u} e => by
            have hl := getR_lt e
            have : i = 0 := by simp at hl; exact hl
            subst this
            cases e
            exact ⟨rfl, rfl⟩
          have rh1 : RelH E W1 [some (.ins c [])] := ⟨tab_ext rh.tab up (fun b hb => .inl hb), fun b hb => by
              obtain ⟨o, e⟩ := rh.frz b hb
              exact ⟨o, up b o e⟩, fun i u e => by
              obtain ⟨rfl, rfl⟩ := g0 e
              exact ⟨dx, [], hx, rfl⟩, (fun i u e z => by
              obtain ⟨o, e⟩ := rh.frz x z
              rw [nx] at e
              cases e), fun i j u w e1 e2 _ => (g0 e1).1.trans (g0 e2).1.symm⟩
          have rv1 : RelVals E W1 1 (.r 0 :: as) (.ref x :: vs) := ⟨.ref x, vs, rfl, ⟨Nat.zero_lt_one, rfl⟩, RelVals.mono (n := 0) x1 (Nat.zero_le _) (fun i hi => absurd hi (Nat.not_lt_zero i)) (pures_rel0 q4 rv)⟩
          have ap : ∀ {W2 : Wd} {h2 : Hh}, Af E W1 [some (.ins c [])] W2 h2 → Af E W h ⟨W2.H, W2.F, W.ρ⟩ h := fun a => af_apart (W1 := W1) (h1 := [some (.ins c [])]) rh (fun _ => Iff.rfl) up (fun _ _ _ => nx) a
          refine sp_ofA (W := W1) (h := [some (.ins c [])]) (as := .r 0 :: as) pp rh1 rv1 ?_
          cases q5 : Ev.callD E.P k d (.r 0 :: as) [some (.ins c [])] with
          | bad w => simp only [q5] at g; exact g.elim
          | exc e h2 =>
            simp only [q5] at g
            exact fun W2 a C dd rx => g _ (ap a) C dd (rho_relX rx)
          | ok v h2 =>
            simp only [q5] at g
            cases v with
            | r i => exact g.elim
            | p v =>
              cases v with
              | non =>
                simp only at g
                intro W2 a y ry
                refine ⟨ry, ?_⟩
                cases q6 : Ev.getW h2 0 with
                | none => simp only [q6] at g; exact g.elim
                | some o =>
                  simp only [q6] at g
                  cases o with
                  | ins c' fs =>
                    simp only at g
                    split at g
                    · rename_i hc
                      have hc : c' = c := by simpa using hc
                      subst hc
                      cases q7 : Ev.fldsP D.fields fs with
                      | none => simp only [q7] at g; exact g.elim
                      | some ws =>
                        simp only [q7] at g
                        have e0 : W2.ρ 0 = x := a.rho 0 Nat.zero_lt_one
                        obtain ⟨dx2, ys, l1, l2⟩ := a.rel.live 0 _ (getW_R q6)
                        rw [e0] at l1
                        obtain ⟨zs, e1, r1, ll⟩ := flds_rel q7 l2
                        have ag := a.trans (af_gone (F := fun b => W2.F b ∨ b = x) a.rel 0 (fun b hb => .inl hb) (fun b hb => hb.elim .inl fun z => .inr ⟨z.trans e0.symm, _, getW_R q6⟩))
                        have a2 := ap ag
                        refine g _ a2 (.ref x) ⟨x, dx2, zs, rfl, .inr rfl, ?_, by rw [fieldsOf_eq q, List.length_map]; exact ll, RelPs.mono (W := W2) (W' := ⟨W2.H, fun b => W2.F b ∨ b = x, W.ρ⟩) ⟨fun b hb => ⟨Or.inl hb, rfl⟩⟩ r1⟩
                        show W2.H x = _
                        rw [l1, e1, fieldsOf_eq q]
                    · exact g.elim
                  | _ => exact g.elim
              | _ => exact g.elim
      | false =>
        simp only [q3] at g
        have a1 := af_new (o := .own x) rh ndx
        have nx1 : (W.fz dx (.own x)).H x = none := by
          show upd W.H dx (.own x) x = none
          rw [upd_ne (fun z => hne z.symm)]
          exact nx
        have a2 := a1.trans (af_mk (u := .ins c []) (o := .ins (E.cad c) dx []) a1.rel nx1 ⟨dx, [], upd_same, rfl⟩)
        have ll : (h ++ [some (MO.ins c [])]).length = h.length + 1 := by rw [List.length_append]; rfl
        refine sp_ofA (W := (W.fz dx (.own x)).mk' h.length x (.ins (E.cad c) dx [])) (h := h ++ [some (.ins c [])]) (as := .r h.length :: as) pp a2.rel ⟨.ref x, vs, rfl, by rw [ll]; exact mk_val, a2.vals rv⟩ ?_
        cases q5 : Ev.callD E.P k d (.r h.length :: as) (h ++ [some (.ins c [])]) with
        | bad w => simp only [q5] at g; exact g.elim
        | exc e h2 =>
          simp only [q5] at g
          exact fun W2 a C dd rx => g _ (a2.trans a) C dd rx
        | ok v h2 =>
          simp only [q5] at g
          cases v with
          | r i => exact g.elim
          | p v =>
            cases v with
            | non =>
              intro W2 a y ry
              refine ⟨ry, g _ (a2.trans a) (.ref x) ⟨?_, ?_⟩⟩
              · have := a.len
                rw [ll] at this
                omega
              · rw [a.rho h.length (by rw [ll]; exact Nat.lt_succ_self _)]
                exact (mk_val (E := E) (W := W.fz dx (.own x)) (o := .ins (E.cad c) dx [])).2
            | _ => exact g.elim
theorem te_new {c : Nat} {x : Str} {p pos : Pos} {e : Expr} {es : List Expr} {cs : Ev.CE} (F : ∀ d, FnK E X.prog X.w X.K X.mg X.base k d) (pp : PlainP E.P) (M : MkK E X.K c) (hk : PySem.W.keepIn X.K (.ref (E.cad c)) = true) (hr : Room (4 * k + 1) X.A) (hg : L2.Gl X x) (hm : X.mg x = some (.ref (E.cad c))) (tk : L2.Takes X Wx)
    (ha : PAv E X Wx (Ev.callD E.P k) (e :: es) cs) (hdb : (x == ("__debug__" : Str)) = false := by decide) (he : starEach (e :: es) X.env = (false, eval e X.env) :: starEach es X.env := by rfl) (hpl : (backTo pos (starEach es X.env)).any (·.1) = false := by rfl) :
    PEv E X Wx (Ev.callD E.P k) (.Call (.Name x p) (e :: es) [] pos) (.new c cs) := ⟨fun pins s σ' H Q I t => by
  have t := TRs.first (m := Ev.evA E.P (Ev.callD E.P k) cs) (f := fun _ vs h => Ev.make E.P (Ev.callD E.P k) c vs h) t
  refine wpAny_Call_Name_kw (L2.ld_glob I hg hm ?_ hdb)
  refine PySem.W.callWith_K (h₀ := X.base) I.ok.mod.kin hk (L2.thn (ha.run pos pins s σ' H _ I t) fun us s1 ⟨vs, H1, I1, r, W, σ, h, as, eH, rs, rh, rv, g⟩ => ⟨I1.kIn, ?_⟩) he hpl
  subst eH
  obtain ⟨C, rfl, _, run⟩ := new_run (us := us) (pins := pins) (s := s1) F pp M hr tk rh rv g
  exact run us s1 I1 r⟩
theorem te_new0 {c : Nat} {x : Str} {p pos : Pos} (F : ∀ d, FnK E X.prog X.w X.K X.mg X.base k d) (pp : PlainP E.P) (M : MkK E X.K c) (hk : PySem.W.keepIn X.K (.ref (E.cad c)) = true) (hr : Room (4 * k + 1) X.A) (hg : L2.Gl X x) (hm : X.mg x = some (.ref (E.cad c))) (tk : L2.Takes X Wx)
    (hdb : (x == ("__debug__" : Str)) = false := by decide) : PEv E X Wx (Ev.callD E.P k) (.Call (.Name x p) [] [] pos) (.new c .nil) := ⟨fun pins s σ' H Q I ⟨W, σ, h, eH, r, rh, g⟩ => by
  subst eH
  have g : Go E W h (Ev.make E.P (Ev.callD E.P k) c [] h) (KV E Q) (KX E Wx σ') := g
  refine wpAny_Call_Name_kw (L2.ld_glob I hg hm ?_ hdb)
  obtain ⟨C, rfl, _, run⟩ := new_run (as := []) (vs := []) (us := []) (pins := pins) (s := s) F pp M hr tk rh rfl g
  exact PySem.W.callWith_K0 I.kIn hk (run [] s I .nil)⟩
/-- a call that never comes about: its row ends otherwise -/
theorem te_callN {x : Str} {C : Ev.Call} {a : Addr} {p pos : Pos} {e : Expr} {es : List Expr} {cs : Ev.CE} (hk : PySem.W.keepIn X.K (.ref a) = true) (hg : L2.Gl X x) (hm : X.mg x = some (.ref a))
    (ha : PAv E X Wx C (e :: es) cs) (hdb : (x == ("__debug__" : Str)) = false := by decide) (he : starEach (e :: es) X.env = (false, eval e X.env) :: starEach es X.env := by rfl) (hpl : (backTo pos (starEach es X.env)).any (·.1) = false := by rfl) :
    PEv E X Wx C (.Call (.Name x p) (e :: es) [] pos) (.tup (.cons (.tup cs) (.cons .nil .nil))) := ⟨fun pins s σ' H Q I t => by
  have t : TRs E Wx (Ev.evA E.P C cs) σ' H fun _ _ => False := by
    obtain ⟨W, σ, h, eH, r, rh, g⟩ := t
    refine ⟨W, σ, h, eH, r, rh, ?_⟩
    have g : Go E W h ((((((Ev.evA E.P C cs σ h).bind fun vs h => match Ev.pures vs, Ev.okLen vs with
      | some xs, true => (.ok (.p (.tup xs)) h : Res Val)
      | _, _ => .bad 35)).bind fun x h => ((.bad 41 : Res Val).bind fun y h => (.ok ([] : List Val) h : Res (List Val)).bind fun xs h => .ok (y :: xs) h).bind fun xs h => .ok (x :: xs) h)).bind fun vs h => match Ev.pures vs, Ev.okLen vs with
      | some xs, true => (.ok (.p (.tup xs)) h : Res Val)
      | _, _ => .bad 35) (KV E Q) (KX E Wx σ') := g
    cases q : Ev.evA E.P C cs σ h with
    | bad w => rw [q] at g; exact g
    | exc e h1 => rw [q] at g; exact g
    | ok vs h1 =>
      rw [q] at g
      have g : Go E W h (((match Ev.pures vs, Ev.okLen vs with
        | some xs, true => (.ok (.p (.tup xs)) h1 : Res Val)
        | _, _ => .bad 35).bind fun x h => (.bad 41 : Res (List Val))).bind fun vs h => match Ev.pures vs, Ev.okLen vs with
        | some xs, true => (.ok (.p (.tup xs)) h : Res Val)
        | _, _ => .bad 35) (KV E Q) (KX E Wx σ') := g
      exfalso
      cases q1 : Ev.pures vs with
      | none => simp only [q1] at g; exact g
      | some xs => cases q2 : Ev.okLen vs with
        | false => simp only [q1, q2] at g; exact g
        | true => simp only [q1, q2] at g; exact g
  refine wpAny_Call_Name_kw (L2.ld_glob I hg hm ?_ hdb)
  exact PySem.W.callWith_K (h₀ := X.base) I.ok.mod.kin hk (L2.thn (ha.run pos pins s σ' H _ I t) fun us s1 ⟨vs, H1, I1, r, z⟩ => z.elim) he hpl⟩
/-! ### class methods -/
/-- the class method m of the class c -/
structure CmK (E : En) (K : PySem.W.Frag) (c m d : Nat) : Prop where
  ex : ∃ mc p, ClX.CRead K (E.cad c) mc ∧ ClX.CMet K (E.cad c) mc (E.fnm m) p (E.adr d)
theorem run_cmS {C g q : Addr} {j : Nat} {fd : FuncData} {ps : List Str} {sp : Sp} {pins : List (Addr × Obj)} {s : Shared} {Q : VK} {us : List Value} {vs : List V} {Ex : XK} (F : FnOk X.prog X.w X.K X.mg X.base (L2.CX X.prog X.w) j g fd ps sp) (hr : Room j X.A) (hb : Binds X.K fd ps [])
    (hx : PassesAt (L2.CX X.prog X.w) X σ' Ex) (I : Inv X ((q, PySem.W.methodObj (.ref g) (.ref C)) :: pins) σ' H s) (r : Vals vs us) (h : sp (.ref C :: vs) H Q Ex) : wpAny (model X.prog X.w) X.A (call (.ref q) us) (EP X pins σ' Q) X.xe s := by
  have r2 : Vals (V.ref C :: vs) (Value.ref C :: us) := .cons rfl r
  have hl : (Value.ref C :: us ++ []).length = ps.length := by
    have e := r2.length
    rw [F.len _ _ _ _ h] at e
    rw [List.append_nil]
    exact e.symm
  have hbb := hb s (Value.ref C :: us) I.kIn hl
  rw [List.append_nil] at hbb
  have z : wpAny (model X.prog X.w) X.A (call (.ref q) us) (EP X ((q, PySem.W.methodObj (.ref g) (.ref C)) :: pins) σ' Q) X.xe s :=
    wpAny_call (PySem.W.method_call (ClX.pin_at I) (codeAny_mono (F.run X.A X.stack s H ⟨Value.ref C :: us, []⟩ (Value.ref C :: us) _ Q Ex hr I.env0 hbb r2 h) fun r s' hq => by
      cases r with
      | error e => exact hx _ H s e s' I hq
      | ok fl =>
        cases fl with
        | ret u => exact I.after hq
        | next => exact False.elim hq
        | brk => exact False.elim hq
        | cont => exact False.elim hq))
  exact L2.thn z fun _ _ y => ClX.unpinE y
theorem te_cm {c m d : Nat} {x y : Str} {e : Expr} {es : List Expr} {cs : Ev.CE} {p apos pos : Pos} {pl : Sem Bool} (F : ∀ d, FnK E X.prog X.w X.K X.mg X.base k d) (pp : PlainP E.P) (cm : CmK E X.K c m d) (hd : ∃ D, E.P.clss[c]? = some D ∧ Ev.lookN m D.cms = some d) (hy : E.fnm m = y) (hr : Room (4 * k) X.A) (hg : L2.Gl X x) (hm : X.mg x = some (.ref (E.cad c))) (tk : L2.Takes X Wx)
    (ha : PAv E X Wx (Ev.callD E.P k) (e :: es) cs) (hdb : (x == ("__debug__" : Str)) = false := by decide)
    (hst : starEach (e :: es) X.env = (false, eval e X.env) :: starEach es X.env := by rfl) (hpl : (backTo pos (starEach es X.env)).any (·.1) = false := by rfl)
    (ht : eval (.Call (.Attribute (.Name x p) y apos) (e :: es) [] pos) X.env = (do
      let ov ← eval (.Name x p) X.env
      standAt apos.atName
      let (f, first) ← holding [ov] (getMethod ov y pl)
      callWith pos f first (backTo pos (starEach (e :: es) X.env)) (backToKw pos (keywordEach [] X.env))) := by rfl) :
    PEv E X Wx (Ev.callD E.P k) (.Call (.Attribute (.Name x p) y apos) (e :: es) [] pos) (.cm c m cs) := ⟨fun pins s σ' H Q I t => by
  subst hy
  obtain ⟨D, e1, e2⟩ := hd
  obtain ⟨mc, q, r1, r2⟩ := cm.ex
  have t := TRs.first (m := Ev.evA E.P (Ev.callD E.P k) cs) (f := fun _ vs h => match E.P.clss[c]? with
    | some K => match Ev.lookN m K.cms with
      | some d => Ev.callD E.P k d (.p (.cl c) :: vs) h
      | none => .bad 38
    | none => .bad 38) t
  refine PySem.W.methodCall_KW (pl := pl) (L2.ld_glob I hg hm ?_ hdb) ht
  refine ClX.getmethcm_ok I r1 r2 fun s2 I2 => ?_
  refine ClX.callwith_cm I2 (ClX.base_none I (Nat.le_refl _)) r2.fi (L2.thn (ha.run pos _ s2 σ' H _ I2 t) fun us s3 ⟨vs, H2, I3, rv, W, σ, h, as, eH, rs, rh, rvs, g⟩ => ⟨⟨ClX.pin_at I3, I3.kIn⟩, ?_⟩) hst hpl
  subst eH
  simp only [e1, e2] at g
  obtain ⟨fd, ps, F1, b⟩ := (F d).ex
  exact run_cmS F1 hr b (L2.passAt tk σ') I3 rv (sp_ofA (as := .p (.cl c) :: as) (vs := .ref (E.cad c) :: vs) pp rh ⟨.ref (E.cad c), vs, rfl, rfl, rvs⟩ g)⟩
/-! ### a call of a local name's value -/
theorem te_callv {i : Nat} {x : Str} {e : Expr} {es : List Expr} {cs : Ev.CE} {p pos : Pos} (F : ∀ d, FnK E X.prog X.w X.K X.mg X.base k d) (pp : PlainP E.P) (M : ∀ c, MkK E X.K c) (hk : ∀ c, PySem.W.keepIn X.K (.ref (E.cad c)) = true) (hr : Room (4 * k + 1) X.A) (tk : L2.Takes X Wx)
    (hv : PEv E X Wx (Ev.callD E.P k) (.Name x p) (.var i)) (ha : PAv E X Wx (Ev.callD E.P k) (e :: es) cs) (he : starEach (e :: es) X.env = (false, eval e X.env) :: starEach es X.env := by rfl) (hpl : (backTo pos (starEach es X.env)).any (·.1) = false := by rfl) :
    PEv E X Wx (Ev.callD E.P k) (.Call (.Name x p) (e :: es) [] pos) (.callv (.var i) cs) := ⟨fun pins s σ' H Q I t => by
  have t := TR.first (m := Ev.evE E.P (Ev.callD E.P k) (.var i)) (f := fun σ g h => match g with
    | .p (.fn d) => (Ev.evA E.P (Ev.callD E.P k) cs σ h).bind fun vs h => Ev.callD E.P k d vs h
    | .p (.cl c) => (Ev.evA E.P (Ev.callD E.P k) cs σ h).bind fun vs h => Ev.make E.P (Ev.callD E.P k) c vs h
    | _ => .bad 36) t
  refine wpAny_Call_Name_kw (L2.thn (hv.run pins s σ' H _ I t) fun u s1 ⟨v, H1, I1, rx, W, σ, h, gv, eH, rs, rh, rg, g⟩ => ?_)
  subst eH
  cases gv with
  | r j => exact g.elim
  | p gv =>
    cases gv with
    | fn d =>
      cases rg
      cases rx
      have g : Go E W h ((Ev.evA E.P (Ev.callD E.P k) cs σ h).bind fun vs h => Ev.callD E.P k d vs h) (KV E Q) (KX E Wx σ') := g
      obtain ⟨fd, ps, F1, b⟩ := (F d).ex
      refine PySem.W.callWith_K (h₀ := X.base) I1.ok.mod.kin (F d).kp (L2.thn (ha.run pos pins s1 σ' W.H (fun vs H2 => spEv E k d vs H2 Q (L2.WE Wx σ')) I1 ⟨W, σ, h, rfl, rs, rh, (Go.bind g).imp fun vs W2 h2 a2 g2 xs rxs => sp_ofA pp a2.rel rxs g2⟩) fun us s2 ⟨vs, H2, I2, r, q⟩ => ⟨I2.kIn, ?_⟩) he hpl
      exact L2.run_fnSD (us := us) (vs := vs) (dvs := []) F1 (hr.mono (Nat.le_succ _)) b .nil (L2.passAt tk σ') I2 r (by rw [List.append_nil]; exact q)
    | cl c =>
      cases rg
      cases rx
      have g : Go E W h ((Ev.evA E.P (Ev.callD E.P k) cs σ h).bind fun vs h => Ev.make E.P (Ev.callD E.P k) c vs h) (KV E Q) (KX E Wx σ') := g
      have t2 := TRs.first (H := W.H) (σ' := σ') (m := Ev.evA E.P (Ev.callD E.P k) cs) (f := fun _ vs h => Ev.make E.P (Ev.callD E.P k) c vs h) ⟨W, σ, h, rfl, rs, rh, g⟩
      refine PySem.W.callWith_K (h₀ := X.base) I1.ok.mod.kin (hk c) (L2.thn (ha.run pos pins s1 σ' W.H _ I1 t2) fun us s2 ⟨vs, H2, I2, r, W2, σ2, h2, as, eH, rs2, rh2, rv2, g2⟩ => ⟨I2.kIn, ?_⟩) he hpl
      subst eH
      obtain ⟨C, rfl, _, run⟩ := new_run (us := us) (pins := pins) (s := s2) F pp (M c) hr tk rh2 rv2 g2
      exact run us s2 I2 r
    | _ => exact g.elim⟩
end
end Sb
set_option Elab.async false
set_option linter.all false
set_option autoImplicit false
set_option maxRecDepth 100000
set_option maxHeartbeats 4000000
/-! # Tf: several except clauses, with and without a name -/
namespace SbT
open PySem PySem.Spec PyProof.Rows
open L2
def endsA (D : L2.Ends) : Option Nat → L2.Ends
  | none => D
  | some i => { nx := fun σ' H' => D.nx (σ'.set i none) H', rt := D.rt, bk := fun σ' H' => D.bk (σ'.set i none) H', ct := fun σ' H' => D.ct (σ'.set i none) H' }
def setA (σ : L2.St) : Option Nat → Addr → L2.St
  | none, _ => σ
  | some i, a => σ.set i (some (.ref a))
abbrev HdL := List (Value × Option Nat × (Addr → Value → Option Addr → TS))
/-- what the clauses wish of an exception of the body, one after the other -/
def wManyA (K : PySem.W.Frag) (Wout : WX) (D : L2.Ends) : HdL → WX
  | [] => Wout
  | (c, o, ts) :: r => fun cls d σ H => ∃ b, PySem.W.exmOne K cls c = some b ∧ (b = true → ∀ a, H a = none → (∀ i, o = some i → i < σ.length) → ts a cls d (endsA D o) (setA σ o a) H) ∧ (b = false → wManyA K Wout D r cls d σ H)
inductive HdsA (X : Cx) : List ExceptHandler → HdL → Prop
  | nil : HdsA X [] []
  | cons {x : Str} {c : Value} {ts : Addr → Value → Option Addr → TS} {b₀ : Stmt} {suite : List Stmt} {np pos' : Pos} {hds : List ExceptHandler} {l : HdL} (hc : Names X x c)
      (hsu : ∀ (a : Addr) (oe : Obj) (cls : Value) (d : Option Addr) (pn : List (Addr × Obj)), Zc cls d oe → (∃ vs, oe.data = .fields vs) → PSs (X.suite a ((a, oe) :: pn)) (b₀ :: suite) (ts a cls d)) (r : HdsA X hds l) :
      HdsA X (.ExceptHandler (some (.Name x np)) none (b₀ :: suite) pos' :: hds) ((c, none, ts) :: l)
  | consAs {x n : Str} {i : Nat} {c : Value} {ts : Addr → Value → Option Addr → TS} {b₀ : Stmt} {suite : List Stmt} {np pos' : Pos} {hds : List ExceptHandler} {l : HdL} (hc : Names X x c) (hi : X.N[i]? = some n) (hln : X.env.kindOf n = some .local)
      (hsu : ∀ (a : Addr) (oe : Obj) (cls : Value) (d : Option Addr) (pn : List (Addr × Obj)), Zc cls d oe → (∃ vs, oe.data = .fields vs) → PSs (X.suite a ((a, oe) :: pn)) (b₀ :: suite) (ts a cls d)) (r : HdsA X hds l) :
      HdsA X (.ExceptHandler (some (.Name x np)) (some n) (b₀ :: suite) pos' :: hds) ((c, some i, ts) :: l)
section
variable {X : Cx} {body : List Stmt} {h₀ : ExceptHandler} {hds : List ExceptHandler} {l : HdL} {pos : Pos} {tb : WX → TS} {Wout : WX}
theorem ps_try_manyA (hs : X.stack = X.env :: X.outer) (hf : X.env.frame = some X.env.locals) (hN : X.N.Nodup) (tk : Takes X Wout)
    (hb : ∀ (W : WX) (pn : List (Addr × Obj)) (xe : Value → Shared → Prop), Takes (X.tr pn xe) W → PassesOwn (model X.prog X.w) X.A X.env xe → PSs (X.tr pn xe) body (tb W))
    (hh : HdsA X (h₀ :: hds) l) : PS X (.Try body (h₀ :: hds) [] [] pos) (fun D σ H => tb (wManyA X.K Wout D l) D σ H) := by
  refine ⟨fun pins s σ H D I h => ?_⟩
  have ok := I.ok
  have hfr : X.A.frames = some (X.env :: X.outer) := by rw [ok.frames, hs]
  refine wpAny_Try_except ?_
  refine wpAny_mono ((hb (wManyA X.K Wout D l) (X.pn ++ pins) (fun e s₁ => wpAny (model X.prog X.w) X.A (noteFrame e X.env) (fun _ s₂ => wpAny (model X.prog X.w) X.A (setFlight e none) (fun _ s₃ =>
    wpAny (model X.prog X.w) X.A (handleBy e X.env (h₀ :: hds)) (SP X pins D) X.xe s₃) X.xe s₂) X.xe s₁) (fun u s' xx => ?_) PassesOwn.looking).run [] s σ H D (I.toTry _) h) (fun f s1 hsp => ?_) (fun e s1 he => he)
  · -- the catch
    obtain ⟨a, B, sI, pins', σ', H', cls, d, rfl, J', nb, up, sky, na, os, ag, w⟩ := xx
    have J : Inv X pins σ' H' sI := J'.ofTry ok
    have sky' : Sky B (X.env :: X.outer) a (Zc cls d) X.env.locals s'.heap := by rw [← hs]; exact sky
    show wpAny (model X.prog X.w) X.A (noteFrame (.ref a) X.env) _ _ _
    refine Sky.land Zc.steady hfr hf sky' fun h3 fl3 up3 => ?_
    have J3 : Inv X pins σ' H' { s' with heap := h3 } := J.landed nb fl3.1 (up.trans up3) os ag
    obtain ⟨oe3, vs3, he3, hz3, hd3⟩ := fl3.there
    have notFr : ∀ {h : Heap} {o : Obj} {vs : Array Value}, h.FunFrames B (X.env :: X.outer) → h.get? a = some o → o.data = .fields vs → a ∉ frs (X.env :: X.outer) := fun {h o vs} ff e dd hm => by
      obtain ⟨_, o', e', hnf⟩ := ff.mem hm
      rw [e] at e'; cases e'
      exact hnf _ dd
    have nfr := notFr fl3.2.2.1 he3 hd3
    have nL : a ≠ X.env.locals := fun z => nfr (List.mem_filterMap.mpr ⟨X.env, List.mem_cons_self, by rw [hf, z]⟩)
    have nF : a ∉ X.fs := fun hm => by
      obtain ⟨e, he, q⟩ := List.mem_filterMap.mp hm
      exact nfr (List.mem_filterMap.mpr ⟨e, List.mem_cons_of_mem _ he, q⟩)
    have S3 := J3.suite he3 hd3 na nL nF
    have LT : PySem.W.Looks (model X.prog X.w) h3 (typeOf (.ref a)) cls := fun A Q E s k q => wpAny_typeOf_ref (k _ _ he3) (by rw [hz3.1]; exact q)
    have test : ∀ {x : Str} {np : Pos} {c : Value} {Q : Value → Shared → Prop} {E : Value → Shared → Prop}, Names X x c → Q c { s' with heap := h3 } → wpAny (model X.prog X.w) (X.A.mark (some (.ref a))) (eval (.Name x np) X.env) Q E { s' with heap := h3 } := fun {x np c Q E} hc q => by
      obtain ⟨hg, hdbg, hm | ⟨hm, hv, hnn⟩⟩ := hc
      · exact ld_glob (X := X.suite a ((a, oe3) :: (X.pn ++ pins))) S3 hg hm q hdbg
      · exact ld_blt (X := X.suite a ((a, oe3) :: (X.pn ++ pins))) S3 hg hm hv q hnn hdbg
    have go : ∀ {hds' : List ExceptHandler} {l' : HdL}, HdsA X hds' l' → wManyA X.K Wout D l' cls d σ' H' →
        wpAny (model X.prog X.w) X.A (handleBy (.ref a) X.env hds') (SP X pins D) X.xe { s' with heap := h3 } := by
      intro hds' l' hk
      induction hk with
      | nil =>
        intro w
        refine wpAny_handleBy_nil ?_
        obtain ⟨k1, k2, k3, oe, vs, T, oT, ts', he, hz, hd, h1, hr⟩ := id fl3
        unfold PySem.passOn
        refine wpAny_bind (wpAny_field he hd h1 ?_)
        rw [if_neg (show ¬ ((Value.ref T == Value.none) = true) from by simp)]
        have fin : wpAny (model X.prog X.w) X.A (setFlight (.ref a) X.env.frame) (fun _ s4 => wpAny (model X.prog X.w) X.A (throw (.ref a) : Sem Flow) (SP X pins D) X.xe s4) X.xe { s' with heap := h3 } := by
          rw [hf]
          refine HandSPX.setFlight_upZ fl3 fun h4 hh4 up4 => wpAny_throw (tk _ _ ?_)
          exact ⟨a, B, sI, pins, σ', H', cls, d, rfl, J, nb, (up.trans up3).trans up4, .inr (.inr (by rw [hs]; exact hh4)), na, os, ag, w⟩
        first
          | exact wpAny_bind (wpAny_pure (wpAny_bind fin))
          | exact wpAny_bind fin
      | @cons x c ts b₀ suite np pos' hds2 l2 hc hsu r ih =>
        intro w
        obtain ⟨b, hb1, hyes, hno⟩ := w
        refine wpAny_handleBy_cons (codeAny_handlers_test ?_) (by intro q; cases q)
        have LM := PySem.W.exm_one (M := model X.prog X.w) (J3.kIn) LT hb1
        refine test hc (LM.here ?_)
        cases b with
        | true =>
          refine codeAny_handlers_suite ?_
          refine HandSPX.lands_againZ fl3 fun h4 fl4 up4 => ?_
          have J4 : Inv X pins σ' H' { s' with heap := h4 } := J.landed nb fl4.1 ((up.trans up3).trans up4) os ag
          obtain ⟨oe4, vs4, he4, hz4, hd4⟩ := fl4.there
          have S4 := J4.suite he4 hd4 na nL nF
          refine wpAny_mono ((hsu a oe4 cls d (X.pn ++ pins) hz4 ⟨_, hd4⟩).run [] _ _ H' _ S4 (hyes rfl a na fun i z => nomatch z)) (fun f s6 hsp => ?_) (fun _ _ z => False.elim z)
          cases f with
          | next =>
            obtain ⟨σ6, H6, S6, q6⟩ := hsp
            exact ⟨_, _, S6.unsuite ok, q6⟩
          | brk =>
            obtain ⟨σ6, H6, S6, q6⟩ := hsp
            exact ⟨_, _, S6.unsuite ok, q6⟩
          | cont =>
            obtain ⟨σ6, H6, S6, q6⟩ := hsp
            exact ⟨_, _, S6.unsuite ok, q6⟩
          | ret u =>
            obtain ⟨v6, σ6, H6, S6, r6, q6⟩ := hsp
            exact ⟨_, _, _, S6.unsuite ok, r6, q6⟩
        | false =>
          show wpAny _ X.A (handleBy (.ref a) X.env hds2) _ _ _
          exact ih (hno rfl)
      | @consAs x n i c ts b₀ suite np pos' hds2 l2 hc hi hln hsu r ih =>
        intro w
        obtain ⟨b, hb1, hyes, hno⟩ := w
        have hloc : Loc X.env.scope n := .inl hln
        refine wpAny_handleBy_cons (codeAny_handlers_test ?_) (by intro q; cases q)
        have LM := PySem.W.exm_one (M := model X.prog X.w) (J3.kIn) LT hb1
        refine test hc (LM.here ?_)
        cases b with
        | true =>
          refine codeAny_handlers_suite_as ?_
          refine HandSPX.lands_againZ fl3 fun h4 fl4 up4 => ?_
          have J4 : Inv X pins σ' H' { s' with heap := h4 } := J.landed nb fl4.1 ((up.trans up3).trans up4) os ag
          obtain ⟨oe4, vs4, he4, hz4, hd4⟩ := fl4.there
          have S4 := J4.suite he4 hd4 na nL nF
          refine store_ok (X := X.suite a ((a, oe4) :: (X.pn ++ pins))) (v := .ref a) S4 hN hi hloc rfl (fun s5 S5 => ?_) (.inr hln)
          refine wpAny_mono ((hsu a oe4 cls d (X.pn ++ pins) hz4 ⟨_, hd4⟩).run [] s5 _ H' _ S5 (hyes rfl a na fun j z => by
        cases z
        rw [J.len]
        exact (List.getElem?_eq_some_iff.mp hi).1)) (fun f s6 hsp => ?_) (fun _ _ z => False.elim z)
          have end_ : ∀ {σ6 : L2.St} {H6 : Hp} {Q : Shared → Prop}, Inv (X.suite a ((a, oe4) :: (X.pn ++ pins))) [] σ6 H6 s6 → (∀ s7, Inv X pins (σ6.set i none) H6 s7 → Q s7) →
              wpAny (model X.prog X.w) X.A (do bindName X.env n .none; unbindBehindTheSuite X.env n pos') (fun _ s7 => Q s7) X.xe s6 := fun {σ6 H6 Q} S6 hq => gone_ok (S6.unsuite ok) hN hi hln hq
          cases f with
          | next =>
            obtain ⟨σ6, H6, S6, q6⟩ := hsp
            exact end_ S6 fun s7 J7 => ⟨_, _, J7, q6⟩
          | brk =>
            obtain ⟨σ6, H6, S6, q6⟩ := hsp
            exact end_ S6 fun s7 J7 => ⟨_, _, J7, q6⟩
          | cont =>
            obtain ⟨σ6, H6, S6, q6⟩ := hsp
            exact end_ S6 fun s7 J7 => ⟨_, _, J7, q6⟩
          | ret u =>
            obtain ⟨v6, σ6, H6, S6, r6, q6⟩ := hsp
            exact end_ S6 fun s7 J7 => ⟨_, _, _, J7, r6, q6⟩
        | false =>
          show wpAny _ X.A (handleBy (.ref a) X.env hds2) _ _ _
          exact ih (hno rfl)
    exact go hh w
  · cases f with
    | next =>
      obtain ⟨σ', H', J', q⟩ := hsp
      exact wpAny_execs_nil ⟨σ', H', J'.ofTry ok, q⟩
    | brk =>
      obtain ⟨σ', H', J', q⟩ := hsp
      exact ⟨σ', H', J'.ofTry ok, q⟩
    | cont =>
      obtain ⟨σ', H', J', q⟩ := hsp
      exact ⟨σ', H', J'.ofTry ok, q⟩
    | ret u =>
      obtain ⟨v, σ', H', J', r, q⟩ := hsp
      exact ⟨v, σ', H', J'.ofTry ok, r, q⟩
end
end SbT
set_option Elab.async false
set_option linter.all false
set_option autoImplicit false
set_option maxRecDepth 100000
set_option maxHeartbeats 4000000
/-! # Tg: a lambda without parameters handed to a def: what is left of the heap -/
namespace SbT
open PySem PySem.Spec PyProof.Rows L2 LamX
/-- all but what stands at P stays, and P's stays something -/
structure ExtP (P : Addr) (H H' : Hp) : Prop where
  keep : ∀ b o, H b = some o → b ≠ P → H' b = some o
  at_ : ∀ o, H P = some o → ∃ o', H' P = some o'
theorem ExtP.refl (P : Addr) (H : Hp) : ExtP P H H := ⟨fun _ _ h _ => h, fun o h => ⟨o, h⟩⟩
section
variable {X : Cx} {pins : List (Addr × Obj)} {σ : L2.St} {H : Hp} {s : Shared}
theorem lam_made {T : List (Addr × Str)} {c P : Addr} {params : Arguments} {body : Expr} {scope : Scope} {pos : Pos} {E : Value → Shared → Prop} {Q : Value → Shared → Prop} (I : Inv X pins σ H s) (TB : TabB X.base X.mg c P) (hcode : X.env.code = .ref c)
    (hm : (P, X.env.qual ++ "<lambda>") ∈ T) (hu : ∀ p ∈ T, p.1 = P → p.2 = X.env.qual ++ "<lambda>") (hT : Tabs T H) (hdef : defaultsOf params X.env = ([], [])) (hfree : ∀ y ∈ scope.names, y.2 = .free → ∃ c, X.env.cells.lookup y.1 = some c)
    (go : ∀ (f c' : Addr) (pm ctv : Value) (H1 : Hp) (s' : Shared), Inv X pins σ H1 s' → ExtP P H H1 → Tabs T H1 →
      s'.heap.get? f = some (PySem.W.kla_obj "<lambda>" (X.env.qual ++ "<lambda>") params body scope (cloFrom X.env.cells scope.names []) pm c' ctv) → H1 f = none → f ∉ frs X.stack → H1 c' = some (CodeO c' (X.env.qual ++ "<lambda>")) → Q (.ref f) s') :
    wpAny (model X.prog X.w) X.A (eval (.Lambda params body scope pos) X.env) Q E s := by
  obtain ⟨ps, hP, ht, ha⟩ := hT _ hm
  have bP := TB.bm.keeps I.bk
  have hP' := I.hok P _ hP
  have off : ∀ f, s.heap.objs.size ≤ f → f ∉ frs X.stack := fun f hf z => (List.mem_cons.mp (I.stkSub _ z)).elim (fun e => absurd (e ▸ I.lt : f < s.heap.objs.size) (Nat.not_lt.mpr hf)) (I.nofs hf)
  refine PySem.W.kla_eval hdef ?_
  cases hc : codeAmong pos ps.toList with
  | some cv =>
    obtain ⟨c', rfl, hco⟩ := ha pos cv hc
    refine PySem.W.kla_makeFunctionHit (mg := X.mg) (c := c) (P := P) (ps := ps) (closure_ok hfree) I.ok.glob (I.mod.glob.keeps I.bk) hcode (TB.code.keeps I.bk) hP' ht hc bP fun ctv h' tk hx hsz => ?_
    exact go _ c' _ ctv H _ (I.kept (t' := tk) fun b o e => Heap.get?_push_of_some _ (hx b o e)) (ExtP.refl P H) hT (Heap.get?_push_size _ rfl) (I.hok.fresh hsz) (off _ hsz) hco
  | none =>
    refine PySem.W.kla_makeFunction (mg := X.mg) (c := c) (P := P) (ps := ps) (closure_ok hfree) I.ok.glob (I.mod.glob.keeps I.bk) hcode (TB.code.keeps I.bk) hP' ht hc TB.gP bP fun c' ctv h' tk hx hge hlt ⟨c2, oc, vs, t, e2, hoc, hd, hv⟩ htb => ?_
    cases e2
    have nC : H c' = none := I.hok.fresh hge
    have hsz : s.heap.objs.size ≤ h'.objs.size := Nat.le_trans hge (Nat.le_of_lt hlt)
    have I1 := inv_table (t' := tk) (more := #[rawInt pos.line, rawInt pos.col, .ref c']) (h' := h'.push (PySem.W.kla_obj "<lambda>" (X.env.qual ++ "<lambda>") params body scope (cloFrom X.env.cells scope.names []) ((X.mg "__name__").getD .none) c' ctv)) I hP
      (fun b o hb e => Heap.get?_push_of_some _ (hx b o hb e)) (Heap.get?_push_of_some _ htb) hge ⟨oc, vs, t, Heap.get?_push_of_some _ hoc, hd, hv⟩
    have x : ExtP P H (upd (upd H P (.tbl (ps ++ #[rawInt pos.line, rawInt pos.col, .ref c']))) c' (CodeO c' (X.env.qual ++ "<lambda>"))) := ⟨fun b o e n => by rw [upd_ne (ne_of_none e nC), upd_ne n, e], fun _ _ => ⟨_, by rw [upd_ne (ne_of_none hP nC), upd_same]⟩⟩
    have xc : ∀ {c0 q}, H c0 = some (CodeO c0 q) → upd (upd H P (.tbl (ps ++ #[rawInt pos.line, rawInt pos.col, .ref c']))) c' (CodeO c' (X.env.qual ++ "<lambda>")) c0 = some (CodeO c0 q) := fun {c0 q} e => x.keep _ _ e fun z => codeO_ne ps (Option.some.inj ((z ▸ e).symm.trans hP))
    refine go h'.objs.size c' _ ctv _ _ I1 x (fun p hp => ?_) (Heap.get?_push_size _ rfl) ?_ (off _ hsz) upd_same
    · by_cases hb : p.1 = P
      · rw [hu p hp hb, hb]
        have eL : (ps ++ #[rawInt pos.line, rawInt pos.col, .ref c']).toList = ps.toList ++ [rawInt pos.line, rawInt pos.col, .ref c'] := by simp
        refine ⟨_, by rw [upd_ne (ne_of_none hP nC), upd_same], by rw [eL]; exact PySem.TriplesOk_snoc _ _ _ _ ht, fun p' cv hcv => ?_⟩
        rw [eL] at hcv
        rcases among_app _ ht hcv with z | z
        · obtain ⟨c0, e1, e2⟩ := ha p' cv z
          exact ⟨c0, e1, xc e2⟩
        · exact ⟨c', z, upd_same⟩
      · obtain ⟨ps', a1, a2, a3⟩ := hT p hp
        exact ⟨ps', x.keep _ _ a1 hb, a2, fun p' cv hcv => (a3 p' cv hcv).imp fun c0 z => ⟨z.1, xc z.2⟩⟩
    · rw [upd_ne (Nat.ne_of_gt hlt), upd_ne (Nat.ne_of_gt (Nat.lt_of_lt_of_le (Heap.lt_size hP') hsz))]
      exact I.hok.fresh hsz
end
/-- the reading of x(lambda: ..) -/
def tLamP (T : List (Addr × Str)) (P : Addr) (TT : (XK → Hp → VK → Prop) → Hp → VK → Prop) (t : XK → TE) : TE := fun σ H Q => Tabs T H ∧ ∀ H1, ExtP P H H1 → Tabs T H1 → TT (fun E H' Q' => t E σ H' Q') H1 Q
section
variable {X : Cx}
theorem pe_lamP {T : List (Addr × Str)} {TT : (XK → Hp → VK → Prop) → Hp → VK → Prop} {x a : Str} {g c P : Addr} {k : Nat} {pg : Arguments} {bg : List Stmt} {sg : Scope} {dV kV doc pm cdv ct oc : Value} {an od : Option Addr} {osl : Array (Option Value)} {Ng : List Str}
    {params : Arguments} {body : Expr} {scope : Scope} {t : XK → TE} {p lpos pos : Pos} (hg : Gl X x) (hm : X.mg x = some (.ref g)) (hk : PySem.W.keepIn X.K (.ref g) = true)
    (lk : X.K.lookup g = some ⟨oc, od, .func (PySem.W.fnOf x x pg bg sg dV kV doc pm an cdv ct), osl⟩) (hcg : PySem.W.codeIn X.K cdv x = true) (hb : L2.Binds X.K (PySem.W.fnOf x x pg bg sg dV kV doc pm an cdv ct) [a] []) (Sg : FnScope Ng [a] sg) (hNg : Ng[0]? = some a) (hva : Vis sg a)
    (hG : GivesTo X Ng x sg g cdv bg a (X.env.qual ++ "<lambda>") TT)
    (TB : TabB X.base X.mg c P) (hcode : X.env.code = .ref c) (hmT : (P, X.env.qual ++ "<lambda>") ∈ T) (hu : ∀ p ∈ T, p.1 = P → p.2 = X.env.qual ++ "<lambda>") (hr : Room (k + 2) X.A) (L : LamS X.env.scope scope) (hdef : defaultsOf params X.env = ([], []))
    (hbind : ∀ (q : Str) (cl : List (Str × Addr)) (pm cv ctv : Value), bindArgs (PySem.W.kla_fn "<lambda>" q params body scope cl pm cv ctv) ⟨[], []⟩ = pure [])
    (hbody : ∀ (A : Around) (outer : List Env) (s : Shared) (H : Hp) (E : XK) (f c' : Addr), Room k (A.deeper (lamEnv X scope s.heap.objs.size f c')) → PE (lamCx X A outer s H E scope f c') body (t E))
    (hdb : (x == ("__debug__" : Str)) = false := by decide) (hd : (a == ("__debug__" : Str)) = false := by decide) (hcd : (a == ("__classdict__" : Str)) = false := by decide) :
    PE X (.Call (.Name x p) [.Lambda params body scope lpos] [] pos) (tLamP T P TT t) := by
  refine ⟨fun pins s σ H Q I ⟨hT, h⟩ => wpAny_Call_Name_kw (ld_glob I hg hm (PySem.W.callWith_K (h₀ := X.base) I.ok.mod.kin hk ?_ (by rfl) (by rfl)) hdb)⟩
  refine Calls.spliced_cons (rest := backTo pos (starEach [] X.env)) (lam_made I TB hcode hmT hu hT hdef (L.has I.ok) fun f c' pm' ctv H1 s' I1 eN T1 hf hfn hfr hco => Calls.spliced_nil ⟨I1.kIn, ?_⟩)
  have run : codeAny (model X.prog X.w) X.A (.call (.ref g) ⟨[.ref f], []⟩) (CR C8.CX0 X.stack X.prog X.w H1 s' Q C8.E0) s' := by
    refine run_ofS (N := Ng) (ps := [a]) (us := [.ref f]) (vs := [.ref f]) lk hcg Sg hr I1.env0 (hb s' [.ref f] I1.kIn rfl) (.cons rfl .nil) rfl fun hr' => ?_
    obtain ⟨t', k1, k2⟩ := hG f c' s' H1 Q (fun E H' Q' => t E σ H' Q') (fun W pn xe E p1 p2 tk hW => pe_act (i := 0) I1 L hf hfn hfr (hbind _ _ _ _ _) tk hW hr' (fun A outer s H hr2 => hbody A outer s H E f c' hr2) hNg hva hd hcd) hco (h H1 eN T1)
    exact ⟨t', k1.nox, k2⟩
  refine wpAny_call (codeAny_mono run fun r s2 hq => ?_)
  cases r with
  | error e => exact (show False from hq).elim
  | ok fl => cases fl with
    | ret u => exact I1.after hq
    | _ => exact False.elim hq
end
end SbT
set_option Elab.async false
set_option linter.all false
set_option autoImplicit false
set_option maxRecDepth 100000
set_option maxHeartbeats 4000000
/-! # Tv: enumerate, zip of frozen lists and tuples -/
namespace Sb
open PySem PySem.Spec
open PyProof.Rows hiding St
open L2 (V Hp HO upd upd_same upd_ne VK TE TT TA TS TI Ends WX XK PE PT PA PS PSs PI It Turn FpOk Inv RelV Vals ObjOk)
open Ev (PV Val MO Hh Sg Exc Res SR)
/-- a list, a tuple -/
inductive SrcK where | l | t
def SrcK.ho : SrcK → List V → HO
  | .l, xs => .lst xs
  | .t, xs => .tup xs
def SrcK.isIt : SrcK → Heap → Addr → Addr → Nat → Prop
  | .l, h, it, a, i => h.IsListIter it a i
  | .t, h, it, a, i => h.IsTupleIter it a i
def SrcK.isSq : SrcK → Heap → Addr → Array Value → Prop
  | .l, h, a, xs => h.IsList a xs
  | .t, h, a, xs => h.IsTuple a xs
def SrcK.io : SrcK → Addr → Obj
  | .l, a => { cls := .type "list_iterator", data := .fields #[.ref a, .int 0 0] }
  | .t, a => { cls := .type "tuple_iterator", data := .fields #[.ref a, .int 0 0] }
theorem SrcK.begins (k : SrcK) (a : Addr) (xs : Array Value) : Begins (.ref a) (k.io a) fun h => k.isSq h a xs := match k with
  | .l => begins_list a xs
  | .t => begins_tuple a xs
theorem SrcK.draws (k : SrcK) {prog : Program} {w : World} {A : Around} (hh : A.handled = none) (it a : Addr) (hne : a ≠ it) (xs : Array Value) : Draws prog w A it [it, a] xs.size (fun i v => xs[i]? = some v) (fun i h => k.isIt h it a i ∧ k.isSq h a xs) := match k with
  | .l => Draws.list hh it a hne xs
  | .t => Draws.tuple hh it a hne xs
theorem SrcK.at_ (k : SrcK) {h h' : Heap} {a : Addr} {xs : Array Value} (z : k.isSq h a xs) (e : ∀ o, h.get? a = some o → h'.get? a = some o) : k.isSq h' a xs := match k, z with
  | .l, z => z.at fun o q => e o q
  | .t, z => z.at fun o q => e o q
theorem SrcK.itAt (k : SrcK) {h h' : Heap} {it a : Addr} {i : Nat} (z : k.isIt h it a i) (e : ∀ o, h.get? it = some o → h'.get? it = some o) : k.isIt h' it a i := match k, z with
  | .l, z => z.at fun o q => e o q
  | .t, z => z.at fun o q => e o q
theorem SrcK.itObj (k : SrcK) {h : Heap} {it a : Addr} {i : Nat} (z : k.isIt h it a i) : ∃ o, h.get? it = some o ∧ ∀ v, o.data ≠ .cell v := match k, z with
  | .l, ⟨o, e, _, d⟩ => ⟨o, e, fun v q => by rw [d] at q; cases q⟩
  | .t, ⟨o, e, _, d⟩ => ⟨o, e, fun v q => by rw [d] at q; cases q⟩
theorem SrcK.it0 (k : SrcK) {h : Heap} {it a : Addr} (e : h.get? it = some (k.io a)) : k.isIt h it a 0 := match k, e with
  | .l, e => ⟨_, e, rfl, rfl⟩
  | .t, e => ⟨_, e, rfl, rfl⟩
theorem SrcK.there (k : SrcK) {h : Heap} {a : Addr} {xs : Array Value} (z : k.isSq h a xs) : ∃ o, h.get? a = some o := match k, z with
  | .l, ⟨o, e, _⟩ => ⟨o, e⟩
  | .t, ⟨o, e, _⟩ => ⟨o, e⟩
section
variable {E : En} {X : L2.Cx} {pins : List (Addr × Obj)} {σ : L2.St} {H : Hp} {s : Shared}
theorem SrcK.seq (k : SrcK) (I : Inv X pins σ H s) {a : Addr} {xs : List V} (h : H a = some (k.ho xs)) : ∃ its : List Value, Vals xs its ∧ k.isSq s.heap a its.toArray ∧ xs.length ≤ sizeLine := by
  cases k with
  | l =>
    obtain ⟨its, rv, p, hz⟩ := I.list (L2.SqL.of h)
    exact ⟨its, rv, p.isList, hz⟩
  | t =>
    obtain ⟨its, rv, p, hz⟩ := I.tuple (L2.SqT.of h)
    exact ⟨its, rv, p, hz⟩
end
/-! ### from a walk with tuples to a turn -/
def ItW (G : Hp → Prop) (n : Nat) (Y : Nat → List V → Prop) : It :=
  ⟨fun i H => G H ∧ i < n, fun i H x H' => ∃ T vs, x = .ref T ∧ H T = none ∧ H' = upd H T (.tup vs) ∧ Y i vs, fun i H => G H ∧ n ≤ i⟩
theorem turn_W {P : Program} {w : World} {K : PySem.W.Frag} {elts : List Expr} {kk : Nat} {tpos : Pos} {I0 : Addr} {fpT wr : List Addr} (hsub : ∀ b ∈ wr, b ∈ fpT) (hmem : I0 ∈ fpT) {G : Hp → Prop} {n : Nat} {Y : Nat → List V → Prop} {tn : Nat → Heap → Prop}
    (hobj : ∀ i h, tn i h → ∀ b ∈ fpT, ∃ o, h.get? b = some o ∧ ∀ v, o.data ≠ .cell v) (hkeep : ∀ i h h', tn i h → (∀ b ∈ fpT, ∀ o, h.get? b = some o → h'.get? b = some o) → tn i h') (hle : ∀ i h, tn i h → i ≤ n)
    (wk : ∀ (X : L2.Cx) (pins : List (Addr × Obj)) (σ : L2.St) (H : Hp) (s : Shared) (i : Nat), X.prog = P → X.w = w → X.K = K → X.calm = true → Inv X pins σ H s → G H → tn i s.heap →
      ∃ (fp : List Addr) (Pt : Nat → Array Value → Prop) (St : Nat → Heap → Prop) (Mid : Nat → Addr → Heap → Prop), WalksT P w X.A I0 fp wr n Pt St Mid ∧ St i s.heap ∧ (i < n → ∀ h, St (i + 1) h → tn (i + 1) h) ∧ ∀ vals, Pt i vals → ∃ vs, Y i vs ∧ vs.length ≤ sizeLine ∧ Vals vs vals.toList)
    (hself : ∀ (A : Around) (i : Nat) (s : Shared) (Q : Value → Shared → Prop) (Ex : Value → Shared → Prop), tn i s.heap → Q (.ref I0) s → wpAny (model P w) A (pyIter (.ref I0)) Q Ex s) : Turn P w K (.Tuple elts kk tpos) (ItW G n Y) fpT I0 tn where
  mem := hmem
  obj := hobj
  keep := hkeep
  item := fun X hP hw hK hc i pins s σ H Ex I hf st hg => by
    obtain ⟨hG, hi⟩ := hg
    obtain ⟨fp, Pt, St, Mid, WT, s0, s1, hv⟩ := wk X pins σ H s i hP hw hK hc I hG st
    refine WT.item i s _ _ hi s0 fun T vals h' tk hP' hT hTup hMid hk => ⟨_, rfl, WT.go elts kk tpos i T { s with heap := h', toks := tk } _ _ hMid fun h2 st2 hk2 => ?_⟩
    obtain ⟨vs, hY, hz, rv⟩ := hv vals hP'
    have hT2 : h2.IsTuple T vals := hTup.at fun o q => hk2 T o (WT.apart i T h' hMid) q
    subst hP hw hK
    have new : ObjOk X.prog X.w (upd H T (.tup vs)) h2 T (.tup vs) := ⟨hz, vals.toList, rv, by rw [Array.toArray_toList]; exact hT2⟩
    have I1 := I.turnedNew (t' := tk) (ch := wr) (h' := h2) (fun b o hb q => hk2 b o hb (hk b o hb q)) (fun b hb => hf b (hsub b hb)) hT new
    refine ⟨.ref T, _, I1, rfl, ⟨T, vs, rfl, I.hok.fresh hT, rfl, hY⟩, s1 hi h2 st2, fun b hb => ?_⟩
    obtain ⟨o, e, _⟩ := hobj i s.heap st b hb
    rw [upd_ne (Nat.ne_of_lt (Nat.lt_of_lt_of_le (Heap.lt_size e) hT))]
    exact (hf b hb).1
  done := fun X hP hw hK hc i pins s σ H Ex I hf st hg => by
    obtain ⟨hG, hi⟩ := hg
    obtain ⟨fp, Pt, St, Mid, WT, s0, s1, hv⟩ := wk X pins σ H s i hP hw hK hc I hG st
    have : i = n := Nat.le_antisymm (hle i _ st) hi
    subst this
    subst hP hw hK
    refine WT.done s _ _ s0 fun h' tk hk => ⟨rfl, ?_⟩
    exact I.turnedL (t' := tk) (ch := wr) (fun b o hb q => hk b o hb q) (fun b hb => hf b (hsub b hb))
  self := fun A i s Q Ex st h => hself A i s Q Ex st h
/-! ### enumerate -/
theorem meets_enum1 {v : Value} {o : Obj} {H : Heap → Prop} (B : Begins v o H) :
    Meets (Builtin.«enumerate.__new__» ⟨[.type "enumerate", v], []⟩) (fun _ R s => H s.heap ∧
      R (.ok (.ret (.ref (s.heap.push o).objs.size))) { s with heap := (s.heap.push o).push { cls := .type "enumerate", data := .fields #[.none, .bool false, .ref s.heap.objs.size, rawInt 0, .none, .none] } }) :=
  .of_wp fun prog w A R s h => by
    obtain ⟨hp, g, d, tk, os⟩ := s
    obtain ⟨h1, h⟩ := h
    have hsub := sub_enumerate
    have q1 : ∀ {A' : Around} {E : Value → Shared → Prop} {Q : Value → Shared → Prop}, Q (.ref hp.objs.size) ⟨hp.push o, g, d, tk, os⟩ → wpAny (model prog w) A' (pyIter v) Q E ⟨hp, g, d, tk, os⟩ := fun q => B.iter prog w _ _ ⟨hp, g, d, tk, os⟩ _ h1 q
    wp_walk using q1
    refine wpAny_stack_any fun st => wpAny_pure ?_
    split
    · rename_i c _ _ _ _ _
      cases (c == Value.type "enumerate") <;> (wp_walk using q1; exact ⟨_, rfl, h⟩)
    · wp_walk using q1
      exact ⟨_, rfl, h⟩
theorem enum1_begins {prog : Program} {w : World} {A : Around} {Ex : Value → Shared → Prop} {s : Shared} {v : Value} {o : Obj} {H : Heap → Prop} {Q : Value → Shared → Prop} (B : Begins v o H) (h1 : H s.heap)
    (k : ∀ h', IsEnum h' (s.heap.objs.size + 1) s.heap.objs.size 0 .none → h'.get? s.heap.objs.size = some o → (∀ b o, s.heap.get? b = some o → h'.get? b = some o) → Q (.ref (s.heap.objs.size + 1)) { s with heap := h' }) :
    wpAny (model prog w) A (call (.type "enumerate") [v]) Q Ex s := by
  refine callType_new F.called_enumerate (by decide) (F.typeCall_enumerate_1 _) (F.newCall_enumerate_1 _) (fun obj => F.args_object_init_2 obj _) F.entry_enumerate_new (meets_enum1 B) ⟨h1, ?_⟩
  have hz : (s.heap.push o).objs.size = s.heap.objs.size + 1 := Heap.size_push ..
  show _ ∧ _
  rw [hz]
  have he := Heap.get?_push_size (s.heap.push o) (o := { cls := .type "enumerate", data := .fields #[.none, .bool false, .ref s.heap.objs.size, rawInt 0, .none, .none] }) rfl
  rw [hz] at he
  exact ⟨⟨_, he, rfl⟩, k _ he (Heap.get?_push_of_some _ (Heap.get?_push_size _ B.free)) fun b u x => Heap.get?_push_of_some _ (Heap.get?_push_of_some _ x)⟩
theorem turn_enumG {P : Program} {w : World} {K : PySem.W.Frag} {elts : List Expr} {kk : Nat} {tpos : Pos} (k : SrcK) {a e it : Addr} {xs : List V} : Turn P w K (.Tuple elts kk tpos) (ItW (fun H => H a = some (k.ho xs)) xs.length fun i vs => ∃ x, xs[i]? = some x ∧ vs = [.int (i : Nat), x]) [e, it] e
    (fun i h => i ≤ xs.length ∧ (∃ old, IsEnum h e it (0 + ((i : Nat) : Int)) old) ∧ k.isIt h it a i ∧ e ≠ it ∧ e ≠ a ∧ a ≠ it) :=
  turn_W (wr := [e, it]) (fun _ h => h) (by simp) (fun i h ⟨_, ⟨old, he⟩, hi, _⟩ b hb => by
      have : b = e ∨ b = it := by simpa using hb
      rcases this with rfl | rfl
      · exact ⟨_, he, fun v z => nomatch z⟩
      · exact k.itObj hi)
    (fun i h h' ⟨h0, ⟨old, he⟩, hi, hn⟩ kp => ⟨h0, ⟨old, kp e (by simp) _ he⟩, k.itAt hi fun o q => kp it (by simp) o q, hn⟩) (fun _ _ h => h.1)
    (fun X pins σ H s i hP hw hK hc I hG ⟨h0, he, hi, n1, n2, n3⟩ => by
      subst hP hw hK
      obtain ⟨its, rv, sq, hz⟩ := k.seq I hG
      have hl : its.toArray.size = xs.length := by rw [List.size_toArray, rv.length]
      have D := k.draws (prog := X.prog) (w := X.w) (A := X.A.in1) (I.ok.hd hc) it a n3 its.toArray
      have WT := WalksT.enumFrom 0 D e n1 (by simp [n1, n2]) (by simp)
      rw [hl] at WT
      refine ⟨_, _, _, _, WT, ⟨he, hi, sq⟩, fun hlt h st => ⟨hlt, st.1, st.2.1, n1, n2, n3⟩, fun vals ⟨t, x, hx, ev⟩ => ?_⟩
      obtain ⟨y, hy, ry⟩ := paired_pt (i := i) rv (by simpa using hx)
      subst ev
      exact ⟨[.int (i : Nat), y], ⟨y, hy, rfl⟩, by show 2 ≤ sizeLine; decide, .cons ⟨t, by rw [Int.zero_add]⟩ (.cons ry .nil)⟩)
    fun A i s Q Ex ⟨_, ⟨old, he⟩, _⟩ q => wpAny_pyIter_enum he q
section
variable {E : En} {X : L2.Cx} {Wx : WX} {C : Ev.Call} {σ' : L2.St} {H : Hp} {W : Wd} {h : Hh}
/-- a pure list, a pure tuple -/
theorem src_of {p : PV} {xs : List PV} {x : V} (hs : p = .lst xs ∨ p = .tup xs) (r : RelP E W p x) : ∃ (k : SrcK) (a : Addr) (ys : List V), x = .ref a ∧ W.F a ∧ W.H a = some (k.ho ys) ∧ RelPs E W xs ys := by
  rcases hs with rfl | rfl
  · obtain ⟨a, ys, e, f, q, rs⟩ := r
    exact ⟨.l, a, ys, e, f, q, rs⟩
  · obtain ⟨a, ys, e, f, q, rs⟩ := r
    exact ⟨.t, a, ys, e, f, q, rs⟩
theorem it_W {xs : List PV} {n : Nat} {G : Hp → Prop} {Y : Nat → List V → Prop} (hn : xs.length = n) (hG : ∀ W2, Ex W W2 → G W2.H) (hp : ∀ (W2 : Wd) (i : Nat) (p : PV), Ex W W2 → xs[i]? = some p → ∃ ps, p = .tup ps ∧ ∀ vs, Y i vs → RelPs E W2 ps vs) : ItOk E W h (.p (.lst xs)) (ItW G n Y) := by
  refine ⟨_, rfl, fun W0 sub W2 h2 a2 i => ⟨fun hl => ⟨hG W2 (sub.ex.trans a2.ex), by rw [← hn]; exact hl⟩, fun p hx => ?_⟩⟩
  obtain ⟨ps, rfl, k⟩ := hp W2 i p (sub.ex.trans a2.ex) hx
  exact ⟨⟨hG W2 (sub.ex.trans a2.ex), by rw [← hn]; exact (List.getElem?_eq_some_iff.mp hx).1⟩, fun v H' ⟨T, vs, ev, hT, eH, hY⟩ => ⟨W2.fz T (.tup vs), af_new a2.rel hT, eH.symm, by rw [ev]; exact new_tup a2.rel hT (k vs hY)⟩⟩
theorem enum_case : ∀ {ps : List PV} {r : PV}, Ev.bfun .enum ps = some r → ∃ p xs, ps = [p] ∧ (p = .lst xs ∨ p = .tup xs) ∧ r = .lst (Ev.enumP 0 xs)
  | [], _, e => by cases e
  | [p], _, e => by cases p <;> first | (cases e; exact ⟨_, _, rfl, .inl rfl, rfl⟩) | (cases e; exact ⟨_, _, rfl, .inr rfl, rfl⟩) | cases e
  | a :: b :: l, _, e => by cases a <;> cases e
theorem ti_enum {e : Expr} {ca : Ev.CE} {elts : List Expr} {kk : Nat} {p pos tpos : Pos} (ni : NoDun E.P (·.itr)) (hg : L2.Gl X "enumerate") (hm : X.mg "enumerate" = none) (ha : PAv E X Wx C [e] (.cons ca .nil)) (hs : starEach [e] X.env = [(false, eval e X.env)] := by rfl) :
    PI X (.Tuple elts kk tpos) (.Call (.Name "enumerate" p) [e] [] pos) (TRI E Wx (itE E C (.bf .enum (.cons ca .nil)))) := ⟨fun pins s σ' H R I t => by
  have t := tri_bfP (.inl rfl) (n := 1) rfl ni t
  refine PyProof.Rows.Call_ (L2.ld_blt I hg hm boot_enumerate (PyProof.Rows.callWith_type1 (L2.thn (ha.run pos pins s σ' H _ I t) fun us s1 ⟨vs, H1, I1, r1, W, h, ps, r, eH, rh, rv, hl, e2, k⟩ => ?_) hs rfl))
  subst eH
  obtain ⟨p, xs, rfl, hp, rfl⟩ := enum_case e2
  obtain ⟨y, t', rfl, ry, et⟩ := rv
  cases et
  obtain ⟨kd, a, ys, rfl, hf, hq, rs⟩ := src_of hp ry
  obtain ⟨u, rfl, ru⟩ := L2.vals1 r1
  cases ru
  obtain ⟨its, rvi, sq, hz⟩ := kd.seq I1 hq
  obtain ⟨oa, hoa⟩ := kd.there sq
  have la : a < s1.heap.objs.size := Heap.lt_size hoa
  refine enum1_begins (kd.begins a its.toArray) sq fun h' he hit hk => wpAny_pyIter_enum he ?_
  have I2 : Inv X pins σ' W.H { s1 with heap := h' } := I1.kept (t' := s1.toks) hk
  refine ⟨s1.heap.objs.size + 1, [s1.heap.objs.size + 1, s1.heap.objs.size], _, _, W.H, rfl, I2, turn_enumG kd (a := a) (xs := ys), ⟨Nat.zero_le _, ⟨.none, he⟩, kd.it0 hit, Nat.succ_ne_self _, Nat.ne_of_gt (Nat.lt_succ_of_lt la), Nat.ne_of_lt la⟩, fun b hb => ?_, k _ (it_W (by rw [enumP_len, rs.length]) (fun W2 x => (x.fro a hf).2.trans hq) fun W2 i p x hx => ?_)⟩
  · have hle : s1.heap.objs.size ≤ b := by
      have : b = s1.heap.objs.size + 1 ∨ b = s1.heap.objs.size := by simpa using hb
      rcases this with z | z
      · rw [z]; exact Nat.le_succ _
      · rw [z]; exact Nat.le_refl _
    exact I1.fpOk hle (I1.hok.fresh hle)
  · rw [enumP_get] at hx
    obtain ⟨q, hq', rfl⟩ := Option.map_eq_some_iff.mp hx
    refine ⟨_, rfl, fun vs ⟨z, hz', ev⟩ => ?_⟩
    obtain ⟨z', e1, rz⟩ := (RelPs.mono x rs).get hq'
    rw [hz'] at e1
    cases e1
    subst ev
    exact ⟨_, _, rfl, by rw [Nat.zero_add]; rfl, z, [], rfl, rz, rfl⟩⟩
end
end Sb
set_option Elab.async false
set_option linter.all false
set_option autoImplicit false
set_option maxRecDepth 100000
set_option maxHeartbeats 4000000
/-! # Tw: zip of frozen lists and tuples, walked by a for -/
namespace Sb
open PySem PySem.Spec
open PyProof.Rows hiding St
open L2 (V Hp HO upd upd_same upd_ne VK TE TT TA TS TI Ends WX XK PE PT PA PS PSs PI It Turn FpOk Inv RelV Vals ObjOk)
open Ev (PV Val MO Hh Sg Exc Res SR)
abbrev ZT (N : Nat) (k1 k2 : SrcK) (a b : Addr) (n : Nat) (i : Nat) (h : Heap) : Prop := i ≤ n ∧ (IsZip h (N + 4) (N + 2) (N + 3) .none ∧ IsTupOf2 h (N + 2) (.ref N) (.ref (N + 1)) ∧ (∃ a1 a2, IsTupOf2 h (N + 3) a1 a2)) ∧ k1.isIt h N a i ∧ k2.isIt h (N + 1) b i ∧ a < N ∧ b < N
theorem tup2_obj {h : Heap} {T : Addr} {a b : Value} (z : IsTupOf2 h T a b) : ∃ o, h.get? T = some o ∧ ∀ v, o.data ≠ .cell v := ⟨_, z, fun v q => nomatch q⟩
theorem turn_zipG {P : Program} {w : World} {K : PySem.W.Frag} {elts : List Expr} {kk : Nat} {tpos : Pos} (k1 k2 : SrcK) {a b : Addr} {xs ys : List V} (N : Nat) : Turn P w K (.Tuple elts kk tpos)
    (ItW (fun H => H a = some (k1.ho xs) ∧ H b = some (k2.ho ys)) (min xs.length ys.length) fun i vs => ∃ x y, xs[i]? = some x ∧ ys[i]? = some y ∧ vs = [x, y]) [N + 4, N + 2, N + 3, N, N + 1] (N + 4) (ZT N k1 k2 a b (min xs.length ys.length)) :=
  turn_W (wr := [N + 4, N + 3, N, N + 1]) (fun b hb => by
      have : b = N + 4 ∨ b = N + 3 ∨ b = N ∨ b = N + 1 := by simpa using hb
      rcases this with rfl | rfl | rfl | rfl <;> simp) (by simp)
    (fun i h ⟨_, ⟨hz, hI, _, _, hO⟩, h1, h2, _⟩ c hc => by
      have : c = N + 4 ∨ c = N + 2 ∨ c = N + 3 ∨ c = N ∨ c = N + 1 := by simpa using hc
      rcases this with rfl | rfl | rfl | rfl | rfl
      · exact ⟨_, hz, fun v z => nomatch z⟩
      · exact tup2_obj hI
      · exact tup2_obj hO
      · exact k1.itObj h1
      · exact k2.itObj h2)
    (fun i h h' ⟨h0, ⟨hz, hI, a1, a2, hO⟩, h1, h2, l⟩ kp => ⟨h0, ⟨kp _ (by simp) _ hz, kp _ (by simp) _ hI, a1, a2, kp _ (by simp) _ hO⟩, k1.itAt h1 fun o q => kp _ (by simp) o q, k2.itAt h2 fun o q => kp _ (by simp) o q, l⟩) (fun _ _ h => h.1)
    (fun X pins σ H s i hP hw hK hc I hG ⟨h0, ⟨hz, hI, hO⟩, h1, h2, la, lb⟩ => by
      subst hP hw hK
      obtain ⟨is1, r1, sq1, z1⟩ := k1.seq I hG.1
      obtain ⟨is2, r2, sq2, z2⟩ := k2.seq I hG.2
      have l1 : is1.toArray.size = xs.length := by rw [List.size_toArray, r1.length]
      have l2 : is2.toArray.size = ys.length := by rw [List.size_toArray, r2.length]
      have D1 := k1.draws (prog := X.prog) (w := X.w) (A := X.A.in1) (I.ok.hd hc) N a (Nat.ne_of_lt la) is1.toArray
      have D2 := k2.draws (prog := X.prog) (w := X.w) (A := X.A.in1) (I.ok.hd hc) (N + 1) b (Nat.ne_of_lt (Nat.lt_succ_of_lt lb)) is2.toArray
      have WT := WalksT.zipD2 (zip_sep2 (N := N) (fp1 := [a]) (fp2 := [b]) (by simpa using la) (by simpa using lb)) D1 D2
      rw [l1, l2] at WT
      refine ⟨_, _, _, _, WT, ⟨hz, hI, hO, ⟨h1, sq1⟩, h2, sq2⟩, fun hlt h st => ⟨hlt, ⟨st.1, st.2.1, st.2.2.1⟩, st.2.2.2.1.1, st.2.2.2.2.1, la, lb⟩, fun vals ⟨x, y, hx, hy, ev⟩ => ?_⟩
      obtain ⟨x', e1, q1⟩ := paired_pt (i := i) r1 (by simpa using hx)
      obtain ⟨y', e2, q2⟩ := paired_pt (i := i) r2 (by simpa using hy)
      subst ev
      exact ⟨[x', y'], ⟨x', y', e1, e2, rfl⟩, by show 2 ≤ sizeLine; decide, .cons q1 (.cons q2 .nil)⟩)
    fun A i s Q Ex ⟨_, ⟨hz, _⟩, _⟩ q => wpAny_pyIter_zip hz q
section
variable {E : En} {X : L2.Cx} {Wx : WX} {C : Ev.Call} {σ' : L2.St} {H : Hp} {W : Wd} {h : Hh}
theorem zip_case : ∀ {ps : List PV} {r : PV}, Ev.bfun .zip ps = some r → ∃ p q xs ys, ps = [p, q] ∧ (p = .lst xs ∨ p = .tup xs) ∧ (q = .lst ys ∨ q = .tup ys) ∧ r = .lst (Ev.zipP xs ys)
  | [], _, e => by cases e
  | [p], _, e => by cases p <;> cases e
  | [p, q], _, e => by
    cases p <;> cases q <;> first | (cases e; exact ⟨_, _, _, _, rfl, .inl rfl, .inl rfl, rfl⟩) | (cases e; exact ⟨_, _, _, _, rfl, .inl rfl, .inr rfl, rfl⟩) | (cases e; exact ⟨_, _, _, _, rfl, .inr rfl, .inr rfl, rfl⟩) | (cases e; exact ⟨_, _, _, _, rfl, .inr rfl, .inl rfl, rfl⟩) | cases e
  | p :: q :: o :: l, _, e => by cases p <;> cases q <;> cases e
theorem zipP_len : ∀ (xs ys : List PV), (Ev.zipP xs ys).length = min xs.length ys.length
  | [], _ => by simp [Ev.zipP]
  | _ :: _, [] => by simp [Ev.zipP]
  | x :: xs, y :: ys => by simp [Ev.zipP, zipP_len xs ys]
theorem ti_zip {e e2 : Expr} {ca : Ev.CE} {elts : List Expr} {kk : Nat} {p pos tpos : Pos} {n : Nat} (hch : chn ca = some n) (ni : NoDun E.P (·.itr)) (hg : L2.Gl X "zip") (hm : X.mg "zip" = none) (ha : PAv E X Wx C [e, e2] ca)
    (hs : starEach [e, e2] X.env = (false, eval e X.env) :: starEach [e2] X.env := by rfl) (hpl : (backTo pos (starEach [e2] X.env)).any (·.1) = false := by rfl) :
    PI X (.Tuple elts kk tpos) (.Call (.Name "zip" p) [e, e2] [] pos) (TRI E Wx (itE E C (.bf .zip ca))) := ⟨fun pins s σ' H R I t => by
  have t := tri_bfP (.inr rfl) (n := n) hch ni t
  refine PyProof.Rows.Call_ (L2.ld_blt I hg hm boot_zip (PyProof.Rows.callWith_type1 (L2.thn (ha.run pos pins s σ' H _ I t) fun us s1 ⟨vs, H1, I1, r1, W, h, ps, r, eH, rh, rv, hl, e2, k⟩ => ?_) hs hpl))
  subst eH
  obtain ⟨p, q, xs, ys, rfl, hp, hq, rfl⟩ := zip_case e2
  obtain ⟨x, t', rfl, rx, y, t'', rfl, ry, et⟩ := rv
  cases et
  obtain ⟨k1, a, xv, rfl, f1, q1, rs1⟩ := src_of hp rx
  obtain ⟨k2, b, yv, rfl, f2, q2, rs2⟩ := src_of hq ry
  obtain ⟨u1, u2, rfl, ru1, ru2⟩ := L2.vals2 r1
  cases ru1
  cases ru2
  obtain ⟨is1, rv1, sq1, z1⟩ := k1.seq I1 q1
  obtain ⟨is2, rv2, sq2, z2⟩ := k2.seq I1 q2
  obtain ⟨oa, hoa⟩ := k1.there sq1
  obtain ⟨ob, hob⟩ := k2.there sq2
  have la : a < s1.heap.objs.size := Heap.lt_size hoa
  have lb : b < s1.heap.objs.size := Heap.lt_size hob
  refine zip_begins2 (k1.begins a is1.toArray) (k2.begins b is2.toArray) sq1 sq2 fun h' hz hI hO g1 g2 hsz hk => wpAny_pyIter_zip hz ?_
  have I2 : Inv X pins σ' W.H { s1 with heap := h' } := I1.kept (t' := s1.toks) hk
  refine ⟨s1.heap.objs.size + 4, [s1.heap.objs.size + 4, s1.heap.objs.size + 2, s1.heap.objs.size + 3, s1.heap.objs.size, s1.heap.objs.size + 1], _, _, W.H, rfl, I2, turn_zipG k1 k2 (a := a) (b := b) (xs := xv) (ys := yv) s1.heap.objs.size, ⟨Nat.zero_le _, ⟨hz, hI, _, _, hO⟩, k1.it0 g1, k2.it0 g2, la, lb⟩, fun c hc => ?_, k _ (it_W (by rw [zipP_len, rs1.length, rs2.length]) (fun W2 x => ⟨(x.fro a f1).2.trans q1, (x.fro b f2).2.trans q2⟩) fun W2 i p x hx => ?_)⟩
  · have hle : s1.heap.objs.size ≤ c := by
      have : c = s1.heap.objs.size + 4 ∨ c = s1.heap.objs.size + 2 ∨ c = s1.heap.objs.size + 3 ∨ c = s1.heap.objs.size ∨ c = s1.heap.objs.size + 1 := by simpa using hc
      rcases this with z | z | z | z | z <;> rw [z] <;> first | exact Nat.le_add_right _ _ | exact Nat.le_refl _
    exact I1.fpOk hle (I1.hok.fresh hle)
  · obtain ⟨c, d, hc, hd, rfl⟩ := zipP_get xs ys i p hx
    refine ⟨_, rfl, fun vs ⟨y, z, hy, hz', ev⟩ => ?_⟩
    obtain ⟨y', e1, ry'⟩ := (RelPs.mono x rs1).get hc
    obtain ⟨z', e2, rz'⟩ := (RelPs.mono x rs2).get hd
    rw [hy] at e1
    rw [hz'] at e2
    cases e1
    cases e2
    subst ev
    exact ⟨y, [z], rfl, ry', z, [], rfl, rz', rfl⟩⟩
end
end Sb
set_option Elab.async false
set_option linter.all false
set_option autoImplicit false
set_option maxRecDepth 100000
set_option maxHeartbeats 4000000
/-! # Tx: list(zip(..)): the tuples are kept while the zip goes on -/
namespace SbZ
open PySem PySem.Spec PySem.W PySem.Calls
open PyProof.Rows hiding St
section
variable {prog : Program} {w : World} {A : Around} {Ex : Value → Shared → Prop} {s : Shared} {z TI TO T i1 i2 : Addr} {fp1 fp2 : List Addr} {n1 n2 i : Nat} {P1 P2 : Nat → Value → Prop} {St1 St2 : Nat → Heap → Prop} {f : Bool} {oT : Obj}
/-- the next tuple, the last one still held -/
theorem held_item {Q : Option Value → Shared → Prop} (S : ZipSep2 z TI TO i1 i2 fp1 fp2) (D1 : Draws prog w A.in1 i1 fp1 n1 P1 St1) (D2 : Draws prog w A.in1 i2 fp2 n2 P2 St2)
    (hz : IsZipHeld s.heap z TI TO T f) (hT : s.heap.get? T = some oT) (hI : IsTupOf2 s.heap TI (.ref i1) (.ref i2)) (st1 : St1 i s.heap) (st2 : St2 i s.heap) (l1 : i < n1) (l2 : i < n2)
    (hQ : ∀ x y h' tk, P1 i x → P2 i y → IsZipHeld h' z TI TO T true → St1 (i + 1) h' → St2 (i + 1) h' → IsTupOf2 h' s.heap.objs.size x y →
      (∀ c o, c ≠ z → c ≠ i1 → c ≠ i2 → s.heap.get? c = some o → h'.get? c = some o) → Q (some (.ref s.heap.objs.size)) { s with heap := h', toks := tk }) : wpAny (model prog w) A (pyNext (.ref z)) Q Ex s := by
  have ty : s.TypeIs (.ref z) "zip" := ⟨_, hz, rfl⟩
  unfold pyNext
  refine wpAny_bind (wpAny_attempt (wpAny_callSpecial?_slot (name := Str.ofString "__next__") ty F.slot_zip_next (wpAny_call_entry F.slot_zip_next ty F.entry_zip_next ?_ (F.args_zip_next_1 _))))
  obtain ⟨hp, g, d, t0, os⟩ := s
  show wpAny _ _ (field (.ref z) 2 >>= _) _ _ _
  refine wpAny_bind (wpAny_field hz rfl (x := .bool false) rfl ?_)
  show wpAny _ _ (field (.ref z) 3 >>= _) _ _ _
  refine wpAny_bind (wpAny_field hz rfl (x := .ref TI) rfl (wpAny_bind (wpAny_seqItems hI rfl ?_)))
  show wpAny _ _ (Builtin.SmallTypes.ownedTupleIsFree (.ref z) >>= _) _ _ _
  refine wpAny_bind (wpAny_tupleHeld_zip hz hT fun g1 z1 b1 => ?_)
  simp only [Bool.false_eq_true, if_false]
  refine wpAny_bind ?_
  rw [← Array.forIn_toList]
  simp only [List.forIn_cons, List.forIn_nil]
  refine wpAny_bind (wpAny_bind (wpAny_holding ?_))
  show wpAny _ _ (Builtin.SmallTypes.nextOf (.ref i1) >>= _) _ _ _
  refine wpAny_bind (D1.item i ⟨g1, g, d, t0, os⟩ _ _ l1 (D1.over st1 b1 S.zf1) fun x g2 tk2 px sa2 b2 => wpAny_pure (wpAny_pure (wpAny_bind (wpAny_bind (wpAny_holding ?_)))))
  show wpAny _ _ (Builtin.SmallTypes.nextOf (.ref i2) >>= _) _ _ _
  refine wpAny_bind (D2.item i ⟨g2, g, d, tk2, os⟩ _ _ l2 (D2.over (D2.over st2 b1 S.zf2) b2 S.sep1_2) fun y g3 tk3 py sb3 b3 => wpAny_pure (wpAny_pure (wpAny_pure ?_)))
  show wpAny _ _ (newTuple [x, y] >>= _) _ _ _
  refine wpAny_bind (wpAny_newTuple (wpAny_pure ⟨_, rfl, ?_⟩))
  have hsz : g3.objs.size = hp.objs.size := by rw [b3.1, b2.1, b1.1]
  have z3 : IsZipHeld g3 z TI TO T true := b3.extBut _ _ S.zi2 (b2.extBut _ _ S.zi1 z1)
  have k : ∀ c o, c ≠ z → c ≠ i1 → c ≠ i2 → hp.get? c = some o → g3.get? c = some o := fun c o c1 c2 c3 e => b3.extBut _ _ c3 (b2.extBut _ _ c2 (b1.extBut _ _ c1 e))
  have tt : IsTupOf2 (g3.push { cls := .type "tuple", data := .seq #[x, y] }) g3.objs.size x y := Heap.get?_push_size _ rfl
  have s3 : St1 (i + 1) g3 := D1.over sa2 b3 S.sep2_1
  show wpAny _ _ _ _ _ _
  refine wpAny_pure ?_
  show Q (some (.ref g3.objs.size)) _
  rw [hsz] at tt ⊢
  exact hQ x y _ _ px py (Heap.get?_push_of_some _ z3) (D1.frame _ _ _ s3 fun b _ o e => Heap.get?_push_of_some _ e) (D2.frame _ _ _ sb3 fun b _ o e => Heap.get?_push_of_some _ e) tt fun c o c1 c2 c3 e => Heap.get?_push_of_some _ (k c o c1 c2 c3 e)
/-- the end, the last tuple still held -/
theorem held_end {Q : Option Value → Shared → Prop} (S : ZipSep2 z TI TO i1 i2 fp1 fp2) (D1 : Draws prog w A.in1 i1 fp1 n1 P1 St1) (D2 : Draws prog w A.in1 i2 fp2 n2 P2 St2)
    (hz : IsZipHeld s.heap z TI TO T f) (hT : s.heap.get? T = some oT) (hI : IsTupOf2 s.heap TI (.ref i1) (.ref i2)) (st1 : St1 i s.heap) (st2 : St2 i s.heap) (l : i = min n1 n2)
    (hQ : ∀ h' tk, (∀ c o, c ≠ z → c ≠ i1 → c ≠ i2 → s.heap.get? c = some o → h'.get? c = some o) → Q none { s with heap := h', toks := tk }) : wpAny (model prog w) A (pyNext (.ref z)) Q Ex s := by
  have ty : s.TypeIs (.ref z) "zip" := ⟨_, hz, rfl⟩
  unfold pyNext
  refine wpAny_bind (wpAny_attempt (wpAny_callSpecial?_slot (name := Str.ofString "__next__") ty F.slot_zip_next (wpAny_call_entry F.slot_zip_next ty F.entry_zip_next ?_ (F.args_zip_next_1 _))))
  obtain ⟨hp, g, d, t0, os⟩ := s
  show wpAny _ _ (field (.ref z) 2 >>= _) _ _ _
  refine wpAny_bind (wpAny_field hz rfl (x := .bool false) rfl ?_)
  show wpAny _ _ (field (.ref z) 3 >>= _) _ _ _
  refine wpAny_bind (wpAny_field hz rfl (x := .ref TI) rfl (wpAny_bind (wpAny_seqItems hI rfl ?_)))
  show wpAny _ _ (Builtin.SmallTypes.ownedTupleIsFree (.ref z) >>= _) _ _ _
  refine wpAny_bind (wpAny_tupleHeld_zip hz hT fun g1 z1 b1 => ?_)
  simp only [Bool.false_eq_true, if_false]
  refine wpAny_bind ?_
  rw [← Array.forIn_toList]
  simp only [List.forIn_cons, List.forIn_nil]
  refine wpAny_bind (wpAny_bind (wpAny_holding ?_))
  show wpAny _ _ (Builtin.SmallTypes.nextOf (.ref i1) >>= _) _ _ _
  by_cases l1 : i < n1
  · have e2 : i = n2 := by omega
    subst e2
    refine wpAny_bind (D1.item i ⟨g1, g, d, t0, os⟩ _ _ l1 (D1.over st1 b1 S.zf1) fun x g2 tk2 px sa2 b2 => wpAny_pure (wpAny_pure (wpAny_bind (wpAny_bind (wpAny_holding ?_)))))
    show wpAny _ _ (Builtin.SmallTypes.nextOf (.ref i2) >>= _) _ _ _
    refine wpAny_bind (D2.done ⟨g2, g, d, tk2, os⟩ _ _ (D2.over (D2.over st2 b1 S.zf2) b2 S.sep1_2) fun g3 e b3 ⟨o, ho, hc⟩ => ?_)
    refine wpAny_bind (wpAny_isInstance (T := "StopIteration") (b := true) ⟨o, ho, hc⟩ isSubtype_stop (wpAny_pure ?_))
    exact hQ g3 tk2 fun c o c1 c2 c3 e => b3 _ _ c3 (b2.extBut _ _ c2 (b1.extBut _ _ c1 e))
  · have e1 : i = n1 := by omega
    subst e1
    refine wpAny_bind (D1.done ⟨g1, g, d, t0, os⟩ _ _ (D1.over st1 b1 S.zf1) fun g2 e b2 ⟨o, ho, hc⟩ => ?_)
    refine wpAny_bind (wpAny_isInstance (T := "StopIteration") (b := true) ⟨o, ho, hc⟩ isSubtype_stop (wpAny_pure ?_))
    exact hQ g2 t0 fun c o c1 c2 c3 e => b2 _ _ c2 (b1.extBut _ _ c1 e)
/-- each of these is a tuple of what the two draw, not below B -/
def Pairs (B : Nat) (P1 P2 : Nat → Value → Prop) (h : Heap) (acc : Array Value) : Prop := ∀ (j : Nat) (v : Value), acc[j]? = some v → ∃ (T : Addr) (x y : Value), v = .ref T ∧ B ≤ T ∧ P1 j x ∧ P2 j y ∧ h.IsTuple T #[x, y]
theorem Pairs.keep {B : Nat} {h h' : Heap} {acc : Array Value} (p : Pairs B P1 P2 h acc) (k : ∀ (c : Addr) (o : Obj), B ≤ c → h.get? c = some o → h'.get? c = some o) : Pairs B P1 P2 h' acc := fun j v e => by
  obtain ⟨T, x, y, ev, l, p1, p2, ht⟩ := p j v e
  exact ⟨T, x, y, ev, l, p1, p2, ht.at fun o q => k _ _ l q⟩
theorem Pairs.push {B : Nat} {h : Heap} {acc : Array Value} {T : Addr} {x y : Value} (p : Pairs B P1 P2 h acc) (hi : acc.size = i) (l : B ≤ T) (p1 : P1 i x) (p2 : P2 i y) (ht : h.IsTuple T #[x, y]) : Pairs B P1 P2 h (acc.push (.ref T)) := fun j v e => by
  rw [Array.getElem?_push] at e
  split at e
  · rename_i hj
    cases e
    subst hj hi
    exact ⟨T, x, y, rfl, l, p1, p2, ht⟩
  · exact p j v e
/-- later ones lie higher -/
def Rise (acc : Array Value) : Prop := ∀ (j k : Nat) (a b : Addr), j < k → acc[j]? = some (.ref a) → acc[k]? = some (.ref b) → a < b
theorem Rise.push {B : Nat} {h : Heap} {acc : Array Value} {T : Addr} (r : Rise acc) (p : Pairs B P1 P2 h acc) (l : h.objs.size ≤ T) : Rise (acc.push (.ref T)) := fun j k a b hjk e1 e2 => by
  have hk : k < acc.size + 1 := by
    have := (Array.getElem?_eq_some_iff.mp e2).1
    rwa [Array.size_push] at this
  have hj : j < acc.size := by omega
  rw [Array.getElem?_push, if_neg (by omega)] at e1
  rw [Array.getElem?_push] at e2
  split at e2
  · cases e2
    obtain ⟨T', x, y, ev, _, _, _, ht⟩ := p j _ e1
    cases ev
    obtain ⟨o, ho, _⟩ := ht
    exact Nat.lt_of_lt_of_le (Heap.lt_size ho) l
  · exact r j k a b hjk e1 e2
/-- the state of a zip that is drawn into the list at L -/
structure ZLst (B : Nat) (z TI TO i1 i2 L : Addr) (P1 P2 : Nat → Value → Prop) (St1 St2 : Nat → Heap → Prop) (i : Nat) (h : Heap) (acc : Array Value) (c : Nat) : Prop where
  ph : (∃ (T : Addr) (f : Bool) (oT : Obj), IsZipHeld h z TI TO T f ∧ h.get? T = some oT ∧ B ≤ T) ∨ (IsZip h z TI TO .none ∧ ∃ a1 a2, IsTupOf2 h TO a1 a2)
  ti : IsTupOf2 h TI (.ref i1) (.ref i2)
  s1 : St1 i h
  s2 : St2 i h
  ls : h.get? L = some { cls := .type "list", dict := none, data := .seq acc c, slots := #[] }
  sz : acc.size = i
  pr : Pairs B P1 P2 h acc
  ri : Rise acc
  big : B ≤ h.objs.size
structure ZLap (B : Nat) (z TI TO i1 i2 L : Addr) (fp1 fp2 : List Addr) : Prop where
  bz : z < B
  bO : TO < B
  b1 : i1 < B
  b2 : i2 < B
  bL : L < B
  zL : L ≠ z
  IL : L ≠ TI
  OL : L ≠ TO
  L1 : L ∉ fp1
  L2 : L ∉ fp2
theorem zl_loop {B : Nat} {L : Addr} {R : Result → Shared → Prop} {res : Value} (S : ZipSep2 z TI TO i1 i2 fp1 fp2) (D1 : Draws prog w A.in1.in1 i1 fp1 n1 P1 St1) (D2 : Draws prog w A.in1.in1 i2 fp2 n2 P2 St2) (ap : ZLap B z TI TO i1 i2 L fp1 fp2) (hn : min n1 n2 ≤ sizeLine) :
    ∀ (k i : Nat) (s : Shared) (acc : Array Value) (c : Nat), min n1 n2 - i = k → i ≤ min n1 n2 → ZLst B z TI TO i1 i2 L P1 P2 St1 St2 i s.heap acc c →
    (∀ h' tk acc' c', (∀ b o, b ≠ L → b ≠ z → b ≠ TO → b ≠ i1 → b ≠ i2 → s.heap.get? b = some o → h'.get? b = some o) → h'.get? L = some { cls := .type "list", dict := none, data := .seq acc' c', slots := #[] } → acc'.size = min n1 n2 → Pairs B P1 P2 h' acc' → Rise acc' → R (.ok (.ret res)) { s with heap := h', toks := tk }) →
    codeAny (model prog w) A (.builtin "list.extend.loop" ⟨[.ref L, .ref z, res], []⟩) R s := by
  have zi1 : z ≠ i1 := S.zi1
  have zi2 : z ≠ i2 := S.zi2
  have L1' : L ≠ i1 := fun e => ap.L1 (e ▸ S.mem1)
  have L2' : L ≠ i2 := fun e => ap.L2 (e ▸ S.mem2)
  intro k
  induction k with
  | zero =>
    intro i s acc c hk hi st hR
    have hin : i = min n1 n2 := by omega
    refine codeAny_builtin F.entry_extend_loop ?_
    rw [Around.under_plainId F.plain_extend_loop _]
    show wpAny _ A.in1 (pyNext (.ref z) >>= _) _ _ s
    rcases st.ph with ⟨T, f, oT, hz, hT, bT⟩ | ⟨hz, hO⟩
    · refine wpAny_bind (held_end (A := A.in1) S D1 D2 hz hT st.ti st.s1 st.s2 hin fun h' tk kp => wpAny_pure ?_)
      exact hR h' tk acc c (fun b o _ b1 _ b3 b4 e => kp b o b1 b3 b4 e) (kp _ _ ap.zL L1' L2' st.ls) (by rw [st.sz, hin]) (st.pr.keep fun c o l e => kp c o (Nat.ne_of_gt (Nat.lt_of_lt_of_le ap.bz l)) (Nat.ne_of_gt (Nat.lt_of_lt_of_le ap.b1 l)) (Nat.ne_of_gt (Nat.lt_of_lt_of_le ap.b2 l)) e) st.ri
    · have WT := WalksT.zipD2 (A := A.in1) S D1 D2
      refine wpAny_bind (WT.done s _ _ (by rw [← hin]; exact ⟨hz, st.ti, hO, st.s1, st.s2⟩) fun h' tk kp => wpAny_pure ?_)
      have kp : ∀ b o, b ≠ z → b ≠ TO → b ≠ i1 → b ≠ i2 → s.heap.get? b = some o → h'.get? b = some o := fun b o b1 b2 b3 b4 e => kp b o (by simp [b1, b2, b3, b4]) e
      exact hR h' tk acc c (fun b o _ b1 b2 b3 b4 e => kp b o b1 b2 b3 b4 e) (kp _ _ ap.zL ap.OL L1' L2' st.ls) (by rw [st.sz, hin]) (st.pr.keep fun c o l e => kp c o (Nat.ne_of_gt (Nat.lt_of_lt_of_le ap.bz l)) (Nat.ne_of_gt (Nat.lt_of_lt_of_le ap.bO l)) (Nat.ne_of_gt (Nat.lt_of_lt_of_le ap.b1 l)) (Nat.ne_of_gt (Nat.lt_of_lt_of_le ap.b2 l)) e) st.ri
  | succ k ih =>
    intro i s acc c hk hi st hR
    have hlt : i < min n1 n2 := by omega
    have push : ∀ (T : Addr) (x y : Value) (h' : Heap) (tk : Nat), P1 i x → P2 i y → (∃ T0 f oT, IsZipHeld h' z TI TO T0 f ∧ h'.get? T0 = some oT ∧ B ≤ T0) → St1 (i + 1) h' → St2 (i + 1) h' → s.heap.objs.size ≤ T → h'.IsTuple T #[x, y] → s.heap.objs.size ≤ h'.objs.size →
        (∀ b o, b ≠ z → b ≠ TO → b ≠ i1 → b ≠ i2 → s.heap.get? b = some o → h'.get? b = some o) →
        wpAny (model prog w) A.in1 (updateSeq L (·.push (.ref T))) (fun _ s' => wpAny (model prog w) A.in1 (again (.builtin "list.extend.loop" ⟨[.ref L, .ref z, res], []⟩)) (fun fin s'' => match fin with | .done f => R (.ok f) s'' | .again c' => c'.quiet = true ∧ codeAny (model prog w) A c' R s'') (fun e s'' => R (.error e) s'') s') (fun e s'' => R (.error e) s'') { s with heap := h', toks := tk } := by
      intro T x y h' tk px py ⟨T0, f, oT, hz, hT, b0⟩ s1 s2 lT ht lh kp
      have hS := kp _ _ ap.zL ap.OL L1' L2' st.ls
      have lb : ∀ {d : Addr} {o : Obj}, d ≠ L → h'.get? d = some o → (h'.update L (Obj.mapSeq (·.push (.ref T)))).get? d = some o := fun {d o} hd e => (Heap.get?_update_other _ _ (fun z => hd z.symm)).trans e
      have bT : B ≤ T := Nat.le_trans st.big lT
      have pr1 : Pairs B P1 P2 h' acc := st.pr.keep fun c o l e => kp c o (Nat.ne_of_gt (Nat.lt_of_lt_of_le ap.bz l)) (Nat.ne_of_gt (Nat.lt_of_lt_of_le ap.bO l)) (Nat.ne_of_gt (Nat.lt_of_lt_of_le ap.b1 l)) (Nat.ne_of_gt (Nat.lt_of_lt_of_le ap.b2 l)) e
      have TL : T0 ≠ L := Nat.ne_of_gt (Nat.lt_of_lt_of_le ap.bL b0)
      refine wpAny_updateSeq (s := { s with heap := h', toks := tk }) hS rfl (wpAny_pure ⟨plainId_quiet F.plain_extend_loop _, ih (i + 1) _ (acc.push (.ref T)) _ (by omega) hlt ⟨.inl ⟨T0, f, oT, lb ap.zL.symm hz, lb TL hT, b0⟩, lb ap.IL.symm (kp _ _ S.TIz S.TITO S.TIi1 S.TIi2 st.ti), D1.frame _ _ _ s1 fun b hb o e => lb (fun z => ap.L1 (z ▸ hb)) e, D2.frame _ _ _ s2 fun b hb o e => lb (fun z => ap.L2 (z ▸ hb)) e, Heap.get?_update_self _ hS rfl, by rw [Array.size_push, st.sz],
        (pr1.push st.sz bT px py ht).keep fun c o l e => lb (Nat.ne_of_gt (Nat.lt_of_lt_of_le ap.bL l)) e, st.ri.push st.pr lT, by show B ≤ (h'.update L _).objs.size; rw [Heap.size_update]; exact Nat.le_trans st.big lh⟩ fun h2 tk2 acc' c' k2 hS2 z2 pr2 ri2 => ?_⟩)
        (by rw [st.sz]; omega) (by show (acc.push (.ref T)).size ≤ sizeLine + 1; rw [Array.size_push, st.sz]; omega)
      exact hR h2 tk2 acc' c' (fun b o b0 b1 b2 b3 b4 e => k2 b o b0 b1 b2 b3 b4 (lb b0 (kp b o b1 b2 b3 b4 e))) hS2 z2 pr2 ri2
    refine codeAny_builtin F.entry_extend_loop ?_
    rw [Around.under_plainId F.plain_extend_loop _]
    show wpAny _ A.in1 (pyNext (.ref z) >>= _) _ _ s
    rcases st.ph with ⟨T, f, oT, hz, hT, bT⟩ | ⟨hz, hO⟩
    · refine wpAny_bind (held_item (A := A.in1) S D1 D2 hz hT st.ti st.s1 st.s2 (by omega) (by omega) fun x y h' tk px py hz' s1 s2 ht kp => ?_)
      show wpAny _ A.in1 (updateSeq L (·.push (.ref s.heap.objs.size)) >>= _) _ _ _
      refine wpAny_bind (push s.heap.objs.size x y h' tk px py ⟨T, true, oT, hz', kp T oT (Nat.ne_of_gt (Nat.lt_of_lt_of_le ap.bz bT)) (Nat.ne_of_gt (Nat.lt_of_lt_of_le ap.b1 bT)) (Nat.ne_of_gt (Nat.lt_of_lt_of_le ap.b2 bT)) hT, bT⟩ s1 s2 (Nat.le_refl _) ⟨_, ht, rfl, _, rfl⟩ (Nat.le_of_lt (Heap.lt_size ht)) fun b o b1 _ b3 b4 e => kp b o b1 b3 b4 e)
    · have WT := WalksT.zipD2 (A := A.in1) S D1 D2
      refine wpAny_bind (WT.item i s _ _ hlt ⟨hz, st.ti, hO, st.s1, st.s2⟩ fun T vals h' tk ⟨x, y, px, py, ev⟩ lT ht mid kp => ?_)
      subst ev
      show wpAny _ A.in1 (updateSeq L (·.push (.ref T)) >>= _) _ _ _
      obtain ⟨oT, hoT, _⟩ := id ht
      exact wpAny_bind (push T x y h' tk px py ⟨T, false, oT, mid.1, hoT, Nat.le_trans st.big lT⟩ mid.2.2.2.1 mid.2.2.2.2.1 lT ht (Nat.le_of_lt (Nat.lt_of_le_of_lt lT (Heap.lt_size hoT))) fun b o b1 b2 b3 b4 e => kp b o (by simp [b1, b2, b3, b4]) e)
theorem zip_no_len : typeLookup (.type "zip") "__len__" = pure none := by rw [typeLookup_type, builtinLookup_eq_fast]; kernel_rfl
theorem zip_no_hint : typeLookup (.type "zip") "__length_hint__" = pure none := by rw [typeLookup_type, builtinLookup_eq_fast]; kernel_rfl
theorem zl_hint {Q : Bool → Shared → Prop} (hT : s.TypeIs (.ref z) "zip") (q : Q true s) : wpAny (model prog w) A (Builtin.List.listLengthHint (.ref z)) Q Ex s := by
  unfold Builtin.List.listLengthHint
  refine wpAny_bind (wpAny_specialOf hT zip_no_len ?_)
  show wpAny _ _ (specialOf (.ref z) "__length_hint__" >>= _) _ _ _
  exact wpAny_bind (wpAny_specialOf hT zip_no_hint (wpAny_pure q))
theorem zl_call {Q : Value → Shared → Prop} (S : ZipSep2 z TI TO i1 i2 fp1 fp2) (D1 : Draws prog w A.in1.in1.in1 i1 fp1 n1 P1 St1) (D2 : Draws prog w A.in1.in1.in1 i2 fp2 n2 P2 St2) (hn : min n1 n2 ≤ sizeLine)
    (hz : IsZip s.heap z TI TO .none) (hI : IsTupOf2 s.heap TI (.ref i1) (.ref i2)) (hO : IsTupOf2 s.heap TO .none .none) (st1 : St1 0 s.heap) (st2 : St2 0 s.heap) (f1 : ∀ b ∈ fp1, b < s.heap.objs.size) (f2 : ∀ b ∈ fp2, b < s.heap.objs.size)
    (hQ : ∀ h' tk acc' c', (∀ b o, b ≠ z → b ≠ TO → b ≠ i1 → b ≠ i2 → s.heap.get? b = some o → h'.get? b = some o) → h'.get? s.heap.objs.size = some { cls := .type "list", dict := none, data := .seq acc' c', slots := #[] } → acc'.size = min n1 n2 →
      Pairs (s.heap.objs.size + 1) P1 P2 h' acc' → Rise acc' → Q (.ref s.heap.objs.size) { s with heap := h', toks := tk }) : wpAny (model prog w) A (call (.type "list") [.ref z]) Q Ex s := by
  refine callType_codes (Q₁ := fun obj s₁ => obj = .ref s.heap.objs.size ∧ s₁ = { s with heap := s.heap.push { cls := .type "list", data := .seq #[] } }) F.called_list (F.typeCall_list_1 _) F.entry_list_init (code_list_new _ ⟨rfl, rfl⟩) fun obj s₁ ⟨e1, e2⟩ => ?_
  subst e1
  subst e2
  have hS : (s.heap.push { cls := .type "list", data := .seq #[] }).get? s.heap.objs.size = some { cls := .type "list", data := .seq #[] } := Heap.get?_push_size _ rfl
  refine ⟨⟨_, hS, rfl⟩, F.args_list_init_2 _ _, ?_⟩
  generalize hL : s.heap.objs.size = L at *
  show wpAny _ _ (do let old ← Builtin.List.listItems (.ref L); Builtin.List.listUpdate (.ref L) (fun _ => #[]); letGo old.toList.reverse; Builtin.List.listExtendWith (.ref L) (.ref z) .none) _ _ _
  refine wpAny_bind ?_
  unfold Builtin.List.listItems
  refine wpAny_bind (wpAny_seqItems hS rfl (wpAny_pure ?_))
  show wpAny _ _ (updateSeq L (fun _ => #[]) >>= fun _ => letGo (#[] : Array Value).toList.reverse >>= fun _ => Builtin.List.listExtendWith (.ref L) (.ref z) .none) _ _ _
  refine wpAny_bind (wpAny_updateSeq hS rfl ?_)
  have up : ∀ {h : Heap} {f : Obj → Obj} {b : Addr} {o : Obj}, b ≠ L → h.get? b = some o → (h.update L f).get? b = some o := fun {h f b o} hb e => (Heap.get?_update_other _ _ (fun z => hb z.symm)).trans e
  have zl : z < L := by rw [← hL]; exact Heap.lt_size hz
  have Il : TI < L := by rw [← hL]; exact Heap.lt_size hI
  have Ol : TO < L := by rw [← hL]; exact Heap.lt_size hO
  have old : ∀ {b : Addr} {o : Obj}, s.heap.get? b = some o → b ≠ L := fun {b o} e => by rw [← hL]; exact Nat.ne_of_lt (Heap.lt_size e)
  have k1 : ∀ b o, s.heap.get? b = some o → ((s.heap.push { cls := .type "list", data := .seq #[] }).update L (Obj.mapSeq (fun _ => (#[] : Array Value)))).get? b = some o := fun b o e => up (old e) (Heap.get?_push_of_some _ e)
  have hS2 := Heap.get?_update_self (Obj.mapSeq (fun _ => (#[] : Array Value))) hS rfl
  refine wpAny_bind (wpAny_letGo ?_)
  unfold Builtin.List.listExtendWith
  refine wpAny_bind (wpAny_typeOf (T := "zip") ⟨_, k1 _ _ hz, rfl⟩ ?_)
  have e0 : Builtin.List.listSameRef (.ref L) (.ref z) = false := by simp [Builtin.List.listSameRef, Nat.ne_of_gt zl]
  have e1 : ((Value.type "zip" == Value.type "list") : Bool) = false := by decide
  have e2 : ((Value.type "zip" == Value.type "tuple") : Bool) = false := by decide
  simp only [e0, e1, e2, Bool.or_false, Bool.false_eq_true, if_false]
  refine wpAny_bind (wpAny_pyIter_zip (k1 _ _ hz) ?_)
  refine wpAny_bind (wpAny_holding (zl_hint ⟨_, k1 _ _ hz, rfl⟩ ?_))
  simp only [Bool.true_or, if_true]
  refine wpAny_bind (wpAny_rule (wpAny_bind ?_))
  show wpAny _ _ (updateSeq L (·.push .none) >>= fun _ => updateSeq L (·.pop)) _ _ _
  refine wpAny_bind (wpAny_updateSeq hS2 rfl ?_)
  have hS3 := Heap.get?_update_self (Obj.mapSeq (·.push Value.none)) hS2 rfl
  refine wpAny_updateSeq (hz := by seq_fits) hS3 rfl ?_
  have hS4 := Heap.get?_update_self (Obj.mapSeq (·.pop)) hS3 rfl
  have k4 : ∀ b o, s.heap.get? b = some o → ((((s.heap.push { cls := .type "list", data := .seq #[] }).update L (Obj.mapSeq (fun _ => (#[] : Array Value)))).update L (Obj.mapSeq (·.push Value.none))).update L (Obj.mapSeq (·.pop))).get? b = some o := fun b o e => up (old e) (up (old e) (k1 b o e))
  refine wpAny_pure ⟨plainId_quiet F.plain_extend_loop _, ?_⟩
  refine zl_loop (A := A.in1) (B := L + 1) S D1 D2 ⟨Nat.lt_succ_of_lt zl, Nat.lt_succ_of_lt Ol, Nat.lt_succ_of_lt (f1 _ S.mem1), Nat.lt_succ_of_lt (f2 _ S.mem2), Nat.lt_succ_self L, Nat.ne_of_gt zl, Nat.ne_of_gt Il, Nat.ne_of_gt Ol, fun hm => Nat.lt_irrefl _ (f1 _ hm), fun hm => Nat.lt_irrefl _ (f2 _ hm)⟩ hn _ 0 _ #[] _ rfl (Nat.zero_le _)
    ⟨.inr ⟨k4 _ _ hz, _, _, k4 _ _ hO⟩, k4 _ _ hI, D1.frame _ _ _ st1 fun b _ o e => k4 b o e, D2.frame _ _ _ st2 fun b _ o e => k4 b o e, hS4, rfl, (fun j v e => by simp at e), (fun j k a b _ e => by simp at e), by show L + 1 ≤ _; rw [Heap.size_update, Heap.size_update, Heap.size_update, Heap.size_push, hL]; exact Nat.le_refl _⟩ fun h' tk acc' c' kp hS' hz' pr ri => ?_
  exact ⟨rfl, hQ h' tk acc' c' (fun b o b1 b2 b3 b4 e => kp b o (old e) b1 b2 b3 b4 (k4 b o e)) hS' hz' pr ri⟩
end
end SbZ
set_option Elab.async false
set_option linter.all false
set_option autoImplicit false
set_option maxRecDepth 100000
set_option maxHeartbeats 4000000
/-! # Ua: list(zip(..)) as the evaluator reads it -/
namespace Sb
open PySem PySem.Spec
open PyProof.Rows hiding St
open L2 (V Hp HO upd upd_same upd_ne VK TE TT TA TS TI Ends WX XK PE PT PA PS PSs PI It Turn FpOk Inv RelV Vals ObjOk)
open Ev (PV Val MO Hh Sg Exc Res SR)
/-- new tuples, one behind the other -/
def putZ : Hp → List Addr → List (List V) → Hp
  | H, a :: as, v :: vs => putZ (upd H a (.tup v)) as vs
  | H, _, _ => H
def Wd.fzZ : Wd → List Addr → List (List V) → Wd
  | W, a :: as, v :: vs => (W.fz a (.tup v)).fzZ as vs
  | W, _, _ => W
theorem fzZ_H : ∀ (as : List Addr) (vs : List (List V)) (W : Wd), (W.fzZ as vs).H = putZ W.H as vs
  | [], _, _ => by simp [Wd.fzZ, putZ]
  | _ :: _, [], _ => by simp [Wd.fzZ, putZ]
  | a :: as, v :: vs, W => fzZ_H as vs (W.fz a (.tup v))
theorem putZ_off {b : Addr} : ∀ (as : List Addr) (vs : List (List V)) (H : Hp), b ∉ as → putZ H as vs b = H b
  | [], _, _, _ => by simp [putZ]
  | _ :: _, [], _, _ => by simp [putZ]
  | a :: as, v :: vs, H, h => by
    show putZ (upd H a (.tup v)) as vs b = H b
    rw [putZ_off as vs _ (fun z => h (List.mem_cons_of_mem _ z)), upd_ne (fun z => h (by rw [z]; exact List.mem_cons_self))]
theorem putZ_at : ∀ (as : List Addr) (vs : List (List V)) (H : Hp) (j : Nat) (a : Addr) (v : List V), as.Nodup → as[j]? = some a → vs[j]? = some v → putZ H as vs a = some (.tup v)
  | [], _, _, j, _, _, _, h, _ => by simp at h
  | _ :: _, [], _, j, _, _, _, _, h => by simp at h
  | b :: as, u :: vs, H, 0, a, v, hn, h1, h2 => by
    cases h1
    cases h2
    show putZ (upd H b (.tup u)) as vs b = some (.tup u)
    rw [putZ_off as vs _ (List.nodup_cons.mp hn).1, upd_same]
  | b :: as, u :: vs, H, j + 1, a, v, hn, h1, h2 => putZ_at as vs (upd H b (.tup u)) j a v (List.nodup_cons.mp hn).2 h1 h2
section
variable {E : En} {X : L2.Cx} {Wx : WX} {C : Ev.Call} {σ' : L2.St} {H : Hp} {W : Wd} {h : Hh} {pins : List (Addr × Obj)} {s : Shared}
theorem af_fzZ : ∀ (as : List Addr) (vs : List (List V)) (W : Wd), RelH E W h → as.Nodup → (∀ a ∈ as, W.H a = none) → Af E W h (W.fzZ as vs) h
  | [], _, W, rh, _, _ => by simp only [Wd.fzZ]; exact Af.refl rh
  | _ :: _, [], W, rh, _, _ => by simp only [Wd.fzZ]; exact Af.refl rh
  | a :: as, v :: vs, W, rh, hn, hf => by
    have a1 := af_new (o := .tup v) rh (hf a List.mem_cons_self)
    refine a1.trans (af_fzZ as vs (W.fz a (.tup v)) a1.rel (List.nodup_cons.mp hn).2 fun b hb => ?_)
    show upd W.H a (.tup v) b = none
    rw [upd_ne (fun z => (List.nodup_cons.mp hn).1 (by rw [← z]; exact hb))]
    exact hf b (List.mem_cons_of_mem _ hb)
theorem fzZ_F : ∀ (as : List Addr) (vs : List (List V)) (W : Wd) (j : Nat) (a : Addr), as.length = vs.length → as[j]? = some a → (W.fzZ as vs).F a
  | [], _, _, j, _, _, h => by simp at h
  | _ :: _, [], _, _, _, hl, _ => by cases hl
  | b :: as, v :: vs, W, 0, a, hl, h => by
    cases h
    have mono : ∀ (as : List Addr) (vs : List (List V)) (W : Wd), W.F b → (W.fzZ as vs).F b := by
      intro as
      induction as with
      | nil => intro vs W hF; simpa [Wd.fzZ] using hF
      | cons c as ih =>
        intro vs W hF
        cases vs with
        | nil => simpa [Wd.fzZ] using hF
        | cons u vs => exact ih vs (W.fz c (.tup u)) (.inl hF)
    exact mono as vs (W.fz b (.tup v)) (.inr rfl)
  | b :: as, v :: vs, W, j + 1, a, hl, h => fzZ_F as vs (W.fz b (.tup v)) j a (Nat.succ.inj hl) h
theorem relPs_of : ∀ {ps : List PV} {xs : List V}, xs.length = ps.length → (∀ (j : Nat) (p : PV), ps[j]? = some p → ∃ x, xs[j]? = some x ∧ RelP E W p x) → RelPs E W ps xs
  | [], [], _, _ => rfl
  | [], _ :: _, h, _ => by cases h
  | _ :: _, [], h, _ => by cases h
  | p :: ps, x :: xs, h, k => by
    obtain ⟨y, e, r⟩ := k 0 p rfl
    cases e
    exact ⟨x, xs, rfl, r, relPs_of (Nat.succ.inj h) fun j p e => k (j + 1) p e⟩
theorem refs_of : ∀ (l : List Value), (∀ v ∈ l, ∃ a, v = Value.ref a) → ∃ as : List Addr, l = as.map Value.ref
  | [], _ => ⟨[], rfl⟩
  | v :: l, h => by
    obtain ⟨a, rfl⟩ := h v List.mem_cons_self
    obtain ⟨as, e⟩ := refs_of l fun v hv => h v (List.mem_cons_of_mem _ hv)
    exact ⟨a :: as, by rw [e]; rfl⟩
theorem vrefs : ∀ as : List Addr, Vals (as.map V.ref) (as.map Value.ref)
  | [] => .nil
  | _ :: as => .cons rfl (vrefs as)
/-- the new tuples and their list come to the world -/
theorem lz_laid {h' : Heap} {tk : Nat} {acc : Array Value} {c L : Nat} {as : List Addr} {vs : List (List V)} (I : Inv X pins σ' W.H s) (hk : ∀ b o, s.heap.get? b = some o → h'.get? b = some o) (hL : s.heap.objs.size ≤ L) (hS : h'.get? L = some { cls := .type "list", dict := none, data := .seq acc c, slots := #[] })
    (hacc : acc.toList = as.map Value.ref) (hl : as.length = vs.length) (hz : as.length ≤ sizeLine) (nd : as.Nodup) (hb : ∀ a ∈ as, L < a) (hv : ∀ (j : Nat) (a : Addr) (v : List V), as[j]? = some a → vs[j]? = some v → v.length ≤ sizeLine ∧ ∃ us : List Value, Vals v us ∧ h'.IsTuple a us.toArray) :
    Inv X pins σ' (upd (putZ W.H as vs) L (.lst (as.map V.ref))) { s with heap := h', toks := tk } := by
  have nL : W.H L = none := I.hok.fresh hL
  have new : ∀ a ∈ as, W.H a = none := fun a ha => I.hok.fresh (Nat.le_of_lt (Nat.lt_of_le_of_lt hL (hb a ha)))
  have off : ∀ b, b ∉ as → b ≠ L → upd (putZ W.H as vs) L (.lst (as.map V.ref)) b = W.H b := fun b h1 h2 => by rw [upd_ne h2, putZ_off as vs _ h1]
  have low : ∀ b o, s.heap.get? b = some o → b ∉ as ∧ b ≠ L := fun b o e => ⟨fun z => absurd (Heap.lt_size e) (Nat.not_lt.mpr (Nat.le_of_lt (Nat.lt_of_le_of_lt hL (hb b z)))), Nat.ne_of_lt (Nat.lt_of_lt_of_le (Heap.lt_size e) hL)⟩
  have kp : ∀ b u, W.H b = some u → upd (putZ W.H as vs) L (.lst (as.map V.ref)) b = some u := fun b u e => by
    rw [off b (fun z => by rw [new b z] at e; cases e) (fun z => by rw [z, nL] at e; cases e)]
    exact e
  refine I.call' (ch := []) rfl ⟨fun b o q _ _ _ => hk b o q, fun b o q _ _ _ => ⟨o.slots, hk b o q⟩, fun b o q n _ => ?_, fun b o q _ => ⟨o, hk b o q⟩, fun b xs q => kp b _ q, fun b o u q => kp b _ q, fun b ps q => ⟨#[], by rw [kp b _ q]; simp⟩⟩ (fun b u q => ?_) I.bare fun b z => by simp at z
  · obtain ⟨z1, z2⟩ := low b o q
    rw [off b z1 z2]
    exact n
  · by_cases hbL : b = L
    · rw [hbL, upd_same] at q
      cases q
      rw [hbL]
      exact ⟨by rw [List.length_map]; exact hz, acc.toList, c, by rw [hacc]; exact vrefs as, by rw [Array.toArray_toList]; exact hS⟩
    · by_cases hba : b ∈ as
      · obtain ⟨j, hj⟩ := List.getElem?_of_mem hba
        have hjl : j < vs.length := by rw [← hl]; exact (List.getElem?_eq_some_iff.mp hj).1
        have hvj : vs[j]? = some vs[j] := List.getElem?_eq_getElem hjl
        rw [upd_ne hbL, putZ_at as vs _ j b _ nd hj hvj] at q
        cases q
        obtain ⟨z, us, r, t⟩ := hv j b _ hj hvj
        exact ⟨z, us, r, t⟩
      · rw [off b hba hbL] at q
        exact (I.hok b u q).stay (fun d v _ y => hk d v y) (fun d y => kp d _ y) fun d xs y => kp d _ y
theorem te_lzip {e e2 : Expr} {ca : Ev.CE} {p1 p2 pos1 pos2 : Pos} (hc : X.calm = true) (hg1 : L2.Gl X "list") (hm1 : X.mg "list" = none) (hg : L2.Gl X "zip") (hm : X.mg "zip" = none) (ha : PAv E X Wx C [e, e2] ca)
    (hs : starEach [e, e2] X.env = (false, eval e X.env) :: starEach [e2] X.env := by rfl) (hpl : (backTo pos2 (starEach [e2] X.env)).any (·.1) = false := by rfl)
    (hs1 : starEach [.Call (.Name "zip" p2) [e, e2] [] pos2] X.env = (false, eval (.Call (.Name "zip" p2) [e, e2] [] pos2) X.env) :: starEach [] X.env := by rfl) :
    PEv E X Wx C (.Call (.Name "list" p1) [.Call (.Name "zip" p2) [e, e2] [] pos2] [] pos1) (.bf .list (.cons (.bf .zip ca) .nil)) := ⟨fun pins s σ' H Q I t => by
  have t : TRs E Wx (Ev.evA E.P C ca) σ' H fun xs H1 => ∃ (W : Wd) (h : Hh) (ps : List PV) (r : List PV), W.H = H1 ∧ RelH E W h ∧ RelPs E W ps xs ∧ Ev.bfun .zip ps = some (.lst r) ∧ ∀ W', Af E W h W' h → ∀ z, RelP E W' (.lst r) z → Q z W'.H := by
    obtain ⟨W, σ, h, eH, r, rh, g⟩ := t
    refine ⟨W, σ, h, eH, r, rh, ?_⟩
    have g : Go E W h ((((((Ev.evA E.P C ca σ h).bind fun vs h => Ev.bfV E.P C .zip vs h)).bind fun x h => (Res.ok ([] : List Val) h).bind fun xs h => .ok (x :: xs) h)).bind fun vs h => Ev.bfV E.P C .list vs h) (KV E Q) (KX E Wx σ') := g
    rw [bind_assoc, bind_assoc] at g
    refine (Go.bind g).imp fun vs W1 h1 a1 g1 xs rxs => ?_
    have g1 : Go E W1 h1 ((match Ev.pures vs with
      | some xs => Ev.ofO 21 (Ev.bfun .zip xs) h1
      | none => .bad 21).bind fun x h => ((Res.ok ([] : List Val) h).bind fun xs h => .ok (x :: xs) h).bind fun vs h => Ev.bfV E.P C .list vs h) (KV E Q) (KX E Wx σ') := g1
    cases q1 : Ev.pures vs with
    | none => simp only [q1] at g1; exact g1.elim
    | some ps =>
      simp only [q1] at g1
      cases q2 : Ev.bfun .zip ps with
      | none => simp only [q2] at g1; exact g1.elim
      | some r =>
        simp only [q2] at g1
        obtain ⟨p, q, as, bs, rfl, hp, hq, rfl⟩ := zip_case q2
        exact ⟨W1, h1, _, _, rfl, a1.rel, pures_rel q1 rxs, q2, fun W' a z rz => g1 W' a z rz⟩
  refine PyProof.Rows.Call_ (L2.ld_blt I hg1 hm1 boot_list (PyProof.Rows.callWith_type1 ?_ hs1 rfl))
  rw [hs1]
  show wpAny _ _ (spliced ((false, eval (.Call (.Name "zip" p2) [e, e2] [] pos2) X.env) :: backTo pos1 (starEach [] X.env))) _ _ s
  refine Calls.spliced_cons (PyProof.Rows.Call_ (L2.ld_blt I hg hm boot_zip (PyProof.Rows.callWith_type1 (L2.thn (ha.run pos2 pins s σ' H _ I t) fun us s1 ⟨vs, H1, I1, r1, W, h, ps, r, eH, rh, rv, e2, k⟩ => ?_) hs hpl)))
  subst eH
  obtain ⟨p, q, xs, ys, rfl, hp, hq, er⟩ := zip_case e2
  cases er
  obtain ⟨x, t', rfl, rx, y, t'', rfl, ry, et⟩ := rv
  cases et
  obtain ⟨k1, a, xv, rfl, f1, q1, rs1⟩ := src_of hp rx
  obtain ⟨k2, b, yv, rfl, f2, q2, rs2⟩ := src_of hq ry
  obtain ⟨u1, u2, rfl, ru1, ru2⟩ := L2.vals2 r1
  cases ru1
  cases ru2
  obtain ⟨is1, rv1, sq1, z1⟩ := k1.seq I1 q1
  obtain ⟨is2, rv2, sq2, z2⟩ := k2.seq I1 q2
  obtain ⟨oa, hoa⟩ := k1.there sq1
  obtain ⟨ob, hob⟩ := k2.there sq2
  have la : a < s1.heap.objs.size := Heap.lt_size hoa
  have lb : b < s1.heap.objs.size := Heap.lt_size hob
  have l1 : is1.toArray.size = xv.length := by rw [List.size_toArray, rv1.length]
  have l2 : is2.toArray.size = yv.length := by rw [List.size_toArray, rv2.length]
  refine zip_begins2 (k1.begins a is1.toArray) (k2.begins b is2.toArray) sq1 sq2 fun h' hz hI hO g1 g2 hsz hk => Calls.spliced_nil ?_
  have hN : s1.heap.objs.size ≤ h'.objs.size := by rw [hsz]; exact Nat.le_add_right _ _
  have hc3 : X.A.in1.in1.in1.handled = none := I1.ok.hd hc
  have D1 := k1.draws (prog := X.prog) (w := X.w) (A := X.A.in1.in1.in1) hc3 s1.heap.objs.size a (Nat.ne_of_lt la) is1.toArray
  have D2 := k2.draws (prog := X.prog) (w := X.w) (A := X.A.in1.in1.in1) hc3 (s1.heap.objs.size + 1) b (Nat.ne_of_lt (Nat.lt_succ_of_lt lb)) is2.toArray
  refine SbZ.zl_call (s := { s1 with heap := h' }) (zip_sep2 (N := s1.heap.objs.size) (fp1 := [a]) (fp2 := [b]) (by simpa using la) (by simpa using lb)) D1 D2 (by rw [l1, l2]; exact Nat.le_trans (Nat.min_le_left _ _) z1) hz hI hO ⟨k1.it0 g1, k1.at_ sq1 fun o q => hk a o q⟩ ⟨k2.it0 g2, k2.at_ sq2 fun o q => hk b o q⟩
    (fun c hc => ?_) (fun c hc => ?_) fun h2 tk acc c kp hS hsz2 pr ri => ?_
  · have : c = s1.heap.objs.size ∨ c = a := by simpa using hc
    show c < h'.objs.size
    rw [hsz]
    rcases this with e | e <;> rw [e]
    · exact Nat.lt_add_of_pos_right (by decide)
    · exact Nat.lt_of_lt_of_le la (Nat.le_add_right _ _)
  · have : c = s1.heap.objs.size + 1 ∨ c = b := by simpa using hc
    show c < h'.objs.size
    rw [hsz]
    rcases this with e | e <;> rw [e]
    · exact Nat.add_lt_add_left (by decide) _
    · exact Nat.lt_of_lt_of_le lb (Nat.le_add_right _ _)
  have hsz2 : acc.size = min xv.length yv.length := by rw [hsz2, l1, l2]
  have hk2 : ∀ b o, s1.heap.get? b = some o → h2.get? b = some o := fun b o e => by
    have lt := Heap.lt_size e
    exact kp b o (Nat.ne_of_lt (Nat.lt_of_lt_of_le lt (Nat.le_add_right _ _))) (Nat.ne_of_lt (Nat.lt_of_lt_of_le lt (Nat.le_add_right _ _))) (Nat.ne_of_lt lt) (Nat.ne_of_lt (Nat.lt_of_lt_of_le lt (Nat.le_add_right _ _))) (hk b o e)
  obtain ⟨as, eas⟩ := refs_of acc.toList fun v hv => by
    obtain ⟨j, hj⟩ := List.getElem?_of_mem hv
    obtain ⟨T, _, _, e, _⟩ := pr j v (by rw [← Array.getElem?_toList]; exact hj)
    exact ⟨T, e⟩
  have lenA : as.length = min xv.length yv.length := by
    have := congrArg List.length eas
    rw [List.length_map, Array.length_toList, hsz2] at this
    exact this.symm
  have atA : ∀ {j : Nat} {T : Addr}, as[j]? = some T → acc[j]? = some (.ref T) := fun {j T} e => by
    rw [← Array.getElem?_toList, eas, List.getElem?_map, e]
    rfl
  have nd : as.Nodup := by
    rw [List.nodup_iff_pairwise_ne, List.pairwise_iff_getElem]
    intro i j hi hj hij e
    have := ri i j as[i] as[j] hij (atA (List.getElem?_eq_getElem hi)) (atA (List.getElem?_eq_getElem hj))
    exact absurd this (by rw [e]; exact Nat.lt_irrefl _)
  have above : ∀ T ∈ as, h'.objs.size < T := fun T hT => by
    obtain ⟨j, hj⟩ := List.getElem?_of_mem hT
    obtain ⟨T', _, _, e, l, _⟩ := pr j _ (atA hj)
    cases e
    exact l
  have lenV : as.length = ((xv.zip yv).map fun q => [q.1, q.2]).length := by rw [List.length_map, List.length_zip, lenA]
  have vsAt : ∀ {j : Nat} {v : List V}, ((xv.zip yv).map fun q => [q.1, q.2])[j]? = some v → ∃ c d, xv[j]? = some c ∧ yv[j]? = some d ∧ v = [c, d] := fun {j v} e => by
    rw [List.getElem?_map] at e
    obtain ⟨⟨c, d⟩, e1, e2⟩ := Option.map_eq_some_iff.mp e
    obtain ⟨e3, e4⟩ := List.getElem?_zip_eq_some.mp e1
    exact ⟨c, d, e3, e4, e2.symm⟩
  have J := lz_laid (tk := tk) (L := h'.objs.size) I1 hk2 hN hS eas lenV (by rw [lenA]; exact Nat.le_trans (Nat.min_le_left _ _) z1) nd above fun j T v e1 e2 => by
    obtain ⟨c, d, e3, e4, rfl⟩ := vsAt e2
    obtain ⟨T', x, y, e5, _, px, py, ht⟩ := pr j _ (atA e1)
    cases e5
    obtain ⟨c', f1, g1⟩ := paired_pt (i := j) rv1 (by simpa using px)
    obtain ⟨d', f2, g2⟩ := paired_pt (i := j) rv2 (by simpa using py)
    rw [e3] at f1
    rw [e4] at f2
    cases f1
    cases f2
    exact ⟨by show 2 ≤ sizeLine; decide, [x, y], .cons g1 (.cons g2 .nil), ht⟩
  have new : ∀ T ∈ as, W.H T = none := fun T hT => I1.hok.fresh (Nat.le_of_lt (Nat.lt_of_le_of_lt hN (above T hT)))
  have af1 := af_fzZ as ((xv.zip yv).map fun q => [q.1, q.2]) W rh nd new
  have nL : (W.fzZ as ((xv.zip yv).map fun q => [q.1, q.2])).H h'.objs.size = none := by
    rw [fzZ_H, putZ_off as _ _ (fun z => Nat.lt_irrefl _ (above _ z))]
    exact I1.hok.fresh hN
  have rs : RelPs E (W.fzZ as ((xv.zip yv).map fun q => [q.1, q.2])) (Ev.zipP xs ys) (as.map V.ref) := by
    refine relPs_of (by rw [List.length_map, lenA, zipP_len, rs1.length, rs2.length]) fun j p e => ?_
    obtain ⟨c, d, hc', hd, rfl⟩ := zipP_get xs ys j p e
    obtain ⟨c', e1, r1⟩ := (RelPs.mono af1.ex rs1).get hc'
    obtain ⟨d', e2, r2⟩ := (RelPs.mono af1.ex rs2).get hd
    have hj : j < as.length := by
      rw [lenA]
      have h1 := (List.getElem?_eq_some_iff.mp e1).1
      have h2 := (List.getElem?_eq_some_iff.mp e2).1
      omega
    have ea : as[j]? = some as[j] := List.getElem?_eq_getElem hj
    refine ⟨.ref as[j], by rw [List.getElem?_map, ea]; rfl, as[j], [c', d'], rfl, fzZ_F as _ W j _ lenV ea, ?_, c', [d'], rfl, r1, d', [], rfl, r2, rfl⟩
    rw [fzZ_H]
    refine putZ_at as _ _ j _ _ nd ea ?_
    rw [List.getElem?_map, show (xv.zip yv)[j]? = some (c', d') from List.getElem?_zip_eq_some.mpr ⟨e1, e2⟩]
    rfl
  have fin := k _ (af1.trans (af_new (o := .lst (as.map V.ref)) af1.rel nL)) (.ref h'.objs.size) (new_lst af1.rel nL rs)
  refine ⟨.ref h'.objs.size, _, J, rfl, ?_⟩
  have eH : (Wd.fz (W.fzZ as ((xv.zip yv).map fun q => [q.1, q.2])) h'.objs.size (.lst (as.map V.ref))).H = upd (putZ W.H as ((xv.zip yv).map fun q => [q.1, q.2])) h'.objs.size (.lst (as.map V.ref)) := by
    show upd (W.fzZ as _).H _ _ = _
    rw [fzZ_H]
  rw [← eH]
  exact fin⟩
end
end Sb
set_option Elab.async false
set_option linter.all false
set_option autoImplicit false
set_option maxRecDepth 100000
set_option maxHeartbeats 4000000
/-! # Th: raise; a try whose clauses are never asked; the law's own try around a lambda -/
namespace Sb
open PySem PySem.Spec
open PyProof.Rows hiding St
open L2 (V Hp HO upd upd_same upd_ne VK TE TT TA TS Ends WX XK PE PT PA PS PSs Inv OpR CallR SqL SqT Dp Sp Room RelV EP FnOk Mk Binds Vals PassesAt)
open SbT (HdL wManyA HdsA ExtP)
open Ev (PV Val MO Hh Sg Exc Res SR)
section
variable {E : En} {X : L2.Cx} {Wx : WX} {C : Ev.Call} {σ' : L2.St} {H : Hp} {k f : Nat} {W W1 W2 W' : Wd} {h h1 h2 h' : Hh}
/-! ### pieces that are never reached -/
theorem te_never {e : Expr} : PEv E X Wx C e .nil := pe_weak (t := fun _ _ _ => False) ⟨fun _ _ _ _ _ _ q => q.elim⟩ fun σ' H Q ⟨W, σ, h, _, _, _, g⟩ => by
  unfold Ev.evE at g
  exact g
theorem tt_never {e : Expr} : PTv E X Wx C e .nil := pt_weak (t := fun _ _ _ => False) ⟨fun _ _ _ _ _ _ q => q.elim⟩ fun σ' H Q ⟨W, σ, h, _, _, _, g⟩ => by
  unfold Ev.evE at g
  exact g
theorem tw_never {e : Expr} : PWv E X Wx C e .nil := ptw_weak (t := fun _ _ _ => False) ⟨fun _ _ _ _ _ _ _ q => q.elim⟩ fun σ' H Q ⟨W, σ, h, _, _, _, g⟩ => by
  unfold Ev.evE at g
  exact g
theorem tss_never {s : List Stmt} : PSsv E X Wx C s .hnil := pss_weak (t := fun _ _ _ => False) ⟨fun _ _ _ _ _ _ q => q.elim⟩ fun D σ' H ⟨W, σ, h, _, _, _, g⟩ => by
  unfold Ev.exS at g
  exact g
/-! ### raise -/
/-- an own exception without fields -/
structure RzK (E : En) (K : PySem.W.Frag) (c : Nat) : Prop where
  exc : PySem.W.excIn K (E.cad c) He.veBase "ValueError.__new__" = true
  kp : PySem.W.keepIn K (.ref (E.cad c)) = true
  sub : PySem.W.subIn K (.ref (E.cad c)) (.type "BaseException") = some true
  ty : PySem.W.typeIn K (.ref (E.cad c)) = some (.type "type")
def XfNil (P : Ev.Prog) (c : Nat) : Prop := ∃ D, P.clss[c]? = some D ∧ D.xfs = []
theorem ts_raise0 {c : Nat} {x m : Str} {j : Nat} {p p2 pos pos' : Pos} (hc : X.calm = true) (r : RzK E X.K c) (hx : XfNil E.P c) (hg : L2.Gl X x) (hm : X.mg x = some (.ref (E.cad c))) (tk : L2.Takes X Wx) (hdb : (x == ("__debug__" : Str)) = false := by decide) :
    PSv E X Wx C (.Raise (some (.Call (.Name x p) [.Constant (.str m) j p2] [] pos)) none pos') (.rais c .nil) := ps_weak (L2.ps_raise hc tk (L2.pmk_own F.excBase_ValueError r.exc hm r.kp (L2.raises_own r.sub r.ty) hg hdb)) fun D σ' H ⟨W, σ, h, e, rs, rh, g⟩ => by
  subst e
  obtain ⟨K, e1, e2⟩ := hx
  have g : GoS E W h (match E.P.clss[c]?, Ev.pures [] with
    | some K, some xs => (match Ev.xfields K.xfs xs with
      | some fs => .exc ⟨c, fs⟩ σ h
      | none => .bad 67)
    | _, _ => .bad 67) D Wx := g
  rw [e1] at g
  simp only [Ev.pures, e2, Ev.xfields] at g
  exact g W (Af.refl rh) σ' rs (.ref (E.cad c)) none ⟨rfl, .inl ⟨rfl, rfl⟩⟩
/-- an own exception with one field, stored by its own __init__ (the def at fI) -/
structure RzI (E : En) (K : PySem.W.Frag) (c f : Nat) (fI : Addr) : Prop where
  oex : L2.OexC K (E.cad c)
  no : PySem.W.findIn K (.ref (E.cad c)) (E.fnm f) = some none
  ini : PySem.W.findIn K (.ref (E.cad c)) "__init__" = some (some (.ref fI))
  ty : PySem.W.typeIn K (.ref fI) = some (.type "function")
def spI (E : En) (c f : Nat) : Sp := fun vs H Q _ => ∃ (a : Addr) (y : V), vs = [.ref a, y] ∧ H a = some (L2.exo a (E.cad c) none) ∧ ∀ dx, H dx = none → dx ≠ a → Q .non (upd (upd H dx (L2.exd dx [(E.fnm f, y)])) a (L2.exo a (E.cad c) (some dx)))
/-- its __init__ -/
theorem ini_ok {P : Program} {w : World} {K : PySem.W.Frag} {mg : Str → Option Value} {base : Heap} {c f : Nat} {fI : Addr} {x qual : Str} {params : Arguments} {scope : Scope} {kws : List (Str × V)} {fd : FuncData} {N ps : List Str} {sn fn' vn : Str} {p1 p2 p3 p4 : Pos}
    (F : L2.FunD K x qual params [.Assign [.Attribute (.Name sn p1) fn' p2] (.Name vn p3) p4] scope [] kws fI fd) (S : L2.FnScope N ps scope) (T : RzI E K c f fI) (hf : E.fnm f = fn') (hN : N = [sn, vn]) (hp : ps = [sn, vn]) (h1 : L2.Vis scope sn) (h2 : L2.Vis scope vn)
    (d1 : (sn == ("__debug__" : Str)) = false := by decide) (d2 : (vn == ("__debug__" : Str)) = false := by decide) (d3 : (sn == ("__classdict__" : Str)) = false := by decide) (d4 : (vn == ("__classdict__" : Str)) = false := by decide) : FnOk P w K mg base L2.CX0 1 fI fd ps (spI E c f) := by
  subst hf hN hp
  refine F.ok S (fun vs H Q Ex ⟨a, y, e, _⟩ => by rw [e]; rfl) fun cdv A outer s H vs Q Ex hr ⟨a, y, e, e1, q⟩ => ⟨_, L2.pss_one (L2.ps_ost (L2.pe_var (i := 0) rfl h1 d1 d3) (L2.pe_var (i := 1) rfl h2 d2 d4)), ?_⟩
  subst e
  exact ⟨y, rfl, .ref a, rfl, a, E.cad c, rfl, T.oex, T.no, .inl ⟨e1, q⟩⟩
theorem ts_raise1 {c f : Nat} {fI : Addr} {fd : FuncData} {ps : List Str} {x : Str} {e : Expr} {ce : Ev.CE} {p pos pos' : Pos} (hc : X.calm = true) (T : RzI E X.K c f fI) (hx : ∃ D, E.P.clss[c]? = some D ∧ D.xfs = [f]) (F1 : FnOk X.prog X.w X.K X.mg X.base L2.CX0 1 fI fd ps (spI E c f)) (hb : Binds X.K fd ps []) (hr : Room 2 X.A)
    (hg : L2.Gl X x) (hm : X.mg x = some (.ref (E.cad c))) (tk : L2.Takes X Wx) (he : PEv E X Wx C e ce) (hdb : (x == ("__debug__" : Str)) = false := by decide)
    (hst : starEach [e] X.env = (false, eval e X.env) :: starEach [] X.env := by rfl) : PSv E X Wx C (.Raise (some (.Call (.Name x p) [e] [] pos)) none pos') (.rais c (.cons ce .nil)) :=
  ps_weak (L2.ps_raise hc tk (L2.pmk_oex T.oex T.ini T.ty F1 hr hb .nil L2.pass0 hg hm (ta_cons he ta_nil hst) hdb hst rfl)) fun D σ' H t => by
    obtain ⟨K, e1, e2⟩ := hx
    refine (TRS.firstA (m := Ev.evA E.P C (.cons ce .nil)) (f := fun σ vs h => match E.P.clss[c]?, Ev.pures vs with
      | some K, some xs => (match Ev.xfields K.xfs xs with
        | some fs => .exc ⟨c, fs⟩ σ h
        | none => .bad 67)
      | _, _ => .bad 67) t).imp fun vs H1 ⟨W, σ, h, as, eH, rs, rh, rv, g⟩ => ?_
    subst eH
    rw [e1] at g
    cases z : Ev.pures as with
    | none => simp only [z] at g; exact g.elim
    | some xs =>
      simp only [z, e2] at g
      match xs, z, g with
      | [], _, g => exact g.elim
      | v :: w :: l, _, g => exact (show False from g).elim
      | [v], z, g =>
        obtain ⟨y, t', e3, r1, e4⟩ := pures_rel z rv
        cases e4
        subst e3
        refine ⟨Nat.le_of_ble_eq_true rfl, fun a na => ⟨a, y, rfl, upd_same, fun dx nd ne => ⟨rfl, dx, _, upd_same, by rw [upd_ne ne, upd_same], ?_, ?_⟩⟩⟩
        · rw [upd_ne ne] at nd
          exact nd
        · have nd' : W.H dx = none := by rw [upd_ne ne] at nd; exact nd
          have eh : upd (L2.del (upd (upd (upd W.H a (L2.exo a (E.cad c) none)) dx (L2.exd dx [(E.fnm f, y)])) a (L2.exo a (E.cad c) (some dx))) a) dx (.xd [(E.fnm f, y)]) = (W.fz dx (.xd [(E.fnm f, y)])).H := by
            funext b
            show _ = upd W.H dx (.xd [(E.fnm f, y)]) b
            by_cases hb : b = dx
            · subst hb
              rw [upd_same, upd_same]
            · rw [upd_ne hb, upd_ne hb]
              by_cases ha : b = a
              · subst ha
                rw [L2.del_same, na]
              · rw [L2.del_ne ha, upd_ne ha, upd_ne hb, upd_ne ha]
          have af := af_new (o := .xd [(E.fnm f, y)]) rh nd'
          have q := g _ af σ' (af.sg rs) (.ref (E.cad c)) (some dx) ⟨rfl, .inr ⟨dx, [(E.fnm f, y)], (fun z => nomatch z), rfl, .inr rfl, upd_same, y, [], rfl, af.pv r1, rfl⟩⟩
          rw [eh]
          exact q
/-! ### a try whose clauses are never asked -/
abbrev W0' : WX := fun _ _ _ _ => False
theorem ts_thru {body : List Stmt} {h0 : ExceptHandler} {hs : List ExceptHandler} {pos : Pos} {cb : Ev.CS} (hb : PSsv E X.nox W0' C body cb) : PSv E X Wx C (.Try body (h0 :: hs) [] [] pos) (.try_ cb .brk) := ps_weak (L2.ps_try_thru0 hb) fun D σ' H ⟨W, σ, h, e, rs, rh, g⟩ => by
  refine ⟨W, σ, h, e, rs, rh, ?_⟩
  have g : GoS E W h (match Ev.exS E.P C cb σ h with
    | .exc e σ h => Ev.exH E.P C .brk e σ h
    | r => r) D Wx := g
  cases q : Ev.exS E.P C cb σ h with
  | exc e σ1 h1 =>
    rw [q] at g
    have g : GoS E W h (.bad 69) D Wx := g
    exact g.elim
  | nx σ1 h1 => rw [q] at g; exact g
  | rt v h1 => rw [q] at g; exact g
  | bk σ1 h1 => rw [q] at g; exact g
  | ct σ1 h1 => rw [q] at g; exact g
  | bad w => rw [q] at g; exact g
end
end Sb
set_option Elab.async false
set_option linter.all false
set_option autoImplicit false
set_option maxRecDepth 100000
set_option maxHeartbeats 4000000
/-! # Ub: the law's own try around a lambda -/
namespace Sb
open PySem PySem.Spec
open PyProof.Rows hiding St
open L2 (V Hp HO upd upd_same upd_ne VK TE TT TA TS Ends WX XK PE PT PA PS PSs Inv OpR CallR SqL SqT Dp Sp Room RelV EP FnOk Mk Binds Vals PassesAt Zc)
open SbT (HdL wManyA HdsA ExtP)
open Ev (PV Val MO Hh Sg Exc Res SR)
/-- what is asked of the classes of exceptions -/
def ExmK (E : En) (K : PySem.W.Frag) : Prop := ∀ c d, Ev.isX E.P c = true → Ev.isX E.P d = true → PySem.W.exmOne K (.ref (E.cad c)) (.ref (E.cad d)) = some (Ev.isExc E.P c d)
/-- the field of a caught exception is read -/
structure XfK (E : En) (K : PySem.W.Frag) (c f : Nat) : Prop where
  ga : PySem.W.findIn K (.ref (E.cad c)) "__getattribute__" = some (some (.builtin "BaseException.__getattribute__"))
  gg : PySem.W.findIn K (.ref (E.cad c)) "__getattr__" = some none
  no : PySem.W.findIn K (.ref (E.cad c)) (E.fnm f) = some none
  sub : PySem.W.subIn K (.ref (E.cad c)) (.type "BaseException") = some true
  hd : PySem.W.hasDictIn K (E.cad c) = true
theorem pe_xfld {X : L2.Cx} {E : En} {c f : Nat} {a : Addr} {oe : Obj} {d : Option Addr} {pn : List (Addr × Obj)} {e : Expr} {te : TE} {nm : Str} {pos : Pos} (T : XfK E X.K c f) (hn : E.fnm f = nm) (hz : Zc (.ref (E.cad c)) d oe) (hf : ∃ vs, oe.data = .fields vs) (he : PE (X.suite a ((a, oe) :: pn)) e te)
    (hb : attributeBase e nm X.env (eval e X.env) = eval e X.env) :
    PE (X.suite a ((a, oe) :: pn)) (.Attribute e nm pos) (fun σ H Q => te σ H fun x H1 => x = .ref a ∧ ∃ (dd : Addr) (fs : List (Str × V)) (v : V), d = some dd ∧ H1 dd = some (.xd fs) ∧ fs.lookup nm = some v ∧ Q v H1) := by
  subst hn
  refine ⟨fun pins s σ H Q I h => L2.attr_of hb (L2.thn (he.run pins s σ H _ I h) fun u s1 ⟨x, H1, I1, rx, ex, dd, fs, v, ed, ea, l, q⟩ => ?_)⟩
  subst ex ed
  cases rx
  obtain ⟨ha, _⟩ := I1.pin (a, oe) (List.mem_append_left _ List.mem_cons_self)
  obtain ⟨vs, hd⟩ := hf
  obtain ⟨mA, hns, hr⟩ := I1.hok dd _ ea
  obtain ⟨od, ho, hl⟩ := L2.lookIn_ns hns
  obtain ⟨u, hu, ru⟩ := L2.RelO.some_of (v := v) (o := mA (E.fnm f)) (by rw [← l]; exact hr (E.fnm f))
  have J : PySem.W.InstAt s1.heap a oe (E.cad c) (some od) := ⟨ha, hz.1, by unfold PySem.W.notCls; rw [hd] <;> rfl, by rw [hz.2]; exact ho⟩
  exact HandSPX.exc_get I1.kIn J T.ga T.gg T.sub (PySem.W.findObj_own T.hd T.no rfl (by rw [hl, hu])) (L2.handed_of ru) ⟨v, H1, I1.tok _, ru, q⟩
/-- the clauses of the law's own try, and its words -/
inductive MetH (E : En) (X : L2.Cx) : List ExceptHandler → List (Nat × List Nat × Bool) → Prop
  | nil : MetH E X [] []
  | word {x : Str} {c : Nat} {s : Str} {w : List Nat} {j : Nat} {np p1 p2 p3 : Pos} {hds : List ExceptHandler} {l : List (Nat × List Nat × Bool)} (hx : Ev.isX E.P c = true) (hc : L2.Names X x (.ref (E.cad c))) (hw : s = St' w) (r : MetH E X hds l) :
      MetH E X (.ExceptHandler (some (.Name x np)) none [.Return (some (.Constant (.str s) j p1)) p2] p3 :: hds) ((c, w, false) :: l)
  | repr {x n fn : Str} {c i f : Nat} {s : Str} {w : List Nat} {j : Nat} {np p1 p2 p3 p4 p5 p6 p7 p8 : Pos} {hds : List ExceptHandler} {l : List (Nat × List Nat × Bool)} (hx : Ev.isX E.P c = true) (hxf : ∃ D, E.P.clss[c]? = some D ∧ D.xfs = [f]) (only : ∀ d, Ev.isX E.P d = true → Ev.isExc E.P d c = true → d = c) (T : XfK E X.K c f) (hf : E.fnm f = fn)
      (hc : L2.Names X x (.ref (E.cad c))) (hi : X.N[i]? = some n) (hln : X.env.kindOf n = some .local) (hg : L2.Gl X "repr") (hm : X.mg "repr" = none) (hw : s = St' w)
      (hd : (n == ("__debug__" : Str)) = false) (hcd : (n == ("__classdict__" : Str)) = false)
      (hb : attributeBase (.Name n p4) fn X.env (eval (.Name n p4) X.env) = eval (.Name n p4) X.env)
      (hs : starEach [.Attribute (.Name n p4) fn p5] X.env = (false, eval (.Attribute (.Name n p4) fn p5) X.env) :: starEach [] X.env)
      (r : MetH E X hds l) :
      MetH E X (.ExceptHandler (some (.Name x np)) (some n) [.Return (some (.BinOp (.Constant (.str s) j p1) .Add (.Call (.Name "repr" p2) [.Attribute (.Name n p4) fn p5] [] p3) p6)) p7] p8 :: hds) ((c, w, true) :: l)
section
variable {E : En} {X : L2.Cx} {Wx : WX} {C : Ev.Call} {σ' : L2.St} {H : Hp} {k f : Nat} {W W1 W2 W' : Wd} {h h1 h2 h' : Hh}
/-- what a clause's suite reads -/
def tsWord (w : List Nat) : Addr → Value → Option Addr → TS := fun _ _ _ D _ H => D.rt (.str (St' w)) H
def tsRepr (E : En) (c i f : Nat) (w : List Nat) : Addr → Value → Option Addr → TS := fun a cls d D σ H => cls = .ref (E.cad c) ∧ ∃ (W : Wd) (h : Hh) (dd : Addr) (fs : List (Str × V)) (v : PV) (y : V) (t : List Nat), W.H = H ∧ RelH E W h ∧ σ[i]? = some (some (.ref a)) ∧ d = some dd ∧ W.H dd = some (.xd fs) ∧ fs.lookup (E.fnm f) = some y ∧
  RelP E W v y ∧ Ev.reprP v = some t ∧ Ev.fits (w.length + t.length) = true ∧ ∀ W', Af E W h W' h → D.rt (.str (St' (w ++ t))) W'.H
theorem met_hds {hds : List ExceptHandler} {l : List (Nat × List Nat × Bool)} (no : NoOps E.P) (m : MetH E X hds l) : ∃ L : HdL, HdsA X hds L ∧ ∀ (K : PySem.W.Frag) (x : Exc) (w : PV) (W : Wd) (h : Hh) (Cc : Value) (d : Option Addr) (D : Ends) (σ' : L2.St), ExmK E K → Ev.isX E.P x.c = true → Ev.metW E.P l x = some w → RelH E W h → RelX E W x Cc d → (∀ W', Af E W h W' h → ∀ y, RelP E W' w y → D.rt y W'.H) → wManyA K W0' D L Cc d σ' W.H := by
  induction m with
  | nil => exact ⟨[], .nil, fun K x w W h Cc d D σ' _ _ e => by cases e⟩
  | @word x c s w j np p1 p2 p3 hds l hx hc hw r ih =>
    obtain ⟨L, h1, h2⟩ := ih
    refine ⟨(.ref (E.cad c), none, tsWord w) :: L, .cons hc (fun a oe cls d pn _ _ => ⟨fun pins s' σ H D I q => (L2.pss_one (L2.ps_ret (X := X.suite a ((a, oe) :: pn)) L2.pe_str)).run pins s' σ H D I (by rw [hw]; exact q)⟩) h1, fun K x w' W h Cc d D σ' ex ix e rh rx q => ?_⟩
    obtain ⟨e1, e2⟩ := id rx
    subst e1
    have e : (match Ev.isExc E.P x.c c with
      | true => some (PV.str w)
      | false => Ev.metW E.P l x) = some w' := e
    refine ⟨_, ex x.c c ix hx, fun hb a na _ => ?_, fun hb => ?_⟩
    · rw [hb] at e
      cases e
      exact q W (Af.refl rh) _ rfl
    · rw [hb] at e
      exact h2 K x w' W h _ d D σ' ex ix e rh rx q
  | @repr x n fn c i f s w j np p1 p2 p3 p4 p5 p6 p7 p8 hds l hx hxf only T hf hc hi hln hg hm hw hd hcd hb hs r ih =>
    obtain ⟨L, h1, h2⟩ := ih
    refine ⟨(.ref (E.cad c), some i, tsRepr E c i f w) :: L, .consAs hc hi hln (fun a oe cls d pn hz hfs => ⟨fun pins s' σ H D I ⟨ec, W, h, dd, fs, v, y, t, eH, rh, es, ed, e1, e2, rv, er, ef, q⟩ => ?_⟩) h1, fun K x w' W h Cc d D σ' ex ix e rh rx q => ?_⟩
    · subst ec eH
      have hx := pe_xfld (X := X) (pos := p5) T hf hz hfs (L2.pe_var (X := X.suite a ((a, oe) :: pn)) (pos := p4) (i := i) hi (.inl hln) hd hcd) hb
      have pr := L2.pss_one (L2.ps_ret (pos := p7) (L2.pe_op (pos := p6) (opAdd (X := X.suite a ((a, oe) :: pn)) (E := E) (Wx := W0') (σ' := σ) (C := fun _ _ _ => .bad 0) no) (L2.pe_str (x := s) (j := j) (pos := p1))
        (L2.pe_callB (X := X.suite a ((a, oe) :: pn)) (p := p2) (pos := p3) (cRepr (E := E) (Wx := W0') (σ' := σ) (C := fun _ _ _ => .bad 0)) hg hm rfl (L2.pa_cons hx L2.pa_nil hs) (by decide) (by decide) hs rfl)))
      refine pr.run pins s' σ W.H D I ⟨.ref a, es, rfl, dd, fs, y, ed, e1, by rw [← hf]; exact e2, W, h, [.p v], rfl, rh, ⟨y, [], rfl, rv, rfl⟩, ?_⟩
      have eb : Ev.bfV E.P (fun _ _ _ => .bad 0) .repr [.p v] h = .ok (.p (.str t)) h := by
        show Ev.ofO 21 ((Ev.reprP v).map PV.str) h = _
        rw [er]
        rfl
      rw [eb]
      intro W1 a1 z rz
      have rz : z = .str (St' t) := rz
      subst rz
      refine ⟨W1, h, .p (.str w), .p (.str t), rfl, a1.rel, by rw [hw]; rfl, rfl, ?_⟩
      have ea : Ev.binV E.P (fun _ _ _ => .bad 0) .add (.p (.str w)) (.p (.str t)) h = .ok (.p (.str (w ++ t))) h := by
        show Ev.ofO 16 (if Ev.fits (w.length + t.length) then some (PV.str (w ++ t)) else none) h = _
        rw [if_pos ef]
        rfl
      rw [ea]
      intro W2 a2 z rz
      have rz : z = .str (St' (w ++ t)) := rz
      subst rz
      exact q W2 (a1.trans a2)
    · obtain ⟨e1, e2⟩ := id rx
      subst e1
      have e : (match (generalizing := false) Ev.isExc E.P x.c c with
        | true => (match (generalizing := false) E.P.clss[c]?, x.fs with
          | some K, [(g, v)] => match (generalizing := false) K.xfs == [g] with
            | true => match (generalizing := false) Ev.reprP v with
              | some t => if Ev.fits (w.length + t.length) then some (PV.str (w ++ t)) else none
              | none => none
            | false => none
          | _, _ => none)
        | false => Ev.metW E.P l x) = some w' := e
      refine ⟨_, ex x.c c ix hx, fun hb' a na hl => ?_, fun hb' => ?_⟩
      · rw [hb'] at e
        have exc := only x.c ix hb'
        obtain ⟨D0, d1, d2⟩ := hxf
        obtain ⟨xc, xfs⟩ := x
        have exc : xc = c := exc
        subst exc
        have e : (match (generalizing := false) (some D0 : Option Ev.Cls), xfs with
          | some K, [(g, v)] => match (generalizing := false) K.xfs == [g] with
            | true => match (generalizing := false) Ev.reprP v with
              | some t => if Ev.fits (w.length + t.length) then some (PV.str (w ++ t)) else none
              | none => none
            | false => none
          | _, _ => none) = some w' := by rw [← d1]; exact e
        cases xfs with
        | nil => cases e
        | cons p rest =>
          obtain ⟨g, v⟩ := p
          cases rest with
          | cons _ _ => cases e
          | nil =>
            have e6 : (match (generalizing := false) ([f] == [g] : Bool) with
              | true => match (generalizing := false) Ev.reprP v with
                | some t => if Ev.fits (w.length + t.length) then some (PV.str (w ++ t)) else none
                | none => none
              | false => none) = some w' := by rw [← d2]; exact e
            clear e
            cases eg : ([f] == [g] : Bool) with
            | false => rw [eg] at e6; cases e6
            | true =>
              rw [eg] at e6
              have eg : f = g := by simpa using eg
              subst eg
              have e7 : (match (generalizing := false) Ev.reprP v with
                | some t => if Ev.fits (w.length + t.length) then some (PV.str (w ++ t)) else none
                | none => none) = some w' := e6
              clear e6
              cases er : Ev.reprP v with
              | none => rw [er] at e7; cases e7
              | some t =>
                rw [er] at e7
                have e8 : (if Ev.fits (w.length + t.length) then some (PV.str (w ++ t)) else none) = some w' := e7
                split at e8
                · rename_i ef
                  cases e8
                  rcases e2 with ⟨z, _⟩ | ⟨dd, fs, _, ed, _, hq, y, t', efs, rv, et⟩
                  · cases z
                  · cases et
                    subst ed efs
                    exact ⟨rfl, W, h, dd, _, v, y, t, rfl, rh, List.getElem?_set_self (hl i rfl), rfl, hq, by simp [List.lookup], rv, er, ef, fun W' a' => q W' a' _ rfl⟩
                · cases e8
      · rw [hb'] at e
        exact h2 K x w' W h _ d D σ' ex ix e rh rx q
/-- what the law's own try makes of the lambda's reading -/
def TTm (E : En) (fine : List Nat) : (XK → Hp → VK → Prop) → Hp → VK → Prop := fun tl H Q => ∃ Ech : XK, tl Ech H (fun _ H' => Q (.str (St' fine)) H') ∧ ∀ cls d H', Ech cls d H' → ∃ (W : Wd) (h : Hh) (x : Exc) (w : PV), W.H = H' ∧ RelH E W h ∧ RelX E W x cls d ∧ Ev.isX E.P x.c = true ∧ Ev.metW E.P E.P.met x = some w ∧ ∀ W', Af E W h W' h → ∀ y, RelP E W' w y → Q y W'.H
theorem met_gives {Ng : List Str} {x a : Str} {q : Str} {sg : Scope} {g : Addr} {cdg : Value} {fine : List Nat} {fs : Str} {h0 : ExceptHandler} {hds : List ExceptHandler} {j : Nat} {p1 p2 p3 p8 p9 p10 : Pos} (no : NoOps E.P) (ex : ExmK E X.K) (hf : fs = St' fine) (hNd : Ng.Nodup) (hpos : ∀ f : Addr, (L2.start Ng [V.ref f])[0]? = some (some (V.ref f)))
    (mh : ∀ (s : Shared) (H : Hp), MetH E (L2.cxOf L2.CX0 X.prog X.w X.K X.mg X.base Ng x sg g cdg X.A X.stack s H L2.E0).nox (h0 :: hds) E.P.met) :
    LamX.GivesTo X Ng x sg g cdg [.Try [.Expr (.Call (.Name a p1) [] [] p2) p3] (h0 :: hds) [] [] p8, .Return (some (.Constant (.str fs) j p9)) p10] a q (TTm E fine) := by
  intro f c' s H Q tl act hc ⟨Ech, h1, h2⟩
  obtain ⟨L, k1, k2⟩ := met_hds no (mh s H)
  refine ⟨_, L2.pss_cons (SbT.ps_try_manyA (X := (L2.cxOf L2.CX0 X.prog X.w X.K X.mg X.base Ng x sg g cdg X.A X.stack s H L2.E0).nox) (Wout := W0') rfl rfl hNd LamX.takes0
      (tb := fun W D σ H => ∃ Ec : XK, (∀ cls d σ' H', Ec cls d H' → W cls d σ' H') ∧ σ[0]? = some (some (.ref f)) ∧ H c' = some (LamX.CodeO c' q) ∧ tl Ec H (fun _ H' => D.nx σ H')) (fun W pn xe tk _ => ?_) k1) (L2.pss_one (L2.ps_ret L2.pe_str)), ?_⟩
  · refine ⟨fun pins s' σ H' D I ⟨Ec, hW, e1, e2, e3⟩ => ?_⟩
    exact (L2.pss_one (L2.ps_expr (act W pn xe Ec p1 p2 tk hW) rfl)).run pins s' σ H' D I ⟨e1, e2, e3⟩
  · refine ⟨Ech, fun cls d σ' H' he => ?_, hpos f, hc, by rw [hf]; exact h1⟩
    obtain ⟨W, h, x, w, e1, rh, rx, ix, e2, q⟩ := h2 cls d H' he
    subst e1
    exact k2 X.K x w W h cls d _ σ' ex ix e2 rh rx q
theorem af_extP {P : Addr} {q : Str} {H1 : Hp} (rh : RelH E W h) (hP : (P, q) ∈ E.T) (x : ExtP P W.H H1) (t : LamX.Tabs E.T H1) : Af E W h ⟨H1, W.F, W.ρ⟩ h := by
  have nP : ∀ {a : Addr} {o : HO}, W.H a = some o → (∀ ps, o ≠ .tbl ps) → a ≠ P := fun {a o} e n z => by
    obtain ⟨ps, h1⟩ := tab_at rh.tab hP
    have h1 : W.H P = some (.tbl ps) := h1
    rw [z, h1] at e
    cases e
    exact n ps rfl
  have ex : Ex W ⟨H1, W.F, W.ρ⟩ := ⟨fun b hb => ⟨hb, by
    obtain ⟨o, e⟩ := rh.frz b hb
    show H1 b = W.H b
    rw [e]
    exact x.keep b o e fun z => rh.tab.2 _ hP (by rw [← z]; exact hb)⟩⟩
  have dom : ∀ a o, W.H a = some o → ∃ o', H1 a = some o' := fun a o e => by
    by_cases hz : a = P
    · subst hz
      exact x.at_ o e
    · exact ⟨o, x.keep a o e hz⟩
  refine ⟨⟨⟨t, rh.tab.2⟩, fun b hb => ?_, fun i o e => ?_, rh.out, rh.inj⟩, Nat.le_refl _, fun _ _ => rfl, ex, fun a o e _ nt => x.keep a o e (nP e nt), fun _ hb => .inl hb, dom, fun i u _ e => ⟨u, e⟩, fun i u _ e => ⟨u, e⟩, fun i u hl e => absurd (getR_lt e) (Nat.not_lt.mpr hl)⟩
  · obtain ⟨o, e⟩ := rh.frz b hb
    exact dom b o e
  · obtain ⟨ob, e1⟩ := (rh.live i o e).some
    exact (rh.live i o e).mono ex (Nat.le_refl _) (fun _ _ => rfl) ((x.keep _ _ e1 (nP e1 ((rh.live i o e).nt e1).1)).trans e1.symm)
/-- x(lambda: body), x the law's own try -/
theorem te_met {x a : Str} {g c P : Addr} {kk : Nat} {pg : Arguments} {sg : Scope} {fd : FuncData} {Ng : List Str} {fine : List Nat} {fs : Str} {h0 : ExceptHandler} {hds : List ExceptHandler} {j : Nat} {p1 p2 p3 p8 p9 p10 : Pos}
    {params : Arguments} {body : Expr} {scope : Scope} {ce : Ev.CE} {p lpos pos : Pos} (no : NoOps E.P) (ex : ExmK E X.K) (hf : fs = St' fine) (hfine : E.P.metF = fine)
    (F : L2.FunD X.K x x pg [.Try [.Expr (.Call (.Name a p1) [] [] p2) p3] (h0 :: hds) [] [] p8, .Return (some (.Constant (.str fs) j p9)) p10] sg [] [] g fd)
    (hbn : ∀ (kV doc pm : Value) (an : Option Addr) (cdv ct : Value) (us : List Value), us.length = [a].length → bindArgs (PySem.W.fnOf x x pg [.Try [.Expr (.Call (.Name a p1) [] [] p2) p3] (h0 :: hds) [] [] p8, .Return (some (.Constant (.str fs) j p9)) p10] sg .none kV doc pm an cdv ct) ⟨us, []⟩ = pure ([a].zip us))
    (Sg : L2.FnScope Ng [a] sg) (hNg : Ng[0]? = some a) (hva : L2.Vis sg a) (hpos : ∀ f : Addr, (L2.start Ng [V.ref f])[0]? = some (some (V.ref f)))
    (mh : ∀ (cdg : Value) (s : Shared) (H : Hp), MetH E (L2.cxOf L2.CX0 X.prog X.w X.K X.mg X.base Ng x sg g cdg X.A X.stack s H L2.E0).nox (h0 :: hds) E.P.met)
    (hg : L2.Gl X x) (hm : X.mg x = some (.ref g)) (TB : LamX.TabB X.base X.mg c P) (hcode : X.env.code = .ref c) (hmT : (P, X.env.qual ++ "<lambda>") ∈ E.T) (hu : ∀ p ∈ E.T, p.1 = P → p.2 = X.env.qual ++ "<lambda>") (hr : Room (kk + 2) X.A) (L : LamX.LamS X.env.scope scope) (hdef : defaultsOf params X.env = ([], []))
    (hbind : ∀ (q : Str) (cl : List (Str × Addr)) (pm cv ctv : Value), bindArgs (PySem.W.kla_fn "<lambda>" q params body scope cl pm cv ctv) ⟨[], []⟩ = pure [])
    (hbody : ∀ (A : Around) (outer : List Env) (s : Shared) (H : Hp) (Ex : XK) (f c' : Addr), Room kk (A.deeper (LamX.lamEnv X scope s.heap.objs.size f c')) → PEv E (LamX.lamCx X A outer s H Ex scope f c') (fun C d _ H => Ex C d H) C body ce)
    (hdb : (x == ("__debug__" : Str)) = false := by decide) (hd : (a == ("__debug__" : Str)) = false := by decide) (hcd : (a == ("__classdict__" : Str)) = false := by decide) :
    PEv E X Wx C (.Call (.Name x p) [.Lambda params body scope lpos] [] pos) (.met ce) := by
  obtain ⟨oc, od, dV, kV, doc, pm, an, cdv, ct, osl, rfl, lk, hcd', hD, _⟩ := F.ex
  have hb : Binds X.K (PySem.W.fnOf x x pg [.Try [.Expr (.Call (.Name a p1) [] [] p2) p3] (h0 :: hds) [] [] p8, .Return (some (.Constant (.str fs) j p9)) p10] sg dV kV doc pm an cdv ct) [a] [] := F.bindsN hbn
  refine pe_weak (SbT.pe_lamP (T := E.T) (P := P) (TT := TTm E fine) (t := fun Ex => TR E (fun C d _ H => Ex C d H) (Ev.evE E.P C ce)) hg hm F.kp lk hcd' hb Sg hNg hva (met_gives no ex hf Sg.nd hpos (mh cdv)) TB hcode hmT hu hr L hdef hbind hbody hdb hd hcd) fun σ' H Q ⟨W, σ, h, eH, rs, rh, g⟩ => ?_
  subst eH
  refine ⟨rh.tab.1, fun H1 xt T1 => ?_⟩
  have af := af_extP rh hmT xt T1
  have g : Go E W h (match Ev.evE E.P C ce σ h with
    | .ok _ h => .ok (.p (.str E.P.metF)) h
    | .exc x h => (match Ev.isX E.P x.c with
      | true => Ev.ofO 40 (Ev.metW E.P E.P.met x) h
      | false => .bad 40)
    | .bad w => .bad w) (KV E Q) (KX E Wx σ') := g
  refine ⟨fun cls d H' => ∃ (W2 : Wd) (h2 : Hh) (x : Exc), Ev.evE E.P C ce σ h = .exc x h2 ∧ Af E ⟨H1, W.F, W.ρ⟩ h W2 h2 ∧ W2.H = H' ∧ RelX E W2 x cls d, ⟨⟨H1, W.F, W.ρ⟩, σ, h, rfl, af.sg rs, af.rel, ?_⟩, fun cls d H' ⟨W2, h2, x, q, a2, e2, rx⟩ => ?_⟩
  · cases q : Ev.evE E.P C ce σ h with
    | bad w => rw [q] at g; exact g
    | ok v h2 =>
      rw [q] at g
      exact fun W2 a2 y _ => g W2 (af.trans a2) (.str (St' fine)) (by rw [hfine]; rfl)
    | exc x h2 => exact fun W2 a2 C d rx => ⟨W2, h2, x, rfl, a2, rfl, rx⟩
  · rw [q] at g
    cases ix : Ev.isX E.P x.c with
    | false => simp only [ix] at g; exact g.elim
    | true =>
      simp only [ix] at g
      cases e3 : Ev.metW E.P E.P.met x with
      | none => rw [e3] at g; exact g.elim
      | some w =>
        rw [e3] at g
        exact ⟨W2, h2, x, w, e2, a2.rel, rx, ix, e3, fun W' a' y ry => g W' (af.trans (a2.trans a')) y ry⟩
end
end Sb
set_option Elab.async false
set_option linter.all false
set_option autoImplicit false
set_option maxRecDepth 100000
set_option maxHeartbeats 2000000
/-! # Uc: small rules (-x, chains, [::-1], f-strings), dicts that are written, stores -/
namespace Sb
open PySem PySem.Spec
open PyProof.Rows hiding St
open L2 (V Hp HO upd upd_same upd_ne VK TE TT TA TS TI TG TGs Ends WX XK PE PT PA PS PSs PI PG PGs PTs Inv OpR SqL SqT Dp Sp Room It RelV)
open Ev (PV Val MO Hh Sg Exc Res SR)
section
variable {E : En} {X : L2.Cx} {Wx : WX} {C : Ev.Call} {σ' : L2.St} {H : Hp} {W W' W1 W2 W3 : Wd} {h h' h1 h2 h3 : Hh}
theorem pe_ty {x : Str} {T : String} {pos : Pos} (hg : L2.Gl X x) (hm : X.mg x = none) (hv : bootBuiltins x = some (.type T)) (hn : x ≠ "__name__" := by decide) (hd : (x == ("__debug__" : Str)) = false := by decide) : PE X (.Name x pos) (L2.tC (.ty T)) :=
  L2.pe_bltn hg hm hv rfl hn hd
theorem te_neg {a : Expr} {ca : Ev.CE} {pos : Pos} (ha : PEv E X Wx C a ca) : PEv E X Wx C (.UnaryOp .USub a pos) (.neg ca) :=
  pe_weak (L2.pe_un L2.un_neg ha) fun σ' H Q t =>
    (TR.one (ma := Ev.evE E.P C ca) (f := fun x h => match x with
      | .p (.int i) => .ok (.p (.int (-i))) h
      | _ => .bad 31) t).imp fun x H1 ⟨W, h, v, e, rh, rv, g⟩ => by
    subst e
    cases v with
    | r i => exact g.elim
    | p v =>
      cases v with
      | int i =>
        obtain rfl : x = .int i := rv
        exact ⟨i, rfl, g W (Af.refl rh) _ rfl⟩
      | _ => exact g.elim
/-- a test within a piece of work -/
theorem Go.tst {r : Res Val} {f : Bool → Hh → Res Val} {K : Val → Wd → Hh → Prop} {KX0 : Exc → Wd → Prop} (g : Go E W h (Ev.tst r f) K KX0) : Go E W h r (fun v W1 h1 => ∃ b, v = .p (.bl b) ∧ Go E W1 h1 (f b h1) K KX0) KX0 := by
  cases r with
  | bad w => exact g
  | exc ex h1 => exact g
  | ok v h1 =>
    cases v with
    | r i => exact g.elim
    | p v =>
      cases v with
      | bl c => exact fun W' a => ⟨c, rfl, Go.later a g⟩
      | _ => exact g.elim
theorem chn_read {o p : Ev.COp} {ca cb cc : Ev.CE} {Q : VK} (t : TR E Wx (Ev.evE E.P C (.chn o p ca cb cc)) σ' H Q) :
    L2.tChain (R2 E Wx σ' (Ev.cmpV E.P C o)) (R2 E Wx σ' (Ev.cmpV E.P C p)) (TR E Wx (Ev.evE E.P C ca)) (TR E Wx (Ev.evE E.P C cb)) (TR E Wx (Ev.evE E.P C cc)) σ' H Q := by
  refine (TR.first (m := Ev.evE E.P C ca) (f := fun σ x h => (Ev.evE E.P C cb σ h).bind fun y h => Ev.tst (Ev.cmpV E.P C o x y h) fun t h => match t with
    | true => (Ev.evE E.P C cc σ h).bind fun z h => Ev.cmpV E.P C p y z h
    | false => .ok (.p (.bl false)) h) t).imp fun x H1 ⟨W, σ, h, v, eH, r, rh, rx, g⟩ => ⟨W, σ, h, eH, r, rh, (Go.bind g).imp fun u W1 h1 a1 g1 y ry => ?_⟩
  refine ⟨W1, h1, v, u, rfl, a1.rel, a1.val rx, ry, (Go.tst g1).imp fun w W2 h2 a2 q z rz => ?_⟩
  obtain ⟨b, rfl, g2⟩ := q
  obtain rfl : z = .bl b := rz
  refine ⟨b, rfl, ?_⟩
  cases b with
  | true =>
    rw [if_pos rfl]
    exact ⟨W2, σ, h2, rfl, a2.sg (a1.sg r), a2.rel, (Go.bind g2).imp fun c W3 h3 a3 q3 z rz => ⟨W3, h3, u, c, rfl, a3.rel, a3.val (a2.val ry), rz, q3⟩⟩
  | false =>
    rw [if_neg Bool.false_ne_true]
    exact g2 W2 (Af.refl a2.rel) _ rfl
theorem te_chn {op op' : CmpOp} {o p : Ev.COp} {a b c : Expr} {ca cb cc : Ev.CE} {pos : Pos} (ho : ∀ σ', OpR X (compareOp op) (R2 E Wx σ' (Ev.cmpV E.P C o))) (hp : ∀ σ', OpR X (compareOp op') (R2 E Wx σ' (Ev.cmpV E.P C p))) (ha : PEv E X Wx C a ca) (hb : PEv E X Wx C b cb) (hc : PEv E X Wx C c cc)
    (hm : lastMarks [op, op'] [b, c] = false := by with_unfolding_all rfl) : PEv E X Wx C (.Compare a [op, op'] [b, c] pos) (.chn o p ca cb cc) :=
  ⟨fun pins s σ H Q I t => (L2.pe_chain (ho σ) (hp σ) ha hb hc hm).run pins s σ H Q I (chn_read t)⟩
theorem tt_chn {op op' : CmpOp} {o p : Ev.COp} {a b c : Expr} {ca cb cc : Ev.CE} {pos : Pos} (ho : ∀ σ', OpR X (compareOp op) (R2 E Wx σ' (Ev.cmpV E.P C o))) (hp : ∀ σ', OpR X (compareOp op') (R2 E Wx σ' (Ev.cmpV E.P C p))) (ha : PEv E X Wx C a ca) (hb : PEv E X Wx C b cb) (hc : PEv E X Wx C c cc)
    (hm : lastMarks [op, op'] [b, c] = false := by with_unfolding_all rfl) : PTv E X Wx C (.Compare a [op, op'] [b, c] pos) (.chn o p ca cb cc) :=
  ⟨fun pins s σ H Q I t => (L2.pt_chain (ho σ) (hp σ) ha hb hc hm).run pins s σ H Q I (chn_read t)⟩
theorem RelPs.reverse {W : Wd} : ∀ {xs : List PV} {ys : List V}, RelPs E W xs ys → RelPs E W xs.reverse ys.reverse
  | [], _, r => by cases r; exact rfl
  | x :: xs, _, ⟨y, t, e, h1, h2⟩ => by
    subst e
    rw [List.reverse_cons, List.reverse_cons]
    exact RelPs.append (RelPs.reverse h2) ⟨y, [], rfl, h1, rfl⟩
/-- xs[::-1], a list -/
theorem te_rv {e : Expr} {ce : Ev.CE} {k : Nat} {p1 p2 p3 pos : Pos} (he : PEv E X Wx C e ce) : PEv E X Wx C (.Subscript e (.Slice none none (some (.UnaryOp .USub (.Constant (.int 1) k p1) p2)) p3) pos) (.rv ce) :=
  pe_weak (L2.pe_revL he) fun σ' H Q t =>
    (TR.one (ma := Ev.evE E.P C ce) (f := fun x h => match Ev.vw h x with
      | some v => Ev.ofO 34 (Ev.rvP v) h
      | none => .bad 34) t).imp fun x H1 ⟨W, h, v, e, rh, rv, g⟩ => by
    subst e
    cases q : Ev.vw h v with
    | none => simp only [q] at g; exact g.elim
    | some p =>
      simp only [q] at g
      have rc := vw_rel rh q rv
      cases p with
      | lst xs =>
        obtain ⟨a, ys, rfl, e, rs⟩ := rc
        refine ⟨a, ys, rfl, SqL.of e, fun b hb => ?_⟩
        exact g _ (af_new rh hb) _ (new_lst rh hb (RelPs.reverse rs))
      | _ => exact g.elim
/-! ### f-strings -/
theorem fmtV_case {v : Val} {s : List Nat} (e : Ev.fmtV v = some s) : (v = .p (.str s) ∧ s.length ≤ sizeLine) ∨ ∃ i, v = .p (.int i) ∧ Ev.numT i = some s := by
  cases v with
  | r i => cases e
  | p v =>
    cases v with
    | str t =>
      have e : (if Ev.fits t.length = true then some t else none) = some s := e
      split at e
      · rename_i z
        cases e
        exact .inl ⟨rfl, fits_ok z⟩
      · cases e
    | int i => exact .inr ⟨i, rfl, e⟩
    | _ => cases e
/-- parts of an f-string -/
def PFv (E : En) (X : L2.Cx) (Wx : WX) (C : Ev.Call) (es : List Expr) (cs : Ev.CE) : Prop := ∃ ts, L2.PJ X es ts ∧ ∀ (acc : List Nat) (σ' : L2.St) (H : Hp) (Q : VK),
  (∃ (W : Wd) (σ : Sg) (h : Hh), W.H = H ∧ RelS E W h.length σ σ' ∧ RelH E W h ∧ Go E W h (Ev.evF E.P C cs σ acc h) (fun s W' h' => Q (.str (St' s)) W'.H) (KX E Wx σ')) → L2.tJs ts (St' acc) σ' H fun out H1 => Q (.str out) H1
theorem tf_nil : PFv E X Wx C [] .nil := ⟨[], .nil, fun acc σ' H Q ⟨W, σ, h, e, r, rh, g⟩ => by
  subst e
  exact g W (Af.refl rh)⟩
theorem St'_append (a b : List Nat) : St' a ++ St' b = St' (a ++ b) := by
  show (⟨a.toArray ++ b.toArray⟩ : Str) = ⟨(a ++ b).toArray⟩
  rw [List.append_toArray]
theorem St'_len (a : List Nat) : (St' a).length = a.length := by
  show a.toArray.size = _
  simp
theorem tf_step {e : Expr} {es : List Expr} {ce cs : Ev.CE} {t : TE} (he : PE X e t) (hr : PFv E X Wx C es cs)
    (ht : ∀ (σ' : L2.St) (H : Hp) (Q : VK), TR E Wx (Ev.evE E.P C ce) σ' H (fun x H1 => (∃ y : Str, x = .str y ∧ y.length ≤ sizeLine ∧ Q (.str y) H1) ∨ ∃ i : Int, x = .int i ∧ i.natAbs.log2 < 1920 ∧ Q (.str (toString i)) H1) → t σ' H Q) : PFv E X Wx C (e :: es) (.cons ce cs) := by
  obtain ⟨ts, h1, h2⟩ := hr
  refine ⟨t :: ts, .cons he h1, fun acc σ' H Q ⟨W, σ, h, eH, r, rh, g⟩ => ht σ' H _ ⟨W, σ, h, eH, r, rh, (Go.bind g).imp fun v W1 h1 a1 g1 x rx => ?_⟩⟩
  cases q : Ev.fmtV v with
  | none => simp only [q] at g1; exact g1.elim
  | some s =>
    simp only [q] at g1
    cases q2 : Ev.fits (acc.length + s.length) with
    | false => simp only [q2] at g1; exact g1.elim
    | true =>
      simp only [q2] at g1
      have hz := fits_ok q2
      have nx : (St' acc ++ St' s).length ≤ sizeLine ∧ L2.tJs ts (St' acc ++ St' s) σ' W1.H fun out H1 => Q (.str out) H1 := by
        rw [St'_append]
        refine ⟨by rw [St'_len, List.length_append]; exact hz, h2 (acc ++ s) σ' W1.H Q ⟨W1, σ, h1, rfl, a1.sg r, a1.rel, g1⟩⟩
      rcases fmtV_case q with ⟨rfl, hs⟩ | ⟨i, rfl, hn⟩
      · exact .inl ⟨St' s, rx, by rw [St'_len]; exact hs, St' s, rfl, nx.1, nx.2⟩
      · obtain ⟨n, rfl, hl, et⟩ := numT_of hn
        refine .inr ⟨n, rx, hl, _, rfl, ?_⟩
        have et : (Str.ofString (toString (n : Int))) = St' s := et
        rw [show ((toString (n : Int) : String) : Str) = St' s from et]
        exact nx
theorem tf_v {e : Expr} {es : List Expr} {ce cs : Ev.CE} {pos : Pos} (he : PEv E X Wx C e ce) (hr : PFv E X Wx C es cs) : PFv E X Wx C (.FormattedValue e (-1) none pos :: es) (.cons ce cs) :=
  tf_step (L2.pe_fmt he) hr fun _ _ _ t => t
theorem tf_c {x : Str} {s : List Nat} {es : List Expr} {cs : Ev.CE} {j pos} (hx : x = St' s) (hr : PFv E X Wx C es cs) : PFv E X Wx C (.Constant (.str x) j pos :: es) (.cons (.cst (.str s)) cs) :=
  tf_step (t := L2.tC (.str x)) L2.pe_str hr fun σ' H Q ⟨W, σ, h, e, r, rh, g⟩ => by
    subst e
    rcases g W (Af.refl rh) (.str (St' s)) rfl with ⟨y, e1, _, q⟩ | ⟨i, e1, _⟩
    · cases e1
      rw [hx]
      exact q
    · cases e1
theorem te_fs {v1 v2 : Expr} {rest : List Expr} {cs : Ev.CE} {pos : Pos} (h : PFv E X Wx C (v1 :: v2 :: rest) cs) : PEv E X Wx C (.JoinedStr (v1 :: v2 :: rest) pos) (.fs cs) := by
  obtain ⟨ts, h1, h2⟩ := h
  refine pe_weak (L2.pe_joined h1) fun σ' H Q ⟨W, σ, h, e, r, rh, g⟩ => ?_
  have := h2 [] σ' H Q ⟨W, σ, h, e, r, rh, (Go.bind g).imp fun s W1 h1 a1 g1 => g1 W1 (Af.refl a1.rel) _ rfl⟩
  exact this
end
end Sb
set_option Elab.async false
set_option linter.all false
set_option autoImplicit false
set_option maxRecDepth 100000
set_option maxHeartbeats 2000000
/-! # Ud: dicts that are written; stores -/
namespace Sb
open PySem PySem.Spec
open PyProof.Rows hiding St
open L2 (V Hp HO upd upd_same upd_ne VK TE TT TA TS TI TG TGs Ends WX XK PE PT PA PS PSs PI PG PGs PTs Inv OpR SqL SqT Dp Sp Room It RelV Mut)
open Ev (PV Val MO Hh Sg Exc Res SR)
section
variable {E : En} {W : Wd} {β : Type} {Rv : β → V → Prop}
theorem zip_keys : ∀ {kvs : List (PV × β)} {bs : List Addr} {ys : List V} {us : List Value}, RelGT E W Rv kvs bs ys → L2.Vals ys us → ((nks (Ev.keysP kvs)).zip (bs.zip us)).map (·.1) = nks (Ev.keysP kvs)
  | [], _, _, _, _, _ => rfl
  | q :: kvs, _, _, _, ⟨b, bt, y, yt, e1, e2, h1, h2, h3, h4⟩, rv => by
    subst e1 e2
    cases rv with
    | cons ru rt =>
      show nk q.1 :: ((nks (Ev.keysP kvs)).zip (bt.zip _)).map (·.1) = nk q.1 :: nks (Ev.keysP kvs)
      rw [zip_keys h4 rt]
theorem atKey_cons {k j : NestedKey} {p : Addr × Value} {xs : List (NestedKey × Addr × Value)} : atKey ((j, p) :: xs) k = if j = k then some p else atKey xs k := by
  unfold atKey
  rw [List.find?_cons]
  by_cases q : j = k
  · rw [if_pos q, decide_eq_true q]; rfl
  · rw [if_neg q, decide_eq_false q]
theorem putAt_id {k : NestedKey} {v : Value} : ∀ {xs : List (NestedKey × Addr × Value)}, atKey xs k = none → xs.map (putAt k v) = xs
  | [], _ => rfl
  | (j, p) :: xs, e => by
    rw [atKey_cons] at e
    by_cases q : j = k
    · rw [if_pos q] at e; cases e
    · rw [if_neg q] at e
      rw [List.map_cons, putAt_id e]
      have : putAt k v (j, p) = (j, p) := by unfold putAt; exact if_neg q
      rw [this]
theorem storedH_cons_ne {k j : NestedKey} {p : Addr × Value} {xs : List (NestedKey × Addr × Value)} {b : Addr} {v : Value} (q : ¬ j = k) : storedH ((j, p) :: xs) k b v = (j, p) :: storedH xs k b v := by
  unfold storedH
  rw [atKey_cons, if_neg q]
  by_cases z : (atKey xs k).isSome = true
  · rw [if_pos z, if_pos z, List.map_cons]
    have : putAt k v (j, p) = (j, p) := by unfold putAt; exact if_neg q
    rw [this]
  · rw [if_neg z, if_neg z]; rfl
/-- a dict of tuples is written -/
theorem gt_put {k : PV} {v : β} {y : V} {u : Value} {b : Addr} {n : Nat} (hk : tupK k = true) (rk : RelP E W k (.ref b)) (rv : Rv v y) (ru : RelV y u) : ∀ {kvs kvs' : List (PV × β)} {bs : List Addr} {ys : List V} {us : List Value}, RelGT E W Rv kvs bs ys → L2.Vals ys us → Ev.putP k v kvs = some kvs' →
    ∃ bs' ys' us', RelGT E W Rv kvs' bs' ys' ∧ L2.Vals ys' us' ∧ kvs' ≠ [] ∧ storedH ((nks (Ev.keysP kvs)).zip (bs.zip us)) (nk k) b u = (nks (Ev.keysP kvs')).zip (bs'.zip us')
  | [], kvs', _, _, us, r, r2, e => by
    obtain ⟨rfl, rfl⟩ := r
    cases r2
    cases e
    exact ⟨[b], [y], [u], ⟨b, [], y, [], rfl, rfl, hk, rk, rv, rfl, rfl⟩, .cons ru .nil, List.cons_ne_nil _ _, rfl⟩
  | (j, w) :: kvs, kvs', _, _, _, ⟨b0, bt, y0, yt, e1, e2, h1, h2, h3, h4⟩, r2, e => by
    subst e1 e2
    cases r2 with
    | @cons _ u0 _ ut r0 rt =>
      unfold Ev.putP at e
      have kn1 := (Bool.and_eq_true_iff.mp h1).2
      have kn2 := (Bool.and_eq_true_iff.mp hk).2
      cases q : Ev.eqP j k with
      | none => rw [q] at e; cases e
      | some c =>
        rw [q] at e
        have hc : decide (nk j = nk k) = c := (NestedKey.decide_eq _ _).trans (eqP_nk j k c 8 8 kn1 kn2 q)
        cases c with
        | true =>
          have hj : nk j = nk k := of_decide_eq_true hc
          cases q2 : Ev.lookP k kvs with
          | none => simp only [q2] at e; cases e
          | some o =>
            simp only [q2] at e
            cases o with
            | some _ => cases e
            | none =>
              cases e
              have nf := (gt_vals kn2 h4 rt q2).2 rfl
              refine ⟨b0 :: bt, y :: yt, u :: ut, ⟨b0, bt, y, yt, rfl, rfl, h1, h2, rv, h4⟩, .cons ru rt, List.cons_ne_nil _ _, ?_⟩
              show storedH ((nk j, (b0, u0)) :: (nks (Ev.keysP kvs)).zip (bt.zip ut)) (nk k) b u = (nk j, (b0, u)) :: (nks (Ev.keysP kvs)).zip (bt.zip ut)
              unfold storedH
              rw [atKey_cons, if_pos hj, if_pos (show (some (b0, u0)).isSome = true from rfl), List.map_cons, putAt_id nf]
              have : putAt (nk k) u (nk j, (b0, u0)) = (nk j, (b0, u)) := by unfold putAt; exact if_pos hj
              rw [this]
        | false =>
          have hj : ¬ nk j = nk k := of_decide_eq_false hc
          cases q2 : Ev.putP k v kvs with
          | none => simp only [q2] at e; cases e
          | some r =>
            simp only [q2] at e
            cases e
            obtain ⟨bs', ys', us', g1, g2, g3, g4⟩ := gt_put (n := n) hk rk rv ru h4 rt q2
            refine ⟨b0 :: bs', y0 :: ys', u0 :: us', ⟨b0, bs', y0, ys', rfl, rfl, h1, h2, h3, g1⟩, .cons r0 g2, List.cons_ne_nil _ _, ?_⟩
            show storedH ((nk j, (b0, u0)) :: (nks (Ev.keysP kvs)).zip (bt.zip ut)) (nk k) b u = (nk j, (b0, u0)) :: (nks (Ev.keysP r)).zip (bs'.zip us')
            rw [storedH_cons_ne hj, g4]
theorem any_look {k : PV} {z : L2.Key} (hk : keyF k = some z) {kvs : List (PV × β)} {ks : List (L2.Key × V)} (r : RelG Rv kvs ks) (e : Ev.lookP k kvs = some none) : (ks.any fun kv => decide (kv.1 = z)) = false := by
  have h := (look_flat hk r e).2 rfl
  rw [L2.valV_any, h]
  rfl
/-- a flat dict is written -/
theorem gk_put {k : PV} {z : L2.Key} {v : β} {y : V} (hk : keyF k = some z) (rv : Rv v y) : ∀ {kvs kvs' : List (PV × β)} {ks : List (L2.Key × V)}, RelG Rv kvs ks → Ev.putP k v kvs = some kvs' → RelG Rv kvs' (L2.putK ks z y)
  | [], _, _, r, e => by
    cases r
    cases e
    exact ⟨z, y, [], rfl, hk, rv, rfl⟩
  | (j, w) :: kvs, kvs', _, ⟨z0, y0, t, e1, h1, h2, h3⟩, e => by
    subst e1
    unfold Ev.putP at e
    rw [eqP_keyF h1 hk] at e
    by_cases q : z0 = z
    · rw [decide_eq_true q] at e
      cases q2 : Ev.lookP k kvs with
      | none => simp only [q2] at e; cases e
      | some o =>
        simp only [q2] at e
        cases o with
        | some _ => cases e
        | none =>
          cases e
          have na := any_look hk h3 q2
          have e2 : L2.putK ((z0, y0) :: t) z y = (z0, y) :: t := by
            unfold L2.putK
            rw [if_pos (by rw [List.any_cons, decide_eq_true q, Bool.true_or]), List.map_cons]
            have : t.map (fun kv => if kv.1 = z then (kv.1, y) else kv) = t := by
              rw [List.map_congr_left (g := id), List.map_id]
              intro p hp
              have := List.any_eq_false.mp na p hp
              exact if_neg (of_decide_eq_false (by simpa using this))
            rw [this, if_pos q]
          rw [e2]
          exact ⟨z0, y, t, rfl, h1, rv, h3⟩
    · rw [decide_eq_false q] at e
      cases q2 : Ev.putP k v kvs with
      | none => simp only [q2] at e; cases e
      | some r =>
        simp only [q2] at e
        cases e
        have ih := gk_put hk rv h3 q2
        have e2 : L2.putK ((z0, y0) :: t) z y = (z0, y0) :: L2.putK t z y := by
          unfold L2.putK
          rw [List.any_cons, decide_eq_false q, Bool.false_or]
          by_cases x : (t.any fun kv => decide (kv.1 = z)) = true
          · rw [if_pos x, if_pos x, List.map_cons, if_neg q]
          · rw [if_neg x, if_neg x]; rfl
        rw [e2]
        exact ⟨z0, y0, _, rfl, h1, h2, ih⟩
theorem RelG.toVKs {n : Nat} : ∀ {kvs : List (PV × Val)} {ks : List (L2.Key × V)}, RelG (RelVal E W n) kvs ks → RelVKs E W n kvs ks
  | [], _, r => r
  | (_, _) :: _, _, ⟨z, y, t, e, h1, h2, h3⟩ => ⟨z, y, t, e, h1, h2, RelG.toVKs h3⟩
theorem RelGT.toVTs {n : Nat} : ∀ {kvs : List (PV × Val)} {bs : List Addr} {ys : List V}, RelGT E W (RelVal E W n) kvs bs ys → RelVTs E W n kvs bs ys
  | [], _, _, r => r
  | (_, _) :: _, _, _, ⟨b, bt, y, yt, e1, e2, h1, h2, h3, h4⟩ => ⟨b, bt, y, yt, e1, e2, h1, h2, h3, RelGT.toVTs h4⟩
theorem putP_len {k : PV} {v : β} : ∀ {kvs kvs' : List (PV × β)}, Ev.putP k v kvs = some kvs' → kvs'.length ≤ kvs.length + 1
  | [], _, e => by cases e; exact Nat.le_refl _
  | (x, u) :: r, kvs', e => by
    unfold Ev.putP at e
    cases q : Ev.eqP x k with
    | none => rw [q] at e; cases e
    | some c =>
      rw [q] at e
      cases c with
      | true =>
        cases q2 : Ev.lookP k r with
        | none => simp only [q2] at e; cases e
        | some o =>
          simp only [q2] at e
          cases o with
          | some _ => cases e
          | none => cases e; simp
      | false =>
        cases q2 : Ev.putP k v r with
        | none => simp only [q2] at e; cases e
        | some r' =>
          simp only [q2] at e
          cases e
          have := putP_len q2
          simp; omega
theorem nks_len {kvs : List (PV × β)} : (nks (Ev.keysP kvs)).length = kvs.length := by
  induction kvs with
  | nil => rfl
  | cons q kvs ih =>
    show (nk q.1 :: nks (Ev.keysP kvs)).length = _
    rw [List.length_cons, List.length_cons, ih]
theorem dicN_ok {P : Program} {w : World} {H' : Hp} {g : Heap} {a : Addr} {kvs : List (PV × β)} {bs : List Addr} {ys : List V} {us : List Value} (h1 : (a == sysModules) = false) (hl : kvs.length ≤ sizeLine) (rv : L2.Vals ys us) (rg : RelGT E W Rv kvs bs ys)
    (d : g.DictOfH (nestedKind E.prog E.w) a ((nks (Ev.keysP kvs)).zip (bs.zip us))) : L2.ObjOk P w H' g a (DicN E a (nks (Ev.keysP kvs)) bs ys) := by
  obtain ⟨o, es, ep, ho, hx, hd, he, _, hn⟩ := d
  rw [zip_keys rg rv] at hn
  refine ⟨⟨h1, by rw [nks_len]; exact hl, us, rv, o, es, ep, ho, hx, hd, he, hn⟩, ⟨o, ho⟩, fun g1 g2 φ k => ?_⟩
  obtain ⟨a1, a2, us2, rv2, o2, es2, ep2, ho2, r⟩ := φ
  exact ⟨a1, a2, us2, rv2, o2, es2, ep2, k _ ho2, r⟩
theorem RelVals.set {n : Nat} {v : Val} {y : V} (rv : RelVal E W n v y) : ∀ {xs : List Val} {ys : List V} (m : Nat), RelVals E W n xs ys → RelVals E W n (xs.set m v) (ys.set m y)
  | [], _, m, r => by cases r; exact rfl
  | x :: xs, _, 0, ⟨z, t, e, h1, h2⟩ => by subst e; exact ⟨y, t, rfl, rv, h2⟩
  | x :: xs, _, m + 1, ⟨z, t, e, h1, h2⟩ => by subst e; exact ⟨z, t.set m y, rfl, h1, RelVals.set rv m h2⟩
end
/-- o[i] = v, by values -/
def rStore (E : En) : V → V → V → Hp → (Hp → Prop) → Prop := fun o i v H Q => ∃ (W : Wd) (h : Hh) (a j b : Val), W.H = H ∧ RelH E W h ∧ RelVal E W h.length a o ∧ RelVal E W h.length j i ∧ RelVal E W h.length b v ∧ Go E W h (Ev.setIx a j b h) (fun _ W' h' => Q W'.H) (fun _ _ => False)
section
variable {E : En} {X : L2.Cx}
theorem set_st (hp : E.prog = X.prog) (hw : E.w = X.w) (hu : X.A.units + 64 < cLine) : L2.PSet X (rStore E) := by
  intro pins s σ H o i v ov iv u Q I ro ri rv ⟨W, h, a, j, b, eH, rh, ra, rj, rb, g⟩
  subst eH
  cases a with
  | p a => exact g.elim
  | r k =>
    obtain ⟨hk, rfl⟩ := ra
    obtain rfl : ov = .ref (W.ρ k) := ro
    cases j with
    | r j => exact g.elim
    | p j =>
      unfold Ev.setIx at g
      simp only at g
      cases z : Ev.getW h k with
      | none => simp only [z] at g; exact g.elim
      | some ob =>
        simp only [z] at g
        have nt : ∀ {x : HO}, Ex W (W.chg k x) := fun {x} => ex_chg rh (getW_R z)
        cases ob with
        | lst xs =>
          cases j with
          | int n =>
            simp only at g
            cases z2 : Ev.place xs.length n with
            | none => simp only [z2] at g; exact g.elim
            | some m =>
              simp only [z2] at g
              obtain ⟨ys, e1, rs⟩ := rh.lst (getO_W z)
              obtain rfl : i = .int n := rj
              refine L2.set_list pins s σ W.H (.ref (W.ρ k)) (.int n) v _ _ u _ I rfl ri rv ⟨_, ys, n, m, rfl, rfl, e1, by rw [rs.length, ← place_ix]; exact z2, ?_⟩
              refine g _ (af_chg rh z ⟨_, upd_same, ?_⟩)
              exact (RelVals.set rb m rs).mono nt (Nat.le_refl _) fun _ _ => rfl
          | _ => exact g.elim
        | dic kvs =>
          simp only at g
          split at g
          · rename_i hc
            obtain ⟨hk1, hk2⟩ := Bool.and_eq_true_iff.mp hc
            have hlen : kvs.length < sizeLine := by rw [← sizeLine_max]; exact blt_t.mp hk2
            cases z2 : Ev.putP j b kvs with
            | none => simp only [z2] at g; exact g.elim
            | some kvs' =>
              simp only [z2] at g
              obtain ⟨o, e1, rd⟩ := rh.live k _ (getW_R z)
              have hl' : kvs'.length ≤ sizeLine := by have := putP_len z2; omega
              have tups : ∀ (bs : List Addr) (ys : List V) (us : List Value), tupK j = true → L2.Mut (some o) → RelGT E W (RelVal E W h.length) kvs bs ys → L2.Vals ys us → (W.ρ k == sysModules) = false → s.heap.DictOfH (nestedKind E.prog E.w) (W.ρ k) ((nks (Ev.keysP kvs)).zip (bs.zip us)) →
                  wpAny (model X.prog X.w) X.A (setItem (.ref (W.ρ k)) iv u) (fun _ s' => ∃ H', Inv X pins σ H' s' ∧ Q H') X.xe s := fun bs ys us tk mu rg vu h1 d => by
                obtain ⟨b0, rfl⟩ := tup_ref tk rj
                obtain rfl : iv = .ref b0 := ri
                have t := tup_is hp hw I tk rj
                obtain ⟨bs', ys', us', g1, g2, g3, g4⟩ := gt_put (n := 0) tk rj rb rv rg vu z2
                have lz : ((nks (Ev.keysP kvs)).zip (bs.zip us)).length ≤ sizeLine := by
                  have : ((nks (Ev.keysP kvs)).zip (bs.zip us)).length = (((nks (Ev.keysP kvs)).zip (bs.zip us)).map (·.1)).length := by rw [List.length_map]
                  rw [this, zip_keys rg vu, nks_len]
                  omega
                rw [hp, hw] at d t
                refine wpAny_setItem_heap (nest_room hu) t d (fun g' d' sb => ?_) lz
                rw [g4] at d'
                rw [← hp, ← hw] at d'
                have he : ∃ q, g'.get? (W.ρ k) = some q := by obtain ⟨o, _, _, ho, _⟩ := d'; exact ⟨o, ho⟩
                refine ⟨_, L2.d_write I (by rw [e1]; exact mu) sb he (dicN_ok h1 hl' g2 g1 d'), ?_⟩
                refine g _ (af_chg rh z ⟨_, upd_same, ?_⟩)
                exact RelD.mono nt (Nat.le_refl _) (fun _ _ => rfl) (.inr ⟨bs', ys', rfl, g3, RelGT.toVTs g1⟩)
              rcases rd.dv.key hk1 with ⟨zk, ks, hz, rfl, rg⟩ | ⟨tk, rfl, rfl⟩ | ⟨tk, bs, ys, rfl, rg⟩
              · obtain rfl := keyF_rel hz rj
                have lk : ks.length = kvs.length := by
                  have go : ∀ {kvs : List (PV × Val)} {ks : List (L2.Key × V)}, RelG (RelVal E W h.length) kvs ks → ks.length = kvs.length := by
                    intro kvs
                    induction kvs with
                    | nil => intro ks r; cases r; rfl
                    | cons q kvs ih =>
                      intro ks r
                      obtain ⟨_, _, t, e, _, _, r⟩ := r
                      subst e
                      simp [ih r]
                  exact go rg
                refine L2.d_setItem (by omega) I (L2.DPut.k e1 (by rw [lk]; exact hlen)) ri rv fun s' I' => ⟨_, I', ?_⟩
                refine g _ (af_chg rh z ⟨_, upd_same, ?_⟩)
                exact RelD.mono nt (Nat.le_refl _) (fun _ _ => rfl) (.inl ⟨_, rfl, RelG.toVKs (gk_put hz rb rg z2)⟩)
              · obtain ⟨h1, d⟩ := empty_H (E := E) I (.inl e1)
                exact tups [] [] [] tk True.intro ⟨rfl, rfl⟩ .nil h1 d
              · obtain ⟨h1, us, vu, d⟩ := dicN_at hp hw I (.inl e1) rg
                exact tups bs ys us tk True.intro rg vu h1 d
          · exact g.elim
        | _ => exact g.elim
end
section
variable {E : En} {X : L2.Cx} {Wx : WX} {C : Ev.Call} {σ' : L2.St} {H : Hp} {W W' W1 W2 W3 : Wd} {h h' h1 h2 h3 : Hh} {D : Ends}
/-- the rest of a row of targets -/
def TGt (E : En) (Wx : WX) (C : Ev.Call) (t : Ev.TG) : TGs := fun vs σ' H Q => ∃ (W : Wd) (σ : Sg) (h : Hh) (as : List Val) (D : Ends), W.H = H ∧ RelS E W h.length σ σ' ∧ RelH E W h ∧ RelVals E W h.length as vs ∧ (∀ σ1 H1, D.nx σ1 H1 → Q σ1 H1) ∧ GoS E W h (Ev.store E.P C t as σ h) D Wx
theorem GoS.srE {r : Res Val} {σ : Sg} {f : Val → Hh → SR} (g : GoS E W h (Ev.srE r σ f) D Wx) (rs : RelS E W h.length σ σ') : Go E W h r (fun v W1 h1 => GoS E W1 h1 (f v h1) D Wx) (KX E Wx σ') := by
  cases r with
  | ok v h1 => exact fun W' a => GoS.later a g
  | exc ex h1 => exact fun W' a Cc d rx => g W' a σ' (a.sg rs) Cc d rx
  | bad w => exact g
theorem pgs_weak {e : List Expr} {t t' : TGs} (h : PGs X e t) (k : ∀ vs σ H Q, t' vs σ H Q → t vs σ H Q) : PGs X e t' := ⟨fun pins s σ H vs us Q I r q => h.run pins s σ H vs us Q I r (k vs σ H Q q)⟩
theorem pg_weak {e : Expr} {t t' : TG} (h : PG X e t) (k : ∀ v σ H Q, t' v σ H Q → t v σ H Q) : PG X e t' := ⟨fun pins s σ H v u Q I r q => h.run pins s σ H v u Q I r (k v σ H Q q)⟩
theorem tgs_nil : PGs X [] (TGt E Wx C .nil) := pgs_weak L2.pgs_nil fun vs σ' H Q ⟨W, σ, h, as, D, eH, rs, rh, ra, k, g⟩ => by
  subst eH
  cases as with
  | nil => cases ra; exact ⟨rfl, k _ _ (GoS.nx rh rs g)⟩
  | cons a as => exact g.elim
theorem tgs_nm {i : Nat} {x : Str} {es : List Expr} {r : Ev.TG} {pos : Pos} (hN : X.N.Nodup) (hi : X.N[i]? = some x) (hx : L2.Loc X.env.scope x) (hr : PGs X es (TGt E Wx C r)) (hf : X.fn x = true ∨ X.env.scope.names.lookup x = some .local := by first | exact .inl rfl | exact .inr rfl | assumption)
    (hs : (assignEach (.Name x pos :: es) X.env).map (·.2) = assign (.Name x pos) X.env :: (assignEach es X.env).map (·.2) := by rfl) : PGs X (.Name x pos :: es) (TGt E Wx C (.nm i r)) :=
  pgs_weak (L2.pgs_cons (L2.pg_name hN hi hx hf) hr hs) fun vs σ' H Q ⟨W, σ, h, as, D, eH, rs, rh, ra, k, g⟩ => by
    cases as with
    | nil => exact g.elim
    | cons a as =>
      obtain ⟨v, t, e, r1, r2⟩ := ra
      exact ⟨v, t, e, W, σ.set i (some a), h, as, D, eH, rs.set i r1, rh, r2, k, g⟩
/-- o[i] = a value, then the rest -/
theorem ix_read {co ci : Ev.CE} {r : Ev.TG} {a : Val} {as : List Val} {v : V} {t : List V} {σ : Sg} {Q : L2.St → Hp → Prop} (rs : RelS E W h.length σ σ') (rh : RelH E W h) (ra : RelVal E W h.length a v) (rt : RelVals E W h.length as t) (k : ∀ σ1 H1, D.nx σ1 H1 → Q σ1 H1)
    (g : GoS E W h (Ev.store E.P C (.ix co ci r) (a :: as) σ h) D Wx) : L2.gSub (TR E Wx (Ev.evE E.P C co)) (TR E Wx (Ev.evE E.P C ci)) (rStore E) v σ' W.H (fun σ1 H1 => TGt E Wx C r t σ1 H1 Q) := by
  have g : GoS E W h (Ev.srE (Ev.evE E.P C co σ h) σ fun o h => Ev.srE (Ev.evE E.P C ci σ h) σ fun j h => Ev.srE (Ev.setIx o j a h) σ fun _ h => Ev.store E.P C r as σ h) D Wx := g
  refine ⟨W, σ, h, rfl, rs, rh, (GoS.srE g rs).imp fun o W1 h1 a1 g1 x rx => ?_⟩
  refine ⟨W1, σ, h1, rfl, a1.sg rs, a1.rel, (GoS.srE g1 (a1.sg rs)).imp fun j W2 h2 a2 g2 y ry => ?_⟩
  refine ⟨W2, h2, o, j, a, rfl, a2.rel, a2.val rx, ry, a2.val (a1.val ra), ?_⟩
  have g3 := GoS.srE g2 (a2.sg (a1.sg rs))
  cases q : Ev.setIx o j a h2 with
  | bad w => rw [q] at g3; exact g3
  | exc ex h3 =>
    exfalso
    unfold Ev.setIx at q
    repeat' split at q
    all_goals first | cases q | (simp only at q; repeat' split at q; all_goals cases q)
  | ok w h3 =>
    rw [q] at g3
    exact fun W3 a3 => ⟨W3, σ, h3, as, D, rfl, a3.sg (a2.sg (a1.sg rs)), a3.rel, a3.vals (a2.vals (a1.vals rt)), k, g3 W3 a3⟩
theorem tgs_ix {o i : Expr} {co ci : Ev.CE} {es : List Expr} {r : Ev.TG} {pos : Pos} (hp : E.prog = X.prog) (hw : E.w = X.w) (hu : X.A.units + 64 < cLine) (ho : PEv E X Wx C o co) (hi : PEv E X Wx C i ci) (hr : PGs X es (TGt E Wx C r))
    (ha : ∀ v, assign (.Subscript o i pos) X.env v = (do
      let ov ← holding [v] (eval o X.env)
      let iv ← holding [v, ov] (eval i X.env)
      standAt pos
      holding [v, ov, iv] (setItem ov iv v)
      release [v, ov, iv] []) := by intro _; rfl)
    (hs : (assignEach (.Subscript o i pos :: es) X.env).map (·.2) = assign (.Subscript o i pos) X.env :: (assignEach es X.env).map (·.2) := by rfl) : PGs X (.Subscript o i pos :: es) (TGt E Wx C (.ix co ci r)) :=
  pgs_weak (L2.pgs_cons (L2.pg_sub ho hi (set_st hp hw hu) ha) hr hs) fun vs σ' H Q ⟨W, σ, h, as, D, eH, rs, rh, ra, k, g⟩ => by
    cases as with
    | nil => exact g.elim
    | cons a as =>
      obtain ⟨v, t, e, r1, r2⟩ := ra
      subst eH
      exact ⟨v, t, e, ix_read rs rh r1 r2 k g⟩
theorem gSub_imp {mo mi : Sg → Hh → Res Val} {v : V} {Q Q' : L2.St → Hp → Prop} (g : L2.gSub (TR E Wx mo) (TR E Wx mi) (rStore E) v σ' H Q) (k : ∀ H1, Q σ' H1 → Q' σ' H1) : L2.gSub (TR E Wx mo) (TR E Wx mi) (rStore E) v σ' H Q' :=
  TR.imp g fun o H1 g1 => TR.imp g1 fun i H2 ⟨W, h, a, j, b, e, rh, ra, rj, rb, g⟩ => ⟨W, h, a, j, b, e, rh, ra, rj, rb, g.imp fun _ W' _ _ q => k W'.H q⟩
theorem tgt_nil {vs : List V} {Q : L2.St → Hp → Prop} (t : TGt E Wx C .nil vs σ' H Q) : Q σ' H := by
  obtain ⟨W, σ, h, as, D, eH, rs, rh, ra, k, g⟩ := t
  subst eH
  cases as with
  | nil => exact k _ _ (GoS.nx rh rs g)
  | cons a as => exact g.elim
/-- o[i] = e -/
theorem ts_setI {o i e : Expr} {co ci ce : Ev.CE} {pos tpos : Pos} (hp : E.prog = X.prog) (hw : E.w = X.w) (hu : X.A.units + 64 < cLine) (ho : PEv E X Wx C o co) (hi : PEv E X Wx C i ci) (he : PEv E X Wx C e ce)
    (ha : ∀ v, assign (.Subscript o i tpos) X.env v = (do
      let ov ← holding [v] (eval o X.env)
      let iv ← holding [v, ov] (eval i X.env)
      standAt tpos
      holding [v, ov, iv] (setItem ov iv v)
      release [v, ov, iv] []) := by intro _; rfl)
    (hs : swapsWithSole [.Subscript o i tpos] e pos.line X.env = pure false := by rfl) (hsw : swappedStores [.Subscript o i tpos] e X.env = pure none := by rfl)
    (h1 : (assignEach [.Subscript o i tpos] X.env).map (·.2) = [assign (.Subscript o i tpos) X.env] := by rfl) : PSv E X Wx C (.Assign [.Subscript o i tpos] e pos) (.asg (.ix co ci .nil) ce) :=
  ps_weak (L2.ps_asg he (L2.pg_sub ho hi (set_st hp hw hu) ha) hs hsw h1) fun D σ' H t =>
    (TRS.first (m := Ev.evE E.P C ce) (f := fun σ v h => Ev.store E.P C (.ix co ci .nil) [v] σ h) t).imp fun x H1 ⟨W, σ, h, v, e, rs, rh, rv, g⟩ => by
      subst e
      exact gSub_imp (ix_read (Q := D.nx) rs rh rv (as := []) (t := []) rfl (fun _ _ q => q) g) fun H1 t => tgt_nil t
/-! ### a, b, c = e -/
/-- names alone -/
def nmsT : Ev.TG → Option Nat
  | .nil => some 0
  | .nm _ r => (nmsT r).map (· + 1)
  | _ => none
theorem nms_len {P : Ev.Prog} : ∀ {t : Ev.TG} {n : Nat} {as : List Val} {σ : Sg} {h : Hh}, nmsT t = some n → (∃ w, Ev.store P C t as σ h = .bad w) ∨ as.length = n
  | .nil, n, [], σ, h, e => by cases e; exact .inr rfl
  | .nil, n, a :: as, σ, h, e => .inl ⟨60, rfl⟩
  | .nm i r, n, [], σ, h, e => .inl ⟨60, rfl⟩
  | .nm i r, n, a :: as, σ, h, e => by
    obtain ⟨m, e1, rfl⟩ := Option.map_eq_some_iff.mp (show (nmsT r).map (· + 1) = some n from e)
    rcases nms_len (P := P) (as := as) (σ := σ.set i (some a)) (h := h) e1 with ⟨w, q⟩ | q
    · exact .inl ⟨w, q⟩
    · exact .inr (by rw [List.length_cons, q])
  | .ix _ _ _, _, _, _, _, e => nomatch e
  | .fld _ _ _, _, _, _, _, e => nomatch e
theorem liftP_len : ∀ {ps : List PV}, (Ev.liftP ps).length = ps.length
  | [] => rfl
  | _ :: ps => by show (_ :: Ev.liftP ps).length = _; rw [List.length_cons, List.length_cons, liftP_len]
theorem ts_unp {es : List Expr} {e : Expr} {ce : Ev.CE} {t : Ev.TG} {n k : Nat} {pos tpos : Pos} (hc : X.calm = true) (ht : nmsT t = some n) (he : PEv E X Wx C e ce) (hg : PGs X es (TGt E Wx C t))
    (hn : (assignEach es X.env).length = n := by rfl) (hst : (assignEach es X.env).findIdx? (·.1) = none := by rfl)
    (hs : swapsWithSole [.Tuple es k tpos] e pos.line X.env = pure false := by rfl) (hsw : swappedStores [.Tuple es k tpos] e X.env = pure none := by rfl)
    (h1 : (assignEach [.Tuple es k tpos] X.env).map (·.2) = [assign (.Tuple es k tpos) X.env] := by rfl) : PSv E X Wx C (.Assign [.Tuple es k tpos] e pos) (.unp t ce) :=
  ps_weak (L2.ps_asg he (L2.pg_tup hc hg hn hst) hs hsw h1) fun D σ' H tr =>
    (TRS.first (m := Ev.evE E.P C ce) (f := fun σ v h => match Ev.vw h v with
      | some (.tup vs) => Ev.store E.P C t (Ev.liftP vs) σ h
      | _ => .bad 63) tr).imp fun x H1 ⟨W, σ, h, v, e, rs, rh, rv, g⟩ => by
      subst e
      cases q : Ev.vw h v with
      | none => simp only [q] at g; exact g.elim
      | some p =>
        simp only [q] at g
        have rc := vw_rel rh q rv
        cases p with
        | tup vs =>
          simp only at g
          obtain ⟨a, ys, rfl, hf, e, rp⟩ := rc
          rcases nms_len (C := C) (P := E.P) (as := Ev.liftP vs) (σ := σ) (h := h) ht with ⟨w, q⟩ | q
          · rw [q] at g; exact g.elim
          · refine ⟨a, ys, rfl, SqT.of e, ?_, W, σ, h, _, D, rfl, rs, rh, liftP_rel rp, fun _ _ q => q, g⟩
            rw [RelPs.length rp, ← liftP_len, q]
        | _ => exact g.elim
/-- a, b = x, y with two plain names -/
theorem ts_par {i j : Nat} {x y : Str} {a b : Expr} {ca cb : Ev.CE} {px py pt pos : Pos} {kt k2 pt2} (hc : X.calm = true) (hN : X.N.Nodup) (hi : X.N[i]? = some x) (hj : X.N[j]? = some y) (hij : i ≠ j)
    (hx : X.env.scope.names.lookup x = some .local) (hy : X.env.scope.names.lookup y = some .local) (ha : PAv E X Wx C [a, b] (.cons ca (.cons cb .nil)))
    (hw : swappedStores [.Tuple [.Name x px, .Name y py] kt pt] (.Tuple [a, b] k2 pt2) X.env = pure (some [x, y]))
    (hs : swapsWithSole [.Tuple [.Name x px, .Name y py] kt pt] (.Tuple [a, b] k2 pt2) pos.line X.env = pure false := by rfl) :
    PSv E X Wx C (.Assign [.Tuple [.Name x px, .Name y py] kt pt] (.Tuple [a, b] k2 pt2) pos) (.par (.nm i (.nm j .nil)) (.cons ca (.cons cb .nil))) :=
  ps_weak (L2.ps_par hc hN hi hj hij hx hy ha hw hs) fun D σ' H t =>
    (TRS.firstA (m := Ev.evA E.P C (.cons ca (.cons cb .nil))) (f := fun σ vs h => Ev.store E.P C (.nm i (.nm j .nil)) vs σ h) t).imp fun xs H1 ⟨W, σ, h, vs, e, rs, rh, rv, g⟩ => by
      subst e
      match vs, rv, g with
      | [v, w], ⟨x, _, e1, r1, y, _, e2, r2, e3⟩, g =>
        subst e1 e2 e3
        exact ⟨x, y, rfl, GoS.nx rh ((rs.set i r1).set j r2) g⟩
      | [], _, g => exact g.elim
      | [v], _, g => exact g.elim
      | v :: w :: z :: r, _, g => exact g.elim
end
end Sb
set_option Elab.async false
set_option linter.all false
set_option autoImplicit false
set_option maxRecDepth 100000
set_option maxHeartbeats 2000000
/-! # Ue: freezing; dict displays -/
namespace Sb
open PySem PySem.Spec
open PyProof.Rows hiding St
open L2 (V Hp HO upd upd_same upd_ne VK TE TT TA TS TI TG TGs Ends WX XK PE PT PA PS PSs PI PG PGs PTs Inv OpR SqL SqT Dp Sp Room It RelV Mut)
open Ev (PV Val MO Hh Sg Exc Res SR)
section
variable {E : En} {X : L2.Cx} {Wx : WX} {C : Ev.Call} {σ' : L2.St} {H : Hp} {W W' W1 W2 W3 : Wd} {h h' h1 h2 h3 : Hh} {D : Addr} {o : HO}
/-- locked for good -/
theorem pe_lockE {e : Expr} {t : TE} (he : PE X e t) : PE X e (fun σ H Q => t σ H fun x H1 => Q x H1 ∨ ∃ a u, x = .ref a ∧ H1 a = some u ∧ Mut (some u) ∧ ∀ od, Q x (upd H1 a (.frz od u))) :=
  ⟨fun pins s σ H Q I q => L2.thn (he.run pins s σ H _ I q) fun v s1 ⟨x, H1, I1, r1, q1⟩ => by
    rcases q1 with q1 | ⟨a, u, rfl, e, mu, q1⟩
    · exact ⟨x, H1, I1, r1, q1⟩
    · obtain ⟨od, I2⟩ := I1.lock e mu
      exact ⟨_, _, I2, r1, q1 od⟩⟩
theorem te_fz {e : Expr} {ce : Ev.CE} (he : PEv E X Wx C e ce) : PEv E X Wx C e (.fz ce) :=
  pe_weak (pe_lockE he) fun σ' H Q t =>
    (TR.one (ma := Ev.evE E.P C ce) (f := fun x h => match Ev.frz h x with
      | some (v, h') => .ok (.p v) h'
      | none => .bad 40) t).imp fun x H1 ⟨W, h, v, e, rh, rv, g⟩ => by
    subst e
    have g : Go E W h (match Ev.frz h v with
      | some (v, h') => .ok (.p v) h'
      | none => .bad 40) (KV E Q) (KX E Wx σ') := g
    cases v with
    | p v => exact .inl (g W (Af.refl rh) x rv)
    | r i =>
      unfold Ev.frz at g
      simp only at g
      obtain ⟨hi, rfl⟩ := rv
      cases z : Ev.getW h i with
      | none => simp only [z] at g; exact g.elim
      | some ob =>
        simp only [z] at g
        have fx : ∀ {H0 : Hp}, (∀ b, W.F b → H0 b = W.H b) → Ex W ⟨H0, fun b => W.F b ∨ b = W.ρ i, W.ρ⟩ := fun {H0} k => ⟨fun b hb => ⟨.inl hb, k b hb⟩⟩
        cases ob with
        | lst xs =>
          simp only at g
          cases z2 : Ev.pures xs with
          | none => simp only [z2] at g; exact g.elim
          | some vs =>
            simp only [z2] at g
            obtain ⟨ys, e1, rs⟩ := rh.lst (getO_W z)
            refine .inl (g ⟨W.H, fun b => W.F b ∨ b = W.ρ i, W.ρ⟩ (af_gone rh i (fun b hb => .inl hb) fun b hb => hb.elim .inl fun q => .inr ⟨q, _, getW_R z⟩) _ ?_)
            exact ⟨W.ρ i, ys, rfl, .inr rfl, e1, RelPs.mono (fx fun _ _ => rfl) (pures_rel z2 rs)⟩
        | dic kvs =>
          simp only at g
          cases z2 : Ev.pureKvs kvs with
          | none => simp only [z2] at g; exact g.elim
          | some vs =>
            simp only [z2] at g
            obtain ⟨o, e1, rd⟩ := rh.live i _ (getW_R z)
            refine .inr ⟨W.ρ i, o, rfl, e1, ?_, fun od => ?_⟩
            · rcases rd with ⟨ks, rfl, _⟩ | ⟨bs, ys, rfl, _⟩
              · exact True.intro
              · exact True.intro
            · have x1 : Ex W (W.chg i (.frz od o)) := ex_chg rh (getW_R z)
              have a1 : Af E W h (W.chg i (.frz od o)) (h.set i (some (.lck (.dic kvs)))) := af_chg rh z ⟨od, o, upd_same, rd.mono x1 (Nat.le_refl _) fun _ _ => rfl⟩
              have gr : Ev.getR (h.set i (some (.lck (.dic kvs)))) i = some (.lck (.dic kvs)) := by rw [getR_set, if_pos ⟨rfl, hi⟩]
              have a2 := af_gone (F := fun b => W.F b ∨ b = W.ρ i) a1.rel i (fun b hb => .inl hb) fun b hb => hb.elim .inl fun q => .inr ⟨q, _, gr⟩
              rw [List.set_set] at a2
              refine g _ (a1.trans a2) _ ?_
              refine ⟨W.ρ i, od, o, rfl, .inr rfl, upd_same, ?_⟩
              have x2 : Ex W ⟨(W.chg i (.frz od o)).H, fun b => W.F b ∨ b = W.ρ i, W.ρ⟩ := fx fun b hb => (x1.fro b hb).2
              rcases rd.pure z2 with ⟨ks, eo, r⟩ | ⟨bs, ys, eo, ne, r⟩
              · exact .inl ⟨ks, eo, RelKs.mono x2 r⟩
              · exact .inr ⟨bs, ys, eo, ne, RelTs.mono x2 r⟩
        | _ => exact g.elim
/-! ### an object of the machine's own beside the world -/
structure SideO (E : En) (W : Wd) (h : Hh) (D : Addr) (o : HO) : Prop where
  at_ : W.H D = some o
  nt : ∀ ps, o ≠ .tbl ps
  nc : ∀ c q, o ≠ LamX.CodeO c q
  nf : ¬ W.F D
  nr : ∀ i u, Ev.getR h i = some u → W.ρ i ≠ D
theorem SideO.after (s : SideO E W h D o) (a : Af E W h W' h') : SideO E W' h' D o where
  at_ := a.keep D _ s.at_ (fun i u q => s.nr i u (getW_R q)) s.nt
  nt := s.nt
  nc := s.nc
  nf := fun z => by
    rcases a.fro D z with z | z | ⟨i, u, q, z⟩
    · exact s.nf z
    · rw [s.at_] at z; cases z
    · exact s.nr i u q z
  nr := fun i u q z => by
    by_cases hi : i < h.length
    · obtain ⟨u0, q0⟩ := a.oldR i u hi q
      exact s.nr i u0 q0 (by rw [← a.rho i hi]; exact z)
    · have := a.new i u (Nat.le_of_not_lt hi) q
      rw [z, s.at_] at this
      cases this
theorem ex_lay {o' : HO} (s : SideO E W h D o) : Ex W ⟨upd W.H D o', fun b => W.F b ∨ b = D, W.ρ⟩ := ⟨fun b hb => ⟨.inl hb, upd_ne fun z => s.nf (by rw [← z]; exact hb)⟩⟩
theorem upd_upd {H : Hp} {a : Addr} {o1 o2 : HO} : upd (upd H a o1) a o2 = upd H a o2 := by
  funext b
  by_cases q : b = a
  · subst q
    rw [upd_same, upd_same]
  · rw [upd_ne q, upd_ne q, upd_ne q]
/-- it is written and frozen -/
theorem af_lay {o' : HO} (a : Af E W1 h1 W h) (h0 : W1.H D = none) (s : SideO E W h D o) : Af E W1 h1 ⟨upd W.H D o', fun b => W.F b ∨ b = D, W.ρ⟩ h where
  rel := by
    have x : Ex W ⟨upd W.H D o', fun b => W.F b ∨ b = D, W.ρ⟩ := ⟨fun b hb => ⟨.inl hb, upd_ne fun z => s.nf (by rw [← z]; exact hb)⟩⟩
    have t : TabF E (W.put D o') := tab_chg a.rel.tab (x := D) (v := o') (fun o1 e => by
      rw [s.at_] at e
      cases e
      exact ⟨s.nt, s.nc⟩) rfl (fun b hb => hb)
    refine ⟨⟨t.1, fun p hp z => z.elim (a.rel.tab.2 p hp) fun z => ?_⟩, fun b hb => ?_, fun i u q => (a.rel.live i u q).mono x (Nat.le_refl _) (fun _ _ => rfl) (upd_ne (s.nr i u q)), fun i u q z => z.elim (a.rel.out i u q) (s.nr i u q), a.rel.inj⟩
    · obtain ⟨ps, q⟩ := tab_at a.rel.tab hp
      rw [z, s.at_] at q
      cases q
      exact s.nt _ rfl
    · by_cases q : b = D
      · exact ⟨o', by rw [q]; exact upd_same⟩
      · obtain ⟨w, e⟩ := a.rel.frz b (hb.resolve_right q)
        exact ⟨w, (upd_ne q).trans e⟩
  len := a.len
  rho := a.rho
  ex := a.ex.trans ⟨fun b hb => ⟨.inl hb, upd_ne fun z => s.nf (by rw [← z]; exact hb)⟩⟩
  keep := fun b x q no nt => by
    show upd W.H D o' b = _
    rw [upd_ne (fun z => by rw [z, h0] at q; cases q)]
    exact a.keep b x q no nt
  fro := fun b z => z.elim (a.fro b) fun z => .inr (.inl (by rw [z]; exact h0))
  dom := fun b x q => by
    obtain ⟨x', q'⟩ := a.dom b x q
    exact ⟨x', by show upd W.H D o' b = _; rw [upd_ne (fun z => by rw [z, h0] at q; cases q)]; exact q'⟩
  old := a.old
  oldR := a.oldR
  new := a.new
theorem side_new (rh : RelH E W h) (hn : W.H D = none) (nt : ∀ ps, o ≠ .tbl ps) (nc : ∀ c q, o ≠ LamX.CodeO c q) : SideO E (W.put D o) h D o where
  at_ := upd_same
  nt := nt
  nc := nc
  nf := fun z => by
    obtain ⟨x, q⟩ := rh.frz D z
    rw [hn] at q
    cases q
  nr := fun i u q => rh.ne q hn
theorem af_side (rh : RelH E W h) (hn : W.H D = none) : Af E W h (W.put D o) h := af_put (Af.refl rh) hn (fun z => by
    obtain ⟨x, q⟩ := rh.frz D z
    rw [hn] at q
    cases q) (fun i u q => rh.ne q hn) (.inl hn)
/-! ### {} -/
theorem te_d0m {pos : Pos} : PEv E X Wx C (.Dict [] [] pos) (.dic true .nil) := pe_weak L2.pe_dnewK fun σ' H Q ⟨W, σ, h, e, r, rh, g⟩ => by
  subst e
  intro p hp
  have g : Go E W h (.ok (.r h.length) (h ++ [some (.dic [])])) (KV E Q) (KX E Wx σ') := g
  have ru : RelO E (W.mk' h.length p (.dK [])) (h.length + 1) (.dic []) p := ⟨.dK [], upd_same, .inl ⟨[], rfl, rfl⟩⟩
  refine g _ (af_mk rh hp ru) _ ?_
  rw [List.length_append]
  exact mk_val
theorem te_d0 {pos : Pos} : PEv E X Wx C (.Dict [] [] pos) (.dic false .nil) := pe_weak (pe_lockE L2.pe_dnewK) fun σ' H Q ⟨W, σ, h, e, r, rh, g⟩ => by
  subst e
  intro p hp
  have g : Go E W h (.ok (.p (.dic [])) h) (KV E Q) (KX E Wx σ') := g
  have s : SideO E (W.put p (.dK [])) h p (.dK []) := side_new rh hp (fun _ z => nomatch z) (fun _ _ z => nomatch z)
  refine .inr ⟨p, .dK [], rfl, upd_same, True.intro, fun od => ?_⟩
  exact g _ (af_lay (o' := .frz od (.dK [])) (af_side (o := .dK []) rh hp) hp s) _ ⟨p, od, .dK [], rfl, .inr rfl, upd_same, .inl ⟨[], rfl, rfl⟩⟩
/-! ### rows of pairs -/
def RelPr (E : En) (W : Wd) (n : Nat) : List (Val × Val) → List (V × V) → Prop
  | [], ps => ps = []
  | (x, y) :: r, ps => ∃ X Y t, ps = (X, Y) :: t ∧ RelVal E W n x X ∧ RelVal E W n y Y ∧ RelPr E W n r t
/-- the pairs are put, one behind the other -/
def putKV : List (Val × Val) → List (PV × Val) → Option (List (PV × Val))
  | [], acc => some acc
  | (.p x, y) :: r, acc => if Ev.keyK x acc = true then (match Ev.putP x y acc with
    | some acc => putKV r acc
    | none => none) else none
  | (.r _, _) :: _, _ => none
def KeysAre (Pk : PV → Prop) (kvs : List (Val × Val)) : Prop := ∀ q ∈ kvs, ∃ x, q.1 = .p x ∧ Pk x
def PDv (E : En) (X : L2.Cx) (Wx : WX) (C : Ev.Call) (Pk : PV → Prop) (pos : Pos) (keys : List (Option Expr)) (values : List Expr) (cs : Ev.CE) : Prop := ∃ trs, L2.PPs X pos keys values trs ∧ ∀ (acc : List (PV × Val)) (σ' : L2.St) (H : Hp) (Q : List (V × V) → Hp → Prop),
  (∃ (W : Wd) (σ : Sg) (h : Hh), W.H = H ∧ RelS E W h.length σ σ' ∧ RelH E W h ∧ Go E W h (Ev.evK E.P C cs σ acc h) (fun acc' W' h' => ∀ kvs ps, RelH E W' h' → putKV kvs acc = some acc' → RelPr E W' h'.length kvs ps → kvs.length = keys.length → KeysAre Pk kvs → Q ps W'.H) (KX E Wx σ')) → L2.tPairs trs σ' H Q
theorem td_nil {Pk : PV → Prop} {pos : Pos} : PDv E X Wx C Pk pos [] [] .nil := ⟨[], L2.pps_nil, fun acc σ' H Q ⟨W, σ, h, e, r, rh, g⟩ => by
  subst e
  exact g W (Af.refl rh) [] [] rh rfl rfl rfl (fun _ z => nomatch z)⟩
theorem td_cons {Pk : PV → Prop} {pos : Pos} {k v : Expr} {ks : List (Option Expr)} {vs : List Expr} {ck cv cs : Ev.CE} (hk : PEv E X Wx C k ck) (hv : PEv E X Wx C v cv) (hr : PDv E X Wx C Pk pos ks vs cs) (hP : ∀ σ h x h', Ev.evE E.P C ck σ h = .ok (.p x) h' → Pk x) :
    PDv E X Wx C Pk pos (some k :: ks) (v :: vs) (.kv ck cv cs) := by
  obtain ⟨trs, t1, t2⟩ := hr
  refine ⟨_, L2.pps_cons hk hv t1, fun acc σ' H Q ⟨W, σ, h, e, r, rh, g⟩ => ?_⟩
  refine ⟨W, σ, h, e, r, rh, (Go.told (Go.bind g)).imp fun x W1 h1 a1 ⟨ex, g1⟩ X1 rX => ⟨W1, σ, h1, rfl, a1.sg r, a1.rel, (Go.bind g1).imp fun y W2 h2 a2 g2 Y1 rY => ?_⟩⟩
  cases x with
  | r i => exact g2.elim
  | p x =>
    simp only at g2
    split at g2
    · rename_i hkk
      cases q : Ev.putP x y acc with
      | none => simp only [q] at g2; exact g2.elim
      | some acc1 =>
        simp only [q] at g2
        refine t2 acc1 σ' W2.H _ ⟨W2, σ, h2, rfl, a2.sg (a1.sg r), a2.rel, g2.imp fun acc' W3 h3 a3 k kvs ps rh3 e1 e2 e3 e4 => ?_⟩
        refine k ((.p x, y) :: kvs) ((X1, Y1) :: ps) rh3 ?_ ⟨X1, Y1, ps, rfl, a3.val (a2.val rX), a3.val rY, e2⟩ (by rw [List.length_cons, List.length_cons, e3]) fun p hp => ?_
        · show (if Ev.keyK x acc = true then (match Ev.putP x y acc with
            | some acc => putKV kvs acc
            | none => none) else none) = some acc'
          rw [if_pos hkk, q]
          exact e1
        · rcases List.mem_cons.mp hp with rfl | hp
          · exact ⟨x, rfl, hP _ _ _ _ ex⟩
          · exact e4 p hp
    · exact g2.elim
theorem putKV_cons {x y : Val} {r : List (Val × Val)} {acc acc' : List (PV × Val)} (e : putKV ((x, y) :: r) acc = some acc') : ∃ p acc1, x = .p p ∧ Ev.keyK p acc = true ∧ Ev.putP p y acc = some acc1 ∧ putKV r acc1 = some acc' := by
  cases x with
  | r i => cases e
  | p x =>
    have e : (if Ev.keyK x acc = true then (match Ev.putP x y acc with
      | some acc => putKV r acc
      | none => none) else none) = some acc' := e
    split at e
    · rename_i hk
      cases q : Ev.putP x y acc with
      | none => simp only [q] at e; cases e
      | some acc1 =>
        simp only [q] at e
        exact ⟨x, acc1, rfl, hk, q, e⟩
    · cases e
def FlatK (x : PV) : Prop := ∃ z, keyF x = some z
def TupQ (x : PV) : Prop := keyF x = none
/-- pairs with flat keys -/
theorem pr_flat {n : Nat} : ∀ {kvs : List (Val × Val)} {ps : List (V × V)} {acc acc' : List (PV × Val)} {as : List (L2.Key × V)}, RelPr E W n kvs ps → KeysAre FlatK kvs → putKV kvs acc = some acc' → RelG (RelVal E W n) acc as →
    ∃ ks : List (L2.Key × V), ps = ks.map (fun kv => (L2.kV kv.1, kv.2)) ∧ ks.length = kvs.length ∧ RelG (RelVal E W n) acc' (L2.mergeK as ks)
  | [], ps, acc, acc', as, r, k, e, ra => by
    cases r
    cases e
    exact ⟨[], rfl, rfl, ra⟩
  | (x, y) :: kvs, ps, acc, acc', as, ⟨X1, Y1, t, ep, r1, r2, r3⟩, k, e, ra => by
    subst ep
    obtain ⟨p, acc1, rfl, hk, hp, e2⟩ := putKV_cons e
    obtain ⟨x0, ex, z, hz⟩ := k _ (List.mem_cons_self ..)
    cases ex
    obtain ⟨ks, e3, e4, e5⟩ := pr_flat r3 (fun q hq => k q (List.mem_cons_of_mem _ hq)) e2 (gk_put hz r2 ra hp)
    refine ⟨(z, Y1) :: ks, ?_, by rw [List.length_cons, List.length_cons, e4], e5⟩
    rw [List.map_cons, ← e3, keyF_rel hz r1]
theorem RelG.pure {n : Nat} : ∀ {kvs : List (PV × Val)} {ps : List (PV × PV)} {ks : List (L2.Key × V)}, Ev.pureKvs kvs = some ps → RelG (RelVal E W n) kvs ks → RelKs E W ps ks := fun e r => pureKvs_rel e (RelG.toVKs r)
/-- a piece of work beside which the machine holds an object of its own -/
theorem Go.keep {α β : Type} {r : Res α} {f : α → Hh → Res β} {K : β → Wd → Hh → Prop} {X0 : Exc → Wd → Prop} (a : Af E W h W1 h) (g : Go E W h (r.bind f) K X0) : Go E W1 h r (fun v W2 h2 => Go E W h (f v h2) K X0) X0 := by
  cases r with
  | ok v h2 => exact fun W2 _ => g
  | exc e h2 => exact fun W2 a2 => g W2 (a.trans a2)
  | bad w => exact g
/-- {k: v, ..}, keys ints and texts -/
theorem te_dispK {keys : List (Option Expr)} {values : List Expr} {cs : Ev.CE} {pos : Pos} (h : PDv E X Wx C FlatK pos keys values cs) (hall : keys.all (·.isSome) = true) (hl : keys.length = values.length) (h0 : keys ≠ []) (h15 : keys.length ≤ 15) : PEv E X Wx C (.Dict keys values pos) (.dic false cs) := by
  obtain ⟨trs, h1, h2⟩ := h
  refine pe_weak (pe_lockE (L2.pe_disp h1 hall hl h0 h15)) fun σ' H Q ⟨W, σ, h, eH, rs, rh, g⟩ => ?_
  subst eH
  intro p hp
  have s : SideO E (W.put p (.dK [])) h p (.dK []) := side_new rh hp (fun _ z => nomatch z) (fun _ _ z => nomatch z)
  have a1 := af_side (o := .dK []) rh hp
  refine h2 [] σ' _ _ ⟨W.put p (.dK []), σ, h, rfl, a1.sg rs, a1.rel, (Go.keep a1 g).imp fun acc' W2 h2 a2 g2 kvs ps rh2 e1 e2 e3 e4 => ?_⟩
  have s2 := s.after a2
  obtain ⟨ks, f1, f2, f3⟩ := pr_flat e2 e4 e1 (as := []) rfl
  refine ⟨s2.at_, ks, f1, by omega, .inr ⟨p, _, rfl, upd_same, True.intro, fun od => ?_⟩⟩
  unfold Ev.mkD at g2
  cases q1 : Ev.okLen acc' with
  | false => simp only [q1] at g2; exact g2.elim
  | true =>
    simp only [q1] at g2
    cases q2 : Ev.pureKvs acc' with
    | none => simp only [q2] at g2; exact g2.elim
    | some xs =>
      simp only [q2] at g2
      have a3 : Af E W h ⟨upd W2.H p (.frz od (.dK (L2.mergeK [] ks))), fun b => W2.F b ∨ b = p, W2.ρ⟩ h2 := af_lay (a1.trans a2) hp s2
      rw [upd_upd]
      exact g2 _ a3 _ ⟨p, od, _, rfl, .inr rfl, upd_same, .inl ⟨_, rfl, RelKs.mono (ex_lay s2) (RelG.pure q2 f3)⟩⟩
/-! ### keys that are tuples -/
theorem putKV_ne : ∀ {kvs : List (Val × Val)} {acc acc' : List (PV × Val)}, putKV kvs acc = some acc' → (acc ≠ [] ∨ kvs ≠ []) → acc' ≠ []
  | [], _, _, e, n => by cases e; exact n.resolve_right fun z => z rfl
  | (x, y) :: r, acc, acc', e, _ => by
    obtain ⟨p, acc1, rfl, hk, hp, e2⟩ := putKV_cons e
    refine putKV_ne e2 (.inl ?_)
    intro z
    subst z
    cases acc with
    | nil => cases hp
    | cons q acc =>
      obtain ⟨j, w⟩ := q
      unfold Ev.putP at hp
      cases q1 : Ev.eqP j p with
      | none => rw [q1] at hp; cases hp
      | some c =>
        rw [q1] at hp
        cases c with
        | true =>
          cases q2 : Ev.lookP p acc with
          | none => simp only [q2] at hp; cases hp
          | some o => simp only [q2] at hp; cases o <;> cases hp
        | false =>
          cases q2 : Ev.putP p y acc with
          | none => simp only [q2] at hp; cases hp
          | some o => simp only [q2] at hp; cases hp
theorem putKV_len : ∀ {kvs : List (Val × Val)} {acc acc' : List (PV × Val)}, putKV kvs acc = some acc' → acc'.length ≤ acc.length + kvs.length
  | [], _, _, e => by cases e; exact Nat.le_refl _
  | (x, y) :: r, acc, acc', e => by
    obtain ⟨p, acc1, rfl, hk, hp, e2⟩ := putKV_cons e
    have := putKV_len e2
    have := putP_len hp
    rw [List.length_cons]
    omega
theorem pr_tup {n : Nat} {s : Shared} {pins : List (Addr × Obj)} {σ : L2.St} (hp : E.prog = X.prog) (hw : E.w = X.w) (I : Inv X pins σ W.H s) : ∀ {kvs : List (Val × Val)} {ps : List (V × V)} {ws : List (Value × Value)} {acc acc' : List (PV × Val)} {bs : List Addr} {ys : List V} {us : List Value}, RelPr E W n kvs ps → L2.VV ps ws → KeysAre TupQ kvs → putKV kvs acc = some acc' → RelGT E W (RelVal E W n) acc bs ys → L2.Vals ys us →
    ∃ trip bs' ys' us', CarriesH (nestedKind E.prog E.w) s.heap ws trip ∧ RelGT E W (RelVal E W n) acc' bs' ys' ∧ L2.Vals ys' us' ∧ storedAllH ((nks (Ev.keysP acc)).zip (bs.zip us)) trip = (nks (Ev.keysP acc')).zip (bs'.zip us')
  | [], ps, ws, acc, acc', bs, ys, us, r, v, k, e, rg, rv => by
    cases r
    cases v
    cases e
    exact ⟨[], bs, ys, us, True.intro, rg, rv, rfl⟩
  | (x, y) :: kvs, ps, ws, acc, acc', bs, ys, us, ⟨X1, Y1, t, ep, r1, r2, r3⟩, v, k, e, rg, rv => by
    subst ep
    obtain ⟨p, acc1, rfl, hk, hpp, e2⟩ := putKV_cons e
    obtain ⟨x0, ex, hz⟩ := k _ (List.mem_cons_self ..)
    cases ex
    cases v with
    | @cons _ w _ ws v vt =>
      obtain ⟨w1, w2⟩ := w
      obtain ⟨v1, v2⟩ := v
      have tk := keyK_tup hk hz
      obtain ⟨b, rfl⟩ := tup_ref tk r1
      obtain rfl : w1 = .ref b := v1
      obtain ⟨bs1, ys1, us1, g1, g2, g3, g4⟩ := gt_put (n := 0) tk r1 r2 v2 rg rv hpp
      obtain ⟨trip, bs', ys', us', k1, k2, k3, k4⟩ := pr_tup hp hw I r3 vt (fun q hq => k q (List.mem_cons_of_mem _ hq)) e2 g1 g2
      refine ⟨(nk p, b, w2) :: trip, bs', ys', us', ⟨rfl, rfl, tup_is hp hw I tk r1, k1⟩, k2, k3, ?_⟩
      show storedAllH (storedH ((nks (Ev.keysP acc)).zip (bs.zip us)) (nk p) b w2) trip = _
      rw [g4]
      exact k4
/-- {k: v, ..}, keys tuples; the new dict stands empty while the pairs are made -/
def tDispT (E : En) (trs : List (TE × TE)) : TE := fun σ H Q => ∀ p, H p = none → L2.tPairs trs σ (upd H p (.dK [])) fun ps H2 => H2 p = some (.dK []) ∧ ∃ (W : Wd) (n : Nat) (kvs : List (Val × Val)) (acc' : List (PV × Val)), W.H = H2 ∧ RelPr E W n kvs ps ∧ KeysAre TupQ kvs ∧ putKV kvs [] = some acc' ∧ kvs.length ≤ 15 ∧
  ∀ bs ys, RelGT E W (RelVal E W n) acc' bs ys → Q (.ref p) (upd H2 p (DicN E p (nks (Ev.keysP acc')) bs ys))
theorem pe_dispT {pos : Pos} {keys : List (Option Expr)} {values : List Expr} {trs : List (TE × TE)} (hp : E.prog = X.prog) (hw : E.w = X.w) (hu : X.A.units + 64 < cLine) (h : L2.PPs X pos keys values trs) (hall : keys.all (·.isSome) = true) (hl : keys.length = values.length) (h0 : keys ≠ [])
    (h15 : keys.length ≤ 15) : PE X (.Dict keys values pos) (tDispT E trs) := by
  refine ⟨fun pins s σ H Q I q => ?_⟩
  have hn := I.hok.fresh (Nat.le_refl s.heap.objs.size)
  have I1 := I.laid (a := s.heap.objs.size) (o := .dK []) (h' := s.heap.push { cls := .type "dict", data := .dict #[] }) (t' := s.toks) (fun _ _ q => Heap.get?_push_of_some _ q) (Nat.le_refl _) (L2.dk_empty s.heap I.big)
  have hpl := pairTrees_length keys values X.env pos hall hl
  have hne : pairTrees keys values X.env pos ≠ [] := fun he => by
    rw [he] at hpl
    exact h0 (List.length_eq_zero_iff.mp hpl.symm)
  rw [arm_eval_Dict, zip_pairTrees keys values X.env pos hall hl, dictDisplay_pairs _ hne (by omega)]
  have hr : (nestedKind E.prog E.w).room X.A := by show X.A.units + 8 < cLine; omega
  refine wpAny_bind (wpAny_standAt (wpAny_bind ?_))
  have key := wpAny_subDictH (prog := X.prog) (w := X.w) (knd := nestedKind X.prog X.w) (A := X.A) (E := X.xe) (s := s) (pairs := pairTrees keys values X.env pos) (Q := fun d s' => wpAny (model X.prog X.w) X.A (pure (Value.ref d)) (L2.EP X pins σ Q) X.xe s') (by rw [← hp, ← hw]; exact hr) (by omega)
    (L2.thn (h.run pins _ σ _ _ I1 (q _ hn)) fun ws s2 ⟨ps, H2, I2, rel, e, W, n, kvs, acc', eW, r1, r2, r3, r4, q2⟩ => ?_)
  · exact key
  · subst eW
    obtain ⟨h1, d⟩ := empty_H (E := E) I2 (.inl e)
    obtain ⟨trip, bs', ys', us', k1, k2, k3, k4⟩ := pr_tup hp hw I2 r1 rel r2 r3 (bs := []) (ys := []) (us := []) ⟨rfl, rfl⟩ .nil
    rw [hp, hw] at k1 d
    refine ⟨trip, k1, d, fun g' tk d' sb => wpAny_pure ⟨.ref s.heap.objs.size, _, ?_, rfl, q2 bs' ys' k2⟩⟩
    have k4 : storedAllH [] trip = (nks (Ev.keysP acc')).zip (bs'.zip us') := k4
    rw [k4, ← hp, ← hw] at d'
    have he : ∃ q, g'.get? s.heap.objs.size = some q := by obtain ⟨o, _, _, ho, _⟩ := d'; exact ⟨o, ho⟩
    have hl' : acc'.length ≤ sizeLine := by
      have := putKV_len r3
      rw [List.length_nil] at this
      rw [sizeLine_eq]
      omega
    exact L2.d_write I2 (by rw [e]; exact True.intro) sb he (dicN_ok h1 hl' k3 k2 d')
theorem te_dispT {keys : List (Option Expr)} {values : List Expr} {cs : Ev.CE} {pos : Pos} (hp : E.prog = X.prog) (hw : E.w = X.w) (hu : X.A.units + 64 < cLine) (h : PDv E X Wx C TupQ pos keys values cs) (hall : keys.all (·.isSome) = true) (hl : keys.length = values.length) (h0 : keys ≠ []) (h15 : keys.length ≤ 15) : PEv E X Wx C (.Dict keys values pos) (.dic false cs) := by
  obtain ⟨trs, h1, h2⟩ := h
  refine pe_weak (pe_lockE (pe_dispT hp hw hu h1 hall hl h0 h15)) fun σ' H Q ⟨W, σ, h, eH, rs, rh, g⟩ => ?_
  subst eH
  intro p hp
  have s : SideO E (W.put p (.dK [])) h p (.dK []) := side_new rh hp (fun _ z => nomatch z) (fun _ _ z => nomatch z)
  have a1 := af_side (o := .dK []) rh hp
  refine h2 [] σ' _ _ ⟨W.put p (.dK []), σ, h, rfl, a1.sg rs, a1.rel, (Go.keep a1 g).imp fun acc' W2 h2 a2 g2 kvs ps rh2 e1 e2 e3 e4 => ?_⟩
  have s2 := s.after a2
  refine ⟨s2.at_, W2, h2.length, kvs, acc', rfl, e2, e4, e1, by omega, fun bs ys rg => .inr ⟨p, _, rfl, upd_same, True.intro, fun od => ?_⟩⟩
  unfold Ev.mkD at g2
  cases q1 : Ev.okLen acc' with
  | false => simp only [q1] at g2; exact g2.elim
  | true =>
    simp only [q1] at g2
    cases q2 : Ev.pureKvs acc' with
    | none => simp only [q2] at g2; exact g2.elim
    | some xs =>
      simp only [q2] at g2
      have a3 : Af E W h ⟨upd W2.H p (.frz od (DicN E p (nks (Ev.keysP acc')) bs ys)), fun b => W2.F b ∨ b = p, W2.ρ⟩ h2 := af_lay (a1.trans a2) hp s2
      have ne : acc' ≠ [] := putKV_ne e1 (.inr fun z => by
        subst z
        exact h0 (List.length_eq_zero_iff.mp e3.symm))
      have nx : xs ≠ [] := fun z => by
        subst z
        cases acc' with
        | nil => exact ne rfl
        | cons q acc' =>
          obtain ⟨_, _, _, _, z⟩ := pureKvs_cons q2
          cases z
      rw [upd_upd]
      exact g2 _ a3 _ ⟨p, od, _, rfl, .inr rfl, upd_same, .inr ⟨bs, ys, by rw [pureKvs_keys q2], nx, RelTs.mono (ex_lay s2) (pureKvs_relT q2 (RelGT.toVTs rg))⟩⟩
end
end Sb
set_option Elab.async false
set_option linter.all false
set_option autoImplicit false
set_option maxRecDepth 100000
set_option maxHeartbeats 2000000
/-! # Uf: tests by None; what a program's own data tell; dead defs -/
namespace Sb
open PySem PySem.Spec
open PyProof.Rows hiding St
open L2 (V Hp HO upd upd_same upd_ne VK TE TT TA TS TI TG TGs Ends WX XK PE PT PA PS PSs PI PG PGs PTs Inv OpR SqL SqT Dp Sp Room It RelV Mut)
open Ev (PV Val MO Hh Sg Exc Res SR)
section
variable {E : En} {X : L2.Cx} {Wx : WX} {C : Ev.Call}
theorem isN_read {n : Bool} {ca : Ev.CE} {σ' : L2.St} {H : Hp} {Q : VK} (t : TR E Wx (Ev.evE E.P C (.isN n ca)) σ' H Q) : TR E Wx (Ev.evE E.P C ca) σ' H fun x H1 => Q (.bl (if n = true then !decide (x = .non) else decide (x = .non))) H1 := by
  refine (TR.one (ma := Ev.evE E.P C ca) (f := fun x h => match x with
    | .p .non => .ok (.p (.bl (!n))) h
    | _ => .ok (.p (.bl n)) h) t).imp fun x H1 ⟨W, h, v, e, rh, rv, g⟩ => ?_
  have key : ∀ b, Go E W h (.ok (.p (.bl b)) h) (KV E Q) (KX E Wx σ') → Q (.bl b) H1 := fun b g => by
    have := Go.ok rh g (.bl b) rfl
    rw [e] at this
    exact this
  have ne : ∀ a : V, a ≠ .non → (if n = true then !decide (a = .non) else decide (a = .non)) = n := fun a z => by
    rw [decide_eq_false z]
    cases n <;> rfl
  have eq : (if n = true then !decide (V.non = .non) else decide (V.non = .non)) = !n := by
    rw [decide_eq_true rfl]
    cases n <;> rfl
  have k2 : ∀ y : V, y ≠ .non → Go E W h (.ok (.p (.bl n)) h) (KV E Q) (KX E Wx σ') → Q (.bl (if n = true then !decide (y = .non) else decide (y = .non))) H1 := fun y z g => by
    rw [ne y z]
    exact key _ g
  cases v with
  | r i => obtain ⟨_, rfl⟩ := rv; exact k2 _ (fun z => by cases z) g
  | p p =>
    cases p with
    | non => obtain rfl : x = .non := rv; rw [eq]; exact key _ g
    | bl b => cases rv; exact k2 _ (fun z => by cases z) g
    | int b => cases rv; exact k2 _ (fun z => by cases z) g
    | str b => cases rv; exact k2 _ (fun z => by cases z) g
    | tup b => obtain ⟨_, _, rfl, _⟩ := rv; exact k2 _ (fun z => by cases z) g
    | lst b => obtain ⟨_, _, rfl, _⟩ := rv; exact k2 _ (fun z => by cases z) g
    | dic b => obtain ⟨_, _, _, rfl, _⟩ := rv; exact k2 _ (fun z => by cases z) g
    | set b => exact (show False from rv).elim
    | ins c b => obtain ⟨_, _, _, rfl, _⟩ := rv; exact k2 _ (fun z => by cases z) g
    | fn b => cases rv; exact k2 _ (fun z => by cases z) g
    | cl b => cases rv; exact k2 _ (fun z => by cases z) g
    | ty b => cases rv; exact k2 _ (fun z => by cases z) g
    | lam b c => obtain ⟨_, _, rfl, _⟩ := rv; exact k2 _ (fun z => by cases z) g
theorem tt_isN {a : Expr} {ca : Ev.CE} {j pos pos'} (ha : PEv E X Wx C a ca) : PTv E X Wx C (.Compare a [.Is] [.Constant .none j pos'] pos) (.isN false ca) := pt_weak (L2.pt_cmp (L2.pc_isN ha)) fun σ' H Q t => isN_read t
theorem tt_notN {a : Expr} {ca : Ev.CE} {j pos pos'} (ha : PEv E X Wx C a ca) : PTv E X Wx C (.Compare a [.IsNot] [.Constant .none j pos'] pos) (.isN true ca) := pt_weak (L2.pt_cmp (L2.pc_notN ha)) fun σ' H Q t => isN_read t
end
/-! ### what is seen of a program -/
theorem noDun_of {P : Ev.Prog} {sel : Ev.Cls → Option Nat} (h : P.clss.all (fun K => (sel K).isNone) = true) : NoDun P sel := fun c K e => by
  have := List.all_eq_true.mp h K (List.mem_of_getElem? e)
  exact Option.isNone_iff_eq_none.mp this
theorem noOps_of {P : Ev.Prog} (h : P.clss.all (fun K => K.ops.isEmpty) = true) : NoOps P := fun c K e => List.isEmpty_iff.mp (List.all_eq_true.mp h K (List.mem_of_getElem? e))
theorem noProp_of {P : Ev.Prog} (h : P.clss.all (fun K => K.props.isEmpty) = true) (m : Nat) : NoProp P m := fun c K e => by
  have := List.isEmpty_iff.mp (List.all_eq_true.mp h K (List.mem_of_getElem? e))
  rw [this]
  rfl
theorem plainP_of {P : Ev.Prog} (h : P.defs.all (fun d => !d.star && d.dfl.isEmpty) = true) (hl : P.lams = []) (hn : Nat.blt P.defs.length 1000000 = true) : PlainP P where
  all := fun f d e => by
    have := List.all_eq_true.mp h d (List.mem_of_getElem? e)
    obtain ⟨h1, h2⟩ := Bool.and_eq_true_iff.mp this
    exact ⟨by simpa using h1, List.isEmpty_iff.mp h2⟩
  lams := hl
  few := blt_t.mp hn
theorem PlainP.d {P : Ev.Prog} (pp : PlainP P) {f : Nat} {d : Ev.Def} (e : P.defs[f]? = some d) : PlainD P f := ⟨d, e, pp.all f d e⟩
theorem metD_of {P : Ev.Prog} (pp : PlainP P) (h : P.clss.all (fun K => K.meths.all fun q => Nat.blt q.2 P.defs.length) = true) (m : Nat) : MetD P m := fun c D d e1 e2 => by
  have h1 := List.all_eq_true.mp h D (List.mem_of_getElem? e1)
  have mem : ∀ {l : List (Nat × Nat)}, Ev.lookN m l = some d → ∃ q ∈ l, q.2 = d := by
    intro l
    induction l with
    | nil => intro z; cases z
    | cons q l ih =>
      intro z
      obtain ⟨g, v⟩ := q
      have z : (if m == g then some v else Ev.lookN m l) = some d := z
      split at z
      · cases z; exact ⟨_, List.mem_cons_self .., rfl⟩
      · obtain ⟨q, hq, e⟩ := ih z
        exact ⟨q, List.mem_cons_of_mem _ hq, e⟩
  obtain ⟨q, hq, e⟩ := mem e2
  have h2 := blt_t.mp (List.all_eq_true.mp h1 q hq)
  rw [e] at h2
  refine ⟨pp.d (List.getElem?_eq_getElem h2), ?_⟩
  have := pp.few
  cases z : Nat.ble 1000000 d with
  | false => rfl
  | true =>
    have := Nat.le_of_ble_eq_true z
    omega
/-! ### names -/
theorem fnmOf_inj {L : List Str} (hn : L.Nodup) (hl : L.all (fun x => Nat.blt x.length 100) = true) : ∀ i j, fnmOf L i = fnmOf L j → i = j := fun i j e => by
  have big : ∀ {i : Nat} {x : Str}, L[i]? = some x → x.length < 100 := fun {i x} q => blt_t.mp (List.all_eq_true.mp hl x (List.mem_of_getElem? q))
  have rl : ∀ i : Nat, (⟨Array.replicate (i + 100) 32⟩ : Str).length = i + 100 := fun i => by
    show (Array.replicate (i + 100) 32).size = _
    simp
  unfold fnmOf at e
  cases q1 : L[i]? with
  | none =>
    rw [q1] at e
    cases q2 : L[j]? with
    | none =>
      rw [q2] at e
      have := congrArg Str.length e
      rw [rl, rl] at this
      omega
    | some y =>
      rw [q2] at e
      have := congrArg Str.length e
      have b := big q2
      simp only [rl] at this
      omega
  | some x =>
    rw [q1] at e
    cases q2 : L[j]? with
    | none =>
      rw [q2] at e
      have := congrArg Str.length e
      have b := big q1
      simp only [rl] at this
      omega
    | some y =>
      rw [q2] at e
      have e : x = y := e
      subst e
      exact (List.getElem?_inj (List.getElem?_eq_some_iff.mp q1).1 hn).mp (q1.trans q2.symm)
/-! ### defs that are never called -/
theorem fnK_dead {E : En} {P : Program} {w : World} {K : PySem.W.Frag} {mg : Str → Option Value} {base : Heap} {x qual : Str} {params : Arguments} {body : List Stmt} {scope : Scope} {kws : List (Str × V)} {k f : Nat} {fd : FuncData} {ps : List Str}
    (F : L2.FunD K x qual params body scope [] kws (E.adr f) fd) (hbad : ∀ as h, ∃ w, Ev.callD E.P k f as h = .bad w)
    (hb : ∀ (kV doc pm : Value) (an : Option Addr) (cdv ct : Value) (us : List Value), us.length = ps.length → bindArgs (PySem.W.fnOf x qual params body scope .none kV doc pm an cdv ct) ⟨us, []⟩ = pure (ps.zip us)) : FnK E P w K mg base k f where
  ex := by
    have no : ∀ vs H Q Ex, ¬ spEv E k f vs H Q Ex := fun vs H Q Ex ⟨W, h, as, d', _, _, rv, hd', _, ha, g⟩ => by
      obtain ⟨w, e⟩ := hbad as h
      rw [e] at g
      exact g.elim
    exact ⟨fd, ps, ⟨fun vs H Q Ex z => (no _ _ _ _ z).elim, fun _ _ _ _ _ _ _ _ _ _ _ _ _ z => (no _ _ _ _ z).elim⟩, F.bindsN hb⟩
  kp := F.kp
end Sb
set_option Elab.async false
set_option linter.all false
set_option autoImplicit false
set_option maxRecDepth 100000
set_option maxHeartbeats 2000000
/-! # Ug: what the head tells, by Bools; its Hook -/
namespace Sb
open PySem PySem.Spec
open PyProof.Rows hiding St
open L2 (V Hp HO)
open Ev (PV Val MO Hh Sg Exc Res SR)
open He (ga ma fAd Fa eqO eqO_ok ba)
/-! ### defs, wherever they stand -/
theorem FD.funD {K : PySem.W.Frag} {d : FD} (e : fnWA K (d.at_ K) = d.val) (c : d.ok K = true) : ∃ fd, L2.FunD K d.name d.qual d.params d.body d.scope [] [] (d.at_ K) fd := by
  obtain ⟨kp, c2⟩ := ba c
  unfold fnWA at e
  cases q : K.lookup (d.at_ K) with
  | none =>
    rw [q] at c2
    cases c2
  | some o =>
    obtain ⟨oc, od, dt, osl⟩ := o
    rw [q] at c2 e
    cases dt with
    | func fd =>
      obtain ⟨n1, n2, n3, n4, n5, n6, n7, n8, n9, n10, n11, n12, n13, n14, n15⟩ := fd
      have e2 : (some (n1, n2, n3, n4, n5, n6, n7, n15) : He.FnW) = some (d.name, d.qual, d.params, .stmts d.body, d.scope, mainGlobals, [], builtinsNs) := e
      simp only [Option.some.injEq, Prod.mk.injEq] at e2
      obtain ⟨h1, h2, h3, h4, h5, h6, h7, h8⟩ := e2
      subst h1 h2 h3 h4 h5 h6 h7 h8
      have c3 : (PySem.W.codeIn K n13 d.qual && (He.dflB K n8 [] && He.kwdB K n9 [])) = true := c2
      obtain ⟨k1, k2⟩ := ba c3
      obtain ⟨k3, k4⟩ := ba k2
      exact ⟨_, ⟨oc, od, n8, n9, n10, n11, n12, n13, n14, osl, rfl, q, k1, He.dflB_ok k3, He.kwdB_ok k4⟩, kp⟩
    | _ => cases c2
/-! ### the Hook -/
structure SaysS (fns : List FD) (ck : PySem.W.Frag → Bool) (tf : List He.Defn) (h : Heap) (K : PySem.W.Frag) : Prop where
  fn : ∀ d ∈ fns, ∃ fd, L2.FunD K d.name d.qual d.params d.body d.scope [] [] (d.at_ K) fd
  ck : ck K = true
  hd : ∀ p ∈ tf, PySem.W.codeHdIn K (He.cT K p).1 (He.cT K p).2 = true
  out : ∀ p ∈ tf, K.lookup (He.cT K p).2 = none
  empty : ∀ p ∈ tf, h.get? (He.cT K p).2 = some { cls := .none, data := .fields #[] }
theorem says_of {fns : List FD} {ck : PySem.W.Frag → Bool} {tf : List He.Defn} {h : Heap} {n : Nat} (e1 : obsF fns h.get? n = fns.map FD.val) (e2 : obsB fns ck tf h.get? n = true) : SaysS fns ck tf h (frR h.get? n) := by
  obtain ⟨h1, h2⟩ := ba e2
  obtain ⟨h2, h3⟩ := ba h2
  have key : ∀ p ∈ tf, PySem.W.codeHdIn (frR h.get? n) (He.cT (frR h.get? n) p).1 (He.cT (frR h.get? n) p).2 = true ∧ ∃ o, h.get? (He.cT (frR h.get? n) p).2 = some o ∧ He.emptyTab o = true := fun p hp => by
    obtain ⟨h4, h5⟩ := ba (List.all_eq_true.mp h3 p hp)
    refine ⟨h4, ?_⟩
    cases q : h.get? (He.cT (frR h.get? n) p).2 with
    | none =>
      rw [q] at h5
      cases h5
    | some o =>
      rw [q] at h5
      exact ⟨o, rfl, h5⟩
  refine ⟨fun d hd => ?_, h2, fun p hp => (key p hp).1, fun p hp => ?_, fun p hp => ?_⟩
  · obtain ⟨i, hi, e⟩ := List.mem_iff_getElem.mp hd
    have e3 : (obsF fns h.get? n)[i]? = (fns.map FD.val)[i]? := by rw [e1]
    unfold obsF at e3
    rw [List.getElem?_map, List.getElem?_map, List.getElem?_eq_getElem hi, e] at e3
    exact FD.funD (Option.some.inj e3) (List.all_eq_true.mp h1 d hd)
  · obtain ⟨_, o, q, z⟩ := key p hp
    exact He.frT_none q z
  · obtain ⟨_, o, q, z⟩ := key p hp
    rw [q, He.emptyTab_eq z]
def hookS (fns : List FD) (ck : PySem.W.Frag → Bool) (tf : List He.Defn) : PySem.W.Hook where
  α := List He.FnW × Bool
  obs := fun s => (obsF fns s.heap.get? s.heap.objs.size, obsB fns ck tf s.heap.get? s.heap.objs.size)
  val := fun _ => (fns.map FD.val, true)
  says := fun _ h => ∃ K : PySem.W.Frag, K.In h ∧ SaysS fns ck tf h K
  of := fun _ _ e => ⟨_, He.frT_in, says_of (congrArg (fun z : List He.FnW × Bool => z.1) e) (congrArg (fun z : List He.FnW × Bool => z.2) e)⟩
  keeps := fun _ _ _ ⟨K, hK, c⟩ k => ⟨K, PySem.W.Frag.In.keeps hK k, ⟨c.fn, c.ck, c.hd, c.out, fun p hp => k _ _ (c.empty p hp)⟩⟩
/-- the same off the tree -/
def obT (fns : List FD) (ck : PySem.W.Frag → Bool) (tf : List He.Defn) (s : PySem.W.SharedT) : List He.FnW × Bool := (obsF fns (HandSHeadRun.getT s) s.n, obsB fns ck tf (HandSHeadRun.getT s) s.n)
theorem obT_eq {fns : List FD} {ck : PySem.W.Frag → Bool} {tf : List He.Defn} (s : PySem.W.SharedT) : obT fns ck tf s = (hookS fns ck tf).obs s.abs := by
  have e : HandSHeadRun.getT s = s.abs.heap.get? := funext (HandSHeadRun.getT_eq s)
  have en : s.abs.heap.objs.size = s.n := PySem.W.absHeap_size s.tree s.n s.life
  show (obsF fns (HandSHeadRun.getT s) s.n, obsB fns ck tf (HandSHeadRun.getT s) s.n) = (obsF fns s.abs.heap.get? s.abs.heap.objs.size, obsB fns ck tf s.abs.heap.get? s.abs.heap.objs.size)
  rw [e, en]
/-- the run's equation, by parts -/
theorem run_parts {α A B C : Type} {X : Option α} {f : α → A} {g : α → B} {k : α → C} {a : A} {b : B} {c : C} (h1 : X.map f = some a) (h2 : X.map g = some b) (h3 : X.map k = some c) : X.map (fun s => (f s, g s, k s)) = some (a, b, c) := by
  cases X with
  | none => cases h1
  | some x =>
    cases h1
    cases h2
    cases h3
    rfl
theorem run_two {α A B : Type} {X : Option α} {f : α → A} {g : α → B} {a : A} {b : B} (h1 : X.map f = some a) (h2 : X.map g = some b) : X.map (fun s => (f s, g s)) = some (a, b) := by
  cases X with
  | none => cases h1
  | some x =>
    cases h1
    cases h2
    rfl
/-! ### facts of the classes -/
section
variable {E : En} {K : PySem.W.Frag} {cn : Nat → Str} {dn : Nat → He.Defn}
theorem clsAll_at {P : Ev.Prog} {f : Nat → Ev.Cls → Bool} (h : clsAll P f = true) {c : Nat} {D : Ev.Cls} (e : P.clss[c]? = some D) : f c D = true := by
  have hc : c < P.clss.length := (List.getElem?_eq_some_iff.mp e).1
  have := List.all_eq_true.mp h c (List.mem_range.mpr hc)
  rw [e] at this
  exact this
theorem isK_of (hc : ∀ c, E.cad c = ga K (cn c)) (h : insB cn E.P K = true) : IsK E K := by
  obtain ⟨g1, h⟩ := ba h
  obtain ⟨g2, h⟩ := ba h
  have key : ∀ (c : Nat) (D : Ev.Cls), E.P.clss[c]? = some D → D.ins = true → _ := fun c D e i => by
    have := clsAll_at h e
    rw [i] at this
    exact this
  refine ⟨fun c D e i => ?_, fun c D t e i => ?_, fun c D n e i hn => ?_, fun c d D D' e e' i i' => ?_⟩
  · have q := key c D e i
    obtain ⟨q1, q⟩ := ba q
    obtain ⟨q2, q⟩ := ba q
    obtain ⟨q3, q⟩ := ba q
    rw [hc]
    exact ⟨He.cls_ok q1, eqO_ok q2, eqO_ok g1, of_decide_eq_true g2, of_decide_eq_true q3⟩
  · have q := key c D e i
    obtain ⟨q1, q⟩ := ba q
    obtain ⟨q2, q⟩ := ba q
    obtain ⟨q3, q⟩ := ba q
    obtain ⟨q4, q⟩ := ba q
    rw [hc]
    exact of_decide_eq_true (List.all_eq_true.mp q4 t (by cases t <;> decide))
  · have q := key c D e i
    obtain ⟨q1, q⟩ := ba q
    obtain ⟨q2, q⟩ := ba q
    obtain ⟨q3, q⟩ := ba q
    obtain ⟨q4, q⟩ := ba q
    obtain ⟨q5, q⟩ := ba q
    rw [hc]
    exact of_decide_eq_true (List.all_eq_true.mp q5 n hn)
  · have q := key c D e i
    obtain ⟨q1, q⟩ := ba q
    obtain ⟨q2, q⟩ := ba q
    obtain ⟨q3, q⟩ := ba q
    obtain ⟨q4, q⟩ := ba q
    obtain ⟨q5, q⟩ := ba q
    have q := clsAll_at q e'
    rw [i'] at q
    rw [hc, hc]
    exact of_decide_eq_true q
theorem fldK_of (hc : ∀ c, E.cad c = ga K (cn c)) (h : fldB cn E.fnm E.P K = true) (m : Nat) : FldK E K m := fun c D e hm => by
  have q := clsAll_at h e
  have hm' : m ∈ D.fields := by simpa using hm
  cases z : D.fields.isEmpty with
  | true =>
    rw [List.isEmpty_iff.mp z] at hm'
    cases hm'
  | false =>
    rw [z] at q
    obtain ⟨q1, q2⟩ := ba q
    rw [hc]
    exact ⟨He.cls_ok q1, He.noat_ok (List.all_eq_true.mp q2 m hm')⟩
theorem lookN_mem {β : Type} {m : Nat} {d : β} : ∀ {l : List (Nat × β)}, Ev.lookN m l = some d → (m, d) ∈ l
  | [], e => by cases e
  | (g, v) :: l, e => by
    have e : (if m == g then some v else Ev.lookN m l) = some d := e
    split at e
    · rename_i q
      cases e
      rw [beq_iff_eq.mp q]
      exact List.mem_cons_self ..
    · exact List.mem_cons_of_mem _ (lookN_mem e)
/-- where the methods stand -/
def metS (cn : Nat → Str) (fn : Nat → Str) (dn : Nat → He.Defn) (P : Ev.Prog) : Bool := clsAll P fun c D => D.meths.all fun q => decide (dn q.2 = (cn c, some (fn q.1)))
theorem metK_of (hc : ∀ c, E.cad c = ga K (cn c)) (ha : ∀ (c : Nat) (D : Ev.Cls) (m d : Nat), E.P.clss[c]? = some D → (m, d) ∈ D.meths → E.adr d = fAd K (dn d)) (hs : metS cn E.fnm dn E.P = true) (h : metB cn E.fnm E.P K = true) (m : Nat) : MetK E K m := fun c D d e hm => by
  have q := clsAll_at h e
  have hm := lookN_mem hm
  have s := of_decide_eq_true (List.all_eq_true.mp (clsAll_at hs e) _ hm)
  cases z : D.meths.isEmpty with
  | true =>
    rw [List.isEmpty_iff.mp z] at hm
    cases hm
  | false =>
    rw [z] at q
    obtain ⟨q1, q2⟩ := ba q
    have q2 := He.meth_ok (List.all_eq_true.mp q2 _ hm)
    rw [hc, ha c D m d e hm, s]
    exact ⟨He.cls_ok q1, q2⟩
def mkrS (cn : Nat → Str) (dn : Nat → He.Defn) (P : Ev.Prog) : Bool := clsAll P fun c D => match D.init with
  | some d => decide (dn d = (cn c, some ("__init__" : Str)))
  | none => true
theorem mkK_of (hc : ∀ c, E.cad c = ga K (cn c)) (ha : ∀ (c : Nat) (D : Ev.Cls) (d : Nat), E.P.clss[c]? = some D → D.init = some d → E.adr d = fAd K (dn d)) (hs : mkrS cn dn E.P = true) (h : mkrB cn E.P K = true) (c : Nat) : MkK E K c := fun D d e hd => by
  have q := clsAll_at h e
  have s := clsAll_at hs e
  simp only [hd] at q s
  have s := of_decide_eq_true s
  rw [hc, ha c D d e hd, s]
  exact He.mkr_ok q
theorem exmK_of (hc : ∀ c, E.cad c = ga K (cn c)) (h : exmB cn E.P K = true) : ExmK E K := fun c d h1 h2 => by
  unfold Ev.isX at h1 h2
  cases e1 : E.P.clss[c]? with
  | none => rw [e1] at h1; cases h1
  | some D =>
    cases e2 : E.P.clss[d]? with
    | none => rw [e2] at h2; cases h2
    | some D' =>
      rw [e1] at h1
      rw [e2] at h2
      have h1 : D.xc = true := h1
      have h2 : D'.xc = true := h2
      have q := clsAll_at h e1
      rw [h1] at q
      have q := clsAll_at q e2
      rw [h2] at q
      rw [hc, hc]
      exact He.exm_ok q
theorem oexO_ok {C : Addr} {o : Obj} (h : oexO C o = true) : ∃ nm q N bs bm sn sub ab col dd k0 k1 k2 k3 k5, o = excClassObj nm q C N bs bm true sn sub ab col dd k0 k1 k2 k3 k5 "ValueError.__new__" ∧ PySem.HandSPX.refsVE bm = true := by
  unfold oexO at h
  split at h
  · obtain ⟨h1, h⟩ := ba h
    obtain ⟨h2, h⟩ := ba h
    obtain ⟨h3, h⟩ := ba h
    obtain ⟨h4, h⟩ := ba h
    obtain ⟨h5, h6⟩ := ba h
    have e1 := of_decide_eq_true h1
    have e4 := of_decide_eq_true h4
    have e6 := of_decide_eq_true h6
    have e3 := Bool.not_eq_true' _ |>.mp h3
    subst e1 e4 e6 e3 h2
    exact ⟨_, _, _, _, _, _, _, _, _, _, _, _, _, _, _, rfl, h5⟩
  · cases h
theorem oexC_of {K : PySem.W.Frag} {C : Addr} (h : oexB K C = true) : L2.OexC K C := by
  obtain ⟨h1, h⟩ := ba h
  obtain ⟨h2, h⟩ := ba h
  obtain ⟨h3, h⟩ := ba h
  obtain ⟨h4, h5⟩ := ba h
  refine ⟨?_, eqO_ok h2, of_decide_eq_true h3, of_decide_eq_true h4, h5⟩
  cases q : K.lookup C with
  | none => rw [q] at h1; cases h1
  | some o =>
    rw [q] at h1
    obtain ⟨nm, q, N, bs, bm, sn, sub, ab, col, dd, k0, k1, k2, k3, k5, e, r⟩ := oexO_ok h1
    exact ⟨nm, q, N, bs, bm, sn, sub, ab, col, dd, k0, k1, k2, k3, k5, by rw [e], r⟩
theorem rzI_of {c f : Nat} {fI : Addr} (hc : ∀ c, E.cad c = ga K (cn c)) (hf : fI = ma K (ga K (cn c)) "__init__") (h : rziB cn E.fnm K c f = true) : RzI E K c f fI := by
  obtain ⟨h1, h⟩ := ba h
  obtain ⟨h2, h⟩ := ba h
  obtain ⟨h3, h4⟩ := ba h
  subst hf
  refine ⟨?_, ?_, ?_, of_decide_eq_true h4⟩
  · rw [hc]; exact oexC_of h1
  · rw [hc]; exact He.noat_ok h2
  · rw [hc]; exact eqO_ok h3
theorem rzK_of {c : Nat} (hc : ∀ c, E.cad c = ga K (cn c)) (h : (Fa.exc (cn c)).ok K = true) : RzK E K c := by
  obtain ⟨h1, h2, h3, h4⟩ := He.exc_ok h
  refine ⟨?_, ?_, ?_, ?_⟩ <;> rw [hc] <;> assumption
theorem xfK_of {c f : Nat} (hc : ∀ c, E.cad c = ga K (cn c)) (h : xfB cn E.fnm K c f = true) : XfK E K c f := by
  obtain ⟨h1, h⟩ := ba h
  obtain ⟨h2, h⟩ := ba h
  obtain ⟨h3, h⟩ := ba h
  obtain ⟨h4, h5⟩ := ba h
  refine ⟨?_, ?_, ?_, ?_, ?_⟩ <;> rw [hc]
  · exact eqO_ok h1
  · exact eqO_ok h2
  · exact He.noat_ok h3
  · exact of_decide_eq_true h4
  · exact h5
theorem cmK_of {c m d : Nat} {x y : Str} (hc : E.cad c = ga K x) (hy : E.fnm m = y) (hd : E.adr d = cmG K (ma K (ga K x) y)) (h : cmB K x y = true) : CmK E K c m d := by
  obtain ⟨h1, h⟩ := ba h
  obtain ⟨h2, h⟩ := ba h
  obtain ⟨h3, h4⟩ := ba h
  refine ⟨.type "type", ma K (ga K x) y, ?_, ?_⟩
  · rw [hc]; exact ⟨h1, eqO_ok h2⟩
  · have k3 : PySem.W.findCls K (.ref (ga K x)) (.type "type") y = some (.get (.builtin "classmethod.__get__") (.ref (ma K (ga K x) y)) .none (.ref (ga K x))) := by
      split at h3
      · rename_i n p C e
        obtain ⟨a, b⟩ := ba h3
        obtain ⟨b, b2⟩ := ba b
        rw [e, of_decide_eq_true a, of_decide_eq_true b, of_decide_eq_true b2]
      · cases h3
    have k4 : ∃ rest, PySem.W.recIn K (ma K (ga K x) y) "classmethod" = some (.ref (cmG K (ma K (ga K x) y)) :: rest) ∧ PySem.W.fnIn K (cmG K (ma K (ga K x) y)) = true := by
      unfold cmG
      split at h4
      · rename_i g r e
        rw [e]
        exact ⟨r, rfl, h4⟩
      · cases h4
    obtain ⟨rest, r1, r2⟩ := k4
    rw [hc, hy, hd]
    exact ⟨k3, ⟨rest, r1⟩, r2⟩
end
theorem fnOk_step {E : En} {P : Program} {w : World} {K : PySem.W.Frag} {mg : Str → Option Value} {base : Heap} {x qual : Str} {params : Arguments} {body : List Stmt} {scope : Scope} {kws : List (Str × V)} {k f : Nat} {fd : FuncData} {N ps : List Str} {d : Ev.Def}
    (F : L2.FunD K x qual params body scope [] kws (E.adr f) fd) (S : L2.FnScope N ps scope) (hl : Nat.ble 1000000 f = false) (hd : E.P.defs[f]? = some d) (hs : d.star = false) (hn : d.np = ps.length) (hN : d.n = N.length)
    (hbody : ∀ (cdv : Value) (A : Around) (outer : List Env) (s : Shared) (H : Hp) (Ex : L2.XK), CodeAt K (E.adr f) cdv → PySem.W.codeIn K cdv qual = true → L2.Room (4 * k + 3) (A.deeper (envOfC qual scope s.heap.objs.size (E.adr f) cdv)) →
      PSsv E (L2.cxOf (L2.CX P w) P w K mg base N qual scope (E.adr f) cdv A outer s H Ex) (fun C d _ H => Ex C d H) (Ev.callD E.P k) body d.body) : L2.FnOk P w K mg base (L2.CX P w) (4 * (k + 1)) (E.adr f) fd ps (spEv E (k + 1) f) := by
  obtain ⟨oc, od, dV, kV, doc, pm, an, cdv, ct, osl, rfl, lk, hcd, _, _⟩ := F.ex
  exact L2.fn_of lk hcd S (fun vs H Q Ex ⟨W, h, as, d', _, _, rv, hd', _, ha, _⟩ => by
    rw [hd] at hd'
    cases hd'
    rw [RelVals.length rv, ha, hn]) fun A outer s H vs Q Ex hr ⟨W, h, as, d', eH, rh, rv, hd', _, ha, g⟩ => ⟨_, hbody cdv A outer s H Ex ⟨oc, od, _, osl, lk, rfl⟩ hcd hr, by
      rw [hd] at hd'
      cases hd'
      subst eH
      exact body_of (X := L2.cxOf (L2.CX P w) P w K mg base N qual scope (E.adr f) cdv A outer s W.H Ex) rfl hl hd hs ha hN rh rv g⟩
/-! ### calls that are never made -/
def isHnil : Ev.CS → Bool
  | .hnil => true
  | _ => false
theorem callD_dead {P : Ev.Prog} {k f : Nat} (hl : P.lams = []) (h : P.defs[f]? = none ∨ ∃ d, P.defs[f]? = some d ∧ isHnil d.body = true) (as : List Val) (hh : Hh) : ∃ w, Ev.callD P k f as hh = .bad w := by
  cases k with
  | zero => exact ⟨71, rfl⟩
  | succ k =>
    have e : Ev.callD P (k + 1) f as hh = if Nat.ble 1000000 f = true then (match P.lams[f - 1000000]? with
        | some (n, b) => Ev.evE P (Ev.callD P k) b (Ev.start as n) hh
        | none => .bad 72)
      else match P.defs[f]? with
      | none => .bad 73
      | some d => match Ev.bindArgs d as with
        | none => .bad 74
        | some vs => match d.keep, Ev.pures vs with
          | false, some _ => (match Ev.runD P (Ev.callD P k) d vs [] with
            | .ok (.p v) _ => .ok (.p v) hh
            | .ok (.r _) _ => .bad 75
            | .exc e _ => .exc e hh
            | .bad w => .bad w)
          | _, _ => Ev.runD P (Ev.callD P k) d vs hh := rfl
    rw [e]
    split
    · rw [hl]; exact ⟨72, rfl⟩
    · rcases h with h | ⟨d, h, hb⟩
      · rw [h]; exact ⟨73, rfl⟩
      · rw [h]
        have eb : d.body = .hnil := by
          cases q : d.body <;> rw [q] at hb <;> first | rfl | cases hb
        have er : ∀ vs h2, Ev.runD P (Ev.callD P k) d vs h2 = .bad 68 := fun vs h2 => by
          unfold Ev.runD
          rw [eb]
          rfl
        simp only [er]
        split
        · exact ⟨74, rfl⟩
        · split
          · exact ⟨68, rfl⟩
          · exact ⟨68, rfl⟩
end Sb
set_option Elab.async false
set_option linter.all false
set_option autoImplicit false
set_option maxRecDepth 100000
set_option maxHeartbeats 2000000
/-! # Uh: the law's end -/
namespace Sb
open PySem PySem.Spec
open PyProof.Rows hiding St
open L2 (V Hp HO SqL)
open Ev (PV Val MO Hh Sg Exc Res SR)
theorem sp_law {E : En} {K : PySem.W.Frag} {H : Hp} {a : Addr} {ns : List Int} {k f : Nat} {d : Ev.Def} {h' : Hh} (eK : E.K = K) (hd : E.P.defs[f]? = some d) (hs : d.star = false) (hn : d.np = 1) (hT : ∀ p ∈ E.T, H p.1 = some (.tbl #[])) (hS : SqL K H a (ns.map V.int))
    (e : Ev.callD E.P k f [.p (.lam 0 (ns.map PV.int))] [] = .ok (.p (.bl true)) h') : spEv E k f [.ref a] H (fun v _ => v = .bl true) (fun _ _ _ => False) := by
  have no : ∀ {i : Nat} {u : MO}, Ev.getR [] i = some u → False := fun {i u} q => absurd (getR_lt q) (Nat.not_lt_zero i)
  have rh : RelH E ⟨H, fun b => b = a ∧ L2.Rd H a (.lst (ns.map V.int)), fun _ => 0⟩ [] := by
    refine ⟨⟨fun p hp => ⟨#[], hT p hp, True.intro, fun pos cv z => by cases z⟩, fun p hp ⟨z, rd⟩ => ?_⟩, fun b ⟨z, rd⟩ => ?_, fun _ _ q => (no q).elim, fun _ _ q => (no q).elim, fun _ _ _ _ q => (no q).elim⟩
    · have q := hT p hp
      rw [z] at q
      rcases rd with rd | ⟨o, rd⟩
      · rw [q] at rd; cases rd
      · rw [q] at rd; cases rd
    · rw [z]
      rcases rd with rd | ⟨o, rd⟩
      · exact ⟨_, rd⟩
      · exact ⟨_, rd⟩
  refine ⟨_, [], [.p (.lam 0 (ns.map PV.int))], d, rfl, rh, ⟨.ref a, [], rfl, ⟨a, ns, rfl, rfl, ?_⟩, rfl⟩, hd, hs, by rw [hn]; rfl, ?_⟩
  · rcases hS with rd | q
    · exact .inl ⟨⟨rfl, rd⟩, rd⟩
    · exact .inr (by rw [eK]; exact q)
  · rw [e]
    exact fun W' _ x rx => rx
theorem map_and {α : Type} {X : Option α} {f g : α → Bool} (h1 : X.map f = some true) (h2 : X.map g = some true) : X.map (fun s => f s && g s) = some true := by
  cases X with
  | none => cases h1
  | some x =>
    have h1 : some (f x) = some true := h1
    have h2 : some (g x) = some true := h2
    show some (f x && g x) = some true
    rw [Option.some.inj h1, Option.some.inj h2]
    rfl
theorem map_two {α A B : Type} {X : Option α} {f : α → A} {g : α → B} {a : A} {b : B} (h : X.map (fun s => (f s, g s)) = some (a, b)) : X.map f = some a ∧ X.map g = some b := by
  cases X with
  | none => cases h
  | some x =>
    have h : some (f x, g x) = some (a, b) := h
    cases h
    exact ⟨rfl, rfl⟩
theorem map_app {X : Option PySem.W.SharedT} {l1 l2 : List FD}
    (h1 : X.map (fun s => (obsF l1 (HandSHeadRun.getT s) s.n, l1.all fun d => d.ok (frR (HandSHeadRun.getT s) s.n))) = some (l1.map FD.val, true))
    (h2 : X.map (fun s => (obsF l2 (HandSHeadRun.getT s) s.n, l2.all fun d => d.ok (frR (HandSHeadRun.getT s) s.n))) = some (l2.map FD.val, true)) :
    X.map (fun s => (obsF (l1 ++ l2) (HandSHeadRun.getT s) s.n, (l1 ++ l2).all fun d => d.ok (frR (HandSHeadRun.getT s) s.n))) = some ((l1 ++ l2).map FD.val, true) := by
  cases X with
  | none => cases h1
  | some x =>
    have h1 : some (obsF l1 (HandSHeadRun.getT x) x.n, l1.all fun d => d.ok (frR (HandSHeadRun.getT x) x.n)) = some (l1.map FD.val, true) := h1
    have h2 : some (obsF l2 (HandSHeadRun.getT x) x.n, l2.all fun d => d.ok (frR (HandSHeadRun.getT x) x.n)) = some (l2.map FD.val, true) := h2
    have a1 := (Prod.mk.inj (Option.some.inj h1)).1
    have b1 := (Prod.mk.inj (Option.some.inj h1)).2
    have a2 := (Prod.mk.inj (Option.some.inj h2)).1
    have b2 := (Prod.mk.inj (Option.some.inj h2)).2
    have e1 : obsF (l1 ++ l2) (HandSHeadRun.getT x) x.n = (l1 ++ l2).map FD.val := by
      unfold obsF at a1 a2 ⊢
      rw [List.map_append, List.map_append, a1, a2]
    have e2 : ((l1 ++ l2).all fun d => d.ok (frR (HandSHeadRun.getT x) x.n)) = true := by
      rw [List.all_append, b1, b2]
      rfl
    show some (_, _) = _
    rw [e1, e2]
end Sb
/-! # Up: how the evaluator goes, row by row (plain; nothing of the model) -/
set_option autoImplicit false
set_option linter.all false
namespace Ev
section
variable (P : Prog) (C : Call) (σ : Sg) (h : Hh)
theorem e_cst (v : PV) : evE P C (.cst v) σ h = .ok (.p v) h := rfl
theorem e_var {i : Nat} {v : Val} (e : σ[i]? = some (some v)) : evE P C (.var i) σ h = .ok v h := by
  show (match σ[i]? with | some (some v) => Res.ok v h | _ => .bad 30) = _
  rw [e]
theorem e_var' (i : Nat) : evE P C (.var i) σ h = match σ[i]? with
    | some (some v) => .ok v h
    | _ => .bad 30 := rfl
theorem e_bin (o : BOp) (a b : CE) : evE P C (.bin o a b) σ h = (evE P C a σ h).bind fun x h => (evE P C b σ h).bind fun y h => binV P C o x y h := rfl
theorem e_cmp (o : COp) (a b : CE) : evE P C (.cmp o a b) σ h = (evE P C a σ h).bind fun x h => (evE P C b σ h).bind fun y h => cmpV P C o x y h := rfl
theorem e_ix (a b : CE) : evE P C (.ix a b) σ h = (evE P C a σ h).bind fun x h => (evE P C b σ h).bind fun y h => ixV P C x y h := rfl
theorem e_bf (b : BF) (as : CE) : evE P C (.bf b as) σ h = (evA P C as σ h).bind fun vs h => bfV P C b vs h := rfl
theorem e_call (f : Nat) (as : CE) : evE P C (.call f as) σ h = (evA P C as σ h).bind fun vs h => C f vs h := rfl
theorem e_lst (m : Bool) (as : CE) : evE P C (.lst m as) σ h = (evA P C as σ h).bind fun vs h => mkL m vs h := rfl
theorem e_not (a : CE) : evE P C (.not a) σ h = tst (evE P C a σ h) fun t h => .ok (.p (.bl (!t))) h := rfl
theorem e_bm (b : BM) (o as : CE) : evE P C (.bm b o as) σ h = (evE P C o σ h).bind fun x h => match bmK b x h with
    | true => (evA P C as σ h).bind fun vs h => bmV b x vs h
    | false => .bad 25 := rfl
theorem e_met (e : CE) : evE P C (.met e) σ h = match evE P C e σ h with
    | .ok _ h => .ok (.p (.str P.metF)) h
    | .exc x h => (match isX P x.c with
      | true => ofO 40 (metW P P.met x) h
      | false => .bad 40)
    | .bad w => .bad w := rfl
theorem a_nil : evA P C .nil σ h = .ok [] h := rfl
theorem a_cons (a r : CE) : evA P C (.cons a r) σ h = (evE P C a σ h).bind fun x h => (evA P C r σ h).bind fun xs h => .ok (x :: xs) h := rfl
theorem s_seq (a b : CS) : exS P C (.seq a b) σ h = match exS P C a σ h with
    | .nx σ h => exS P C b σ h
    | r => r := rfl
theorem s_skip : exS P C .skip σ h = .nx σ h := rfl
theorem s_ret (e : CE) : exS P C (.ret e) σ h = srE (evE P C e σ h) σ fun v h => .rt v h := rfl
theorem s_ex (e : CE) : exS P C (.ex e) σ h = srE (evE P C e σ h) σ fun _ h => .nx σ h := rfl
theorem s_set (i : Nat) (e : CE) : exS P C (.asg (.nm i .nil) e) σ h = srE (evE P C e σ h) σ fun v h => .nx (σ.set i (some v)) h := rfl
theorem s_setI (o i e : CE) : exS P C (.asg (.ix o i .nil) e) σ h = srE (evE P C e σ h) σ fun v h => srE (evE P C o σ h) σ fun a h => srE (evE P C i σ h) σ fun j h => srE (setIx a j v h) σ fun _ h => .nx σ h := rfl
theorem s_if (t : CE) (a b : CS) : exS P C (.ifs t a b) σ h = srE (evE P C t σ h) σ fun v h => match v with
    | .p (.bl true) => exS P C a σ h
    | .p (.bl false) => exS P C b σ h
    | _ => .bad 65 := rfl
theorem s_for (tg : List Nat) (one : Bool) (it : CE) (b : CS) : exS P C (.for_ tg one it b) σ h = srE (evE P C it σ h) σ fun a h => srE (iterV P C a h) σ fun c h => match itemsV h c with
    | some xs => lendS c h fun h => loopS (fun x σ h => match bindT tg one x σ with
      | some σ1 => exS P C b σ1 h
      | none => .bad 66) xs σ h
    | none => .bad 66 := rfl
theorem b_ok {α β : Type} (a : α) (f : α → Hh → Res β) : (Res.ok a h).bind f = f a h := rfl
theorem sr_ok (v : Val) (f : Val → Hh → SR) : srE (.ok v h) σ f = f v h := rfl
end
section
variable {P : Prog} {C : Call} {h : Hh} {i : Nat} {xs : List Val}
theorem getO_of (e : getR h i = some (.lst xs)) : getO h i = some (.lst xs) := by unfold getO; rw [e]
theorem getW_of (e : getR h i = some (.lst xs)) : getW h i = some (.lst xs) := by unfold getW; rw [e]
theorem ixV_at (e : getR h i = some (.lst xs)) {n : Nat} {v : Val} (hv : xs[n]? = some v) (hn : n < xs.length) : ixV P C (.r i) (.p (.int n)) h = .ok v h := by
  have ep : place xs.length (n : Int) = some n := by
    show (if Nat.blt n xs.length = true then some n else none) = some n
    rw [if_pos (show Nat.blt n xs.length = true from Nat.ble_eq_true_of_le hn)]
  simp only [ixV, dun, clsOf, getO_of e, vw, ep, hv]
theorem setIx_at (e : getR h i = some (.lst xs)) {n : Nat} {v : Val} (hn : n < xs.length) : setIx (.r i) (.p (.int n)) v h = .ok (.p .non) (h.set i (some (.lst (xs.set n v)))) := by
  have ep : place xs.length (n : Int) = some n := by
    show (if Nat.blt n xs.length = true then some n else none) = some n
    rw [if_pos (show Nat.blt n xs.length = true from Nat.ble_eq_true_of_le hn)]
  simp only [setIx, getW_of e, ep]
theorem getR_set_self {u : MO} {o : MO} (e : getR h i = some u) : getR (h.set i (some o)) i = some o := by
  have hl : i < h.length := by
    unfold getR at e
    cases q : h[i]? with
    | none => rw [q] at e; cases e
    | some x => exact (List.getElem?_eq_some_iff.mp q).1
  unfold getR
  rw [List.getElem?_set_self hl]
theorem set_set {o u : Option MO} : (h.set i o).set i u = h.set i u := List.set_set ..
theorem bin_p {o : BOp} {x y r : PV} (hx : ∀ c fs, x ≠ .ins c fs) (e : opB o x y = some r) : binV P C o (.p x) (.p y) h = .ok (.p r) h := by
  unfold binV
  have : clsOf h (.p x) = none := by
    cases x with
    | ins c fs => exact absurd rfl (hx c fs)
    | _ => rfl
  rw [this]
  show ofO 16 (opB o x y) h = _
  rw [e]
  rfl
theorem bin_i {o : BOp} {x : Int} {y r : PV} (e : opB o (.int x) y = some r) : binV P C o (.p (.int x)) (.p y) h = .ok (.p r) h := bin_p (fun _ _ z => by cases z) e
theorem settle_same {n : Nat} {h1 : Hh} (e : h1.length = n) : settle n h1 = h1 := by
  unfold settle
  split
  · rw [List.take_of_length_le (Nat.le_of_eq e)]
  · rfl
theorem small_mul {a b : Int} (ha : a.natAbs < 2 ^ 80) (hb : b.natAbs < 2 ^ 80) : opB .mul (.int a) (.int b) = some (.int (a * b)) := by
  have l : ∀ x : Nat, x < 2 ^ 80 → x.log2 ≤ 80 := fun x hx => by
    by_cases z : x = 0
    · subst z; decide
    · exact Nat.le_of_lt ((Nat.log2_lt z).mpr hx)
  have h1 := l _ ha
  have h2 := l _ hb
  show (if Nat.blt (a.natAbs.log2 + b.natAbs.log2) 1000000 = true then some (PV.int (a * b)) else none) = _
  rw [if_pos (show Nat.blt (a.natAbs.log2 + b.natAbs.log2) 1000000 = true from Nat.ble_eq_true_of_le (by omega))]
theorem mod_pos {a b : Int} (hb : 0 < b) : opB .mod (.int a) (.int b) = some (.int (a % b)) := by
  show (if decide (0 < b) = true then some (PV.int (a % b)) else none) = _
  rw [if_pos (decide_eq_true hb)]
theorem fdiv_pos {a b : Int} (hb : 0 < b) (hs : b.natAbs < 2 ^ 80) : opB .fdiv (.int a) (.int b) = some (.int (a / b)) := by
  have h2 : b.natAbs.log2 ≤ 80 := by
    by_cases z : b.natAbs = 0
    · rw [z]; decide
    · exact Nat.le_of_lt ((Nat.log2_lt z).mpr hs)
  show (if (decide (0 < b) && Nat.blt b.natAbs.log2 9000) = true then some (PV.int (a / b)) else none) = _
  rw [decide_eq_true hb, show Nat.blt b.natAbs.log2 9000 = true from Nat.ble_eq_true_of_le (by omega)]
  rfl
theorem mod_small {a b : Int} (hb : 0 < b) (hs : b < 2 ^ 70) : (a % b).natAbs < 2 ^ 80 := by
  have h1 := Int.emod_nonneg a (Int.ne_of_gt hb)
  have h2 := Int.emod_lt_of_pos a hb
  omega
theorem seq_nx {P : Prog} {C : Call} {a b : CS} {σ σ1 : Sg} {h h1 : Hh} (e : exS P C a σ h = .nx σ1 h1) : exS P C (.seq a b) σ h = exS P C b σ1 h1 := by rw [s_seq, e]
theorem set_ok {P : Prog} {C : Call} {i : Nat} {ce : CE} {σ : Sg} {h h1 : Hh} {v : Val} (e : evE P C ce σ h = .ok v h1) : exS P C (.asg (.nm i .nil) ce) σ h = .nx (σ.set i (some v)) h1 := by
  rw [s_set, e]
  rfl
theorem call_ok {P : Prog} {C : Call} {f : Nat} {as : CE} {σ : Sg} {h h1 : Hh} {vs : List Val} {r : Res Val} (e : evA P C as σ h = .ok vs h1) (e2 : C f vs h1 = r) : evE P C (.call f as) σ h = r := by
  rw [e_call, e]
  exact e2
theorem getR_append {h : Hh} {o : MO} : getR (h ++ [some o]) h.length = some o := by
  unfold getR
  rw [List.getElem?_append_right (Nat.le_refl _), Nat.sub_self]
  rfl
theorem getR_left {h g : Hh} {i : Nat} {o : MO} (e : getR h i = some o) : getR (h ++ g) i = some o := by
  have hl : i < h.length := by
    unfold getR at e
    cases q : h[i]? with
    | none => rw [q] at e; cases e
    | some x => exact (List.getElem?_eq_some_iff.mp q).1
  unfold getR at e ⊢
  rw [List.getElem?_append_left hl]
  exact e
theorem set_append {h : Hh} {o u : MO} : (h ++ [some o]).set h.length (some u) = h ++ [some u] := by
  rw [List.set_append_right _ _ (Nat.le_refl _), Nat.sub_self]
  rfl
theorem getR_bound {h : Hh} {i : Nat} {o : MO} (e : getR h i = some o) : i < h.length := by
  unfold getR at e
  cases q : h[i]? with
  | none => rw [q] at e; cases e
  | some x => exact (List.getElem?_eq_some_iff.mp q).1
theorem getR_settle {h : Hh} {n i : Nat} {o : MO} (hi : i < n) (e : getR h i = some o) : getR (settle n h) i = some o := by
  unfold settle
  split
  · unfold getR at e ⊢
    rw [List.getElem?_take_of_lt hi]
    exact e
  · exact e
theorem vwL_lift {f : Val → Option PV} (hf : ∀ v, f (.p v) = some v) : ∀ ws : List PV, vwL f (liftP ws) = some ws
  | [] => rfl
  | w :: ws => by
    show (match f (.p w) with | some x => (match vwL f (liftP ws) with | some xs => some (x :: xs) | none => none) | none => none) = _
    rw [hf, vwL_lift hf ws]
theorem eqne_ok {P : Prog} {C : Call} {h : Hh} {L : Nat} {ws : List PV} {b : PV} {r : Bool} {o : COp} (ho : o = .eq ∨ o = .ne) (e : getR h L = some (.lst (liftP ws))) (t : opC o (.lst ws) b = some r) : cmpV P C o (.r L) (.p b) h = .ok (.p (.bl r)) h := by
  have e1 : vwN h 3 (.r L) = some (.lst ws) := by
    have q : vwL (vwN h 2) (liftP ws) = some ws := vwL_lift (fun v => by cases v <;> rfl) ws
    simp only [vwN, getO_of e, q]
  have e2 : clsOf h (.r L) = none := by simp only [clsOf, getO_of e]
  have e3 : vwN h 3 (.p b) = some b := by cases b <;> rfl
  rcases ho with rfl | rfl
  · simp only [cmpV, dun, e2, cmpV.plain, vwD, e1, e3, t, ofB]
  · simp only [cmpV, dun, e2, cmpV.plain, vwD, e1, e3, t, ofB]
theorem app_ok {P : Prog} {C : Call} {j : Nat} {ce : CE} {σ : Sg} {h : Hh} {ws : List PV} {w : PV} (hσ : σ[j]? = some (some (.r h.length))) (hn : ws.length < 1000)
    (e : ∀ h2, evE P C ce σ h2 = .ok (.p w) h2) : exS P C (.ex (.bm .append (.var j) (.cons ce .nil))) σ (h ++ [some (.lst (liftP ws))]) = .nx σ (h ++ [some (.lst (liftP (ws ++ [w])))]) := by
  have g : getR (h ++ [some (MO.lst (liftP ws))]) h.length = some (.lst (liftP ws)) := getR_append
  have ll : ∀ xs : List PV, (liftP xs).length = xs.length := fun xs => by
    induction xs with
    | nil => rfl
    | cons x xs ih => show (_ :: liftP xs).length = _; rw [List.length_cons, List.length_cons, ih]
  have la : ∀ xs : List PV, liftP xs ++ [Val.p w] = liftP (xs ++ [w]) := fun xs => by
    induction xs with
    | nil => rfl
    | cons x xs ih => show _ :: (liftP xs ++ [Val.p w]) = _ :: liftP (xs ++ [w]); rw [ih]
  have k : bmK .append (.r h.length) (h ++ [some (.lst (liftP ws))]) = true := by simp only [bmK, getO_of g]; rfl
  have bl : Nat.blt (liftP ws).length sizeMax = true := Nat.ble_eq_true_of_le (by rw [ll]; show ws.length + 1 ≤ 16777216; omega)
  have m : bmV .append (.r h.length) [.p w] (h ++ [some (.lst (liftP ws))]) = .ok (.p .non) (h ++ [some (.lst (liftP (ws ++ [w])))]) := by
    simp only [bmV, isMut, if_true, getW_of g, bl, set_append, la]
  rw [s_ex, e_bm, e_var' , hσ]
  simp only [b_ok, k, a_cons, a_nil, e, m, sr_ok]
/-- a call of pure arguments, whatever the heap -/
theorem callD_h {P : Prog} {k f : Nat} {d : Def} {as : List Val} {h : Hh} {ps : List PV} (hl : Nat.ble 1000000 f = false) (hd : P.defs[f]? = some d) (hk : d.keep = false) (hb : bindArgs d as = some as) (hp : pures as = some ps) : callD P (k + 1) f as h = match callD P (k + 1) f as [] with
    | .ok v _ => .ok v h
    | .exc e _ => .exc e h
    | .bad w => .bad w := by
  have e : ∀ h, callD P (k + 1) f as h = match runD P (callD P k) d as [] with
      | .ok (.p v) _ => .ok (.p v) h
      | .ok (.r _) _ => .bad 75
      | .exc e _ => .exc e h
      | .bad w => .bad w := fun h => by
    show (if Nat.ble 1000000 f = true then _ else _) = _
    rw [hl, if_neg (by decide), hd]
    simp only [hb, hk, hp]
    all_goals (cases runD P (callD P k) d as [] with
    | ok v _ => cases v <;> rfl
    | exc _ _ => rfl
    | bad _ => rfl)
  rw [e h, e []]
  cases runD P (callD P k) d as [] with
  | ok v _ => cases v <;> rfl
  | exc _ _ => rfl
  | bad _ => rfl
end
end Ev
set_option linter.all false
set_option Elab.async false
set_option maxHeartbeats 0
set_option maxRecDepth 100000
namespace K77
open Ev
/-- the dice: three numbers, the third small -/
def Dice (h : Hh) (i : Nat) (n : Nat) : Prop := ∃ a b c : Int, getR h i = some (.lst [.p (.int a), .p (.int b), .p (.int c)]) ∧ 0 ≤ c ∧ c ≤ n
theorem roll_ok {k i m : Nat} {h : Hh} {n : Nat} (D : Dice h i n) (hn : n < 1000) (hm : 0 < m) (hm2 : m < 1000) : ∃ (r : Nat) (o : MO), callD prog (k + 1) 161 [.r i, .p (.int m)] h = .ok (.p (.int r)) (h.set i (some o)) ∧ r < m ∧ Dice (h.set i (some o)) i (n + 1) := by
  obtain ⟨a, b, c, e, c0, c1⟩ := D
  have q0 : ixV prog (callD prog k) (.r i) (.p (.int 0)) h = .ok (.p (.int a)) h := ixV_at (n := 0) e rfl (by show 0 < 3; decide)
  have q1 : ixV prog (callD prog k) (.r i) (.p (.int 1)) h = .ok (.p (.int b)) h := ixV_at (n := 1) e rfl (by show 1 < 3; decide)
  have q2 : ixV prog (callD prog k) (.r i) (.p (.int 2)) h = .ok (.p (.int c)) h := ixV_at (n := 2) e rfl (by show 2 < 3; decide)
  have hmI : (0 : Int) < (m : Int) := by omega
  have hmS : ((m : Int)).natAbs < 2 ^ 80 := by omega
  have bodyR : ∀ (v : Nat) (o : MO), exS prog (callD prog k) d161.body [some (.r i), some (.p (.int m)), none, none, none] h = .rt (.p (.int v)) (h.set i (some o)) → callD prog (k + 1) 161 [.r i, .p (.int m)] h = .ok (.p (.int v)) (h.set i (some o)) := fun v o e1 => by
    show runD prog (callD prog k) d161 [.r i, .p (.int m)] h = _
    unfold runD
    have e2 : exS prog (callD prog k) d161.body (start [.r i, .p (.int m)] d161.n) h = .rt (.p (.int v)) (h.set i (some o)) := e1
    rw [e2]
    show (if refsBelow h.length (.p (.int v)) = true then _ else _) = _
    rw [if_pos (show refsBelow h.length (.p (.int v)) = true from rfl), settle_same (by rw [List.length_set])]
  have fin : ∀ x : Int, ∃ r : Nat, x % (m : Int) = (r : Int) ∧ r < m := fun x => by
    have h1 := Int.emod_nonneg x (Int.ne_of_gt hmI)
    have h2 := Int.emod_lt_of_pos x hmI
    exact ⟨(x % (m : Int)).toNat, by omega, by omega⟩
  have hgt : cmpV prog (callD prog k) .gt (.p (.int a)) (.p (.int 0)) h = .ok (.p (.bl (decide (0 < a)))) h := rfl
  by_cases ha : 0 < a
  · obtain ⟨r, er, hr⟩ := fin a
    refine ⟨r, .lst [.p (.int (a / m)), .p (.int b), .p (.int c)], bodyR r _ ?_, hr, a / m, b, c, getR_set_self e, c0, by omega⟩
    rw [decide_eq_true ha] at hgt
    have i1 : bfV prog (callD prog k) .int [.p (.int a)] h = .ok (.p (.int a)) h := rfl
    have m1 : binV prog (callD prog k) .mod (.p (.int a)) (.p (.int m)) h = .ok (.p (.int r)) h := by rw [bin_i (mod_pos hmI), er]
    have f1 : binV prog (callD prog k) .fdiv (.p (.int a)) (.p (.int m)) h = .ok (.p (.int (a / m))) h := bin_i (fdiv_pos hmI hmS)
    have s1 : setIx (.r i) (.p (.int 0)) (.p (.int (a / m))) h = .ok (.p .non) (h.set i (some (.lst [.p (.int (a / m)), .p (.int b), .p (.int c)]))) := setIx_at (n := 0) e (by show 0 < 3; decide)
    unfold d161
    simp only [s_seq, s_if, s_set, s_setI, s_ret, e_cmp, e_ix, e_bf, e_bin, e_var', e_cst, a_cons, a_nil, b_ok, sr_ok, List.getElem?_cons_zero, List.getElem?_cons_succ, List.set_cons_zero, List.set_cons_succ, q0, hgt, i1, m1, f1, s1]
  · rw [decide_eq_false ha] at hgt
    have hc : (c + 1).natAbs < 2 ^ 80 := by omega
    let v2 : Int := (b + 998244293 * (c + 1)) % 2305843009213693951
    let v3 : Int := v2 * v2 % 2305843009213693921 * v2 + 9413 * (c + 1)
    let v4 : Int := v3 % 2305843009213693669
    obtain ⟨r, er, hr⟩ := fin (v4 / 8192)
    let o : MO := .lst [.p (.int a), .p (.int b), .p (.int (c + 1))]
    refine ⟨r, o, bodyR r o ?_, hr, a, b, c + 1, getR_set_self e, by omega, by omega⟩
    have e2 : getR (h.set i (some o)) i = some (.lst [.p (.int a), .p (.int b), .p (.int (c + 1))]) := getR_set_self e
    have a1 : binV prog (callD prog k) .add (.p (.int c)) (.p (.int 1)) h = .ok (.p (.int (c + 1))) h := bin_i rfl
    have s1 : setIx (.r i) (.p (.int 2)) (.p (.int (c + 1))) h = .ok (.p .non) (h.set i (some o)) := setIx_at (n := 2) e (by show 2 < 3; decide)
    have p1 : ixV prog (callD prog k) (.r i) (.p (.int 1)) (h.set i (some o)) = .ok (.p (.int b)) (h.set i (some o)) := ixV_at (n := 1) e2 rfl (by show 1 < 3; decide)
    have p2 : ixV prog (callD prog k) (.r i) (.p (.int 2)) (h.set i (some o)) = .ok (.p (.int (c + 1))) (h.set i (some o)) := ixV_at (n := 2) e2 rfl (by show 2 < 3; decide)
    have k1 : binV prog (callD prog k) .mul (.p (.int 998244293)) (.p (.int (c + 1))) (h.set i (some o)) = .ok (.p (.int (998244293 * (c + 1)))) (h.set i (some o)) := bin_i (small_mul (by decide) hc)
    have k2 : binV prog (callD prog k) .add (.p (.int b)) (.p (.int (998244293 * (c + 1)))) (h.set i (some o)) = .ok (.p (.int (b + 998244293 * (c + 1)))) (h.set i (some o)) := bin_i rfl
    have k3 : ∀ x : Int, bfV prog (callD prog k) .int [.p (.int x)] (h.set i (some o)) = .ok (.p (.int x)) (h.set i (some o)) := fun x => rfl
    have k4 : binV prog (callD prog k) .mod (.p (.int (b + 998244293 * (c + 1)))) (.p (.int 2305843009213693951)) (h.set i (some o)) = .ok (.p (.int v2)) (h.set i (some o)) := bin_i (mod_pos (by decide))
    have z2 : v2.natAbs < 2 ^ 80 := mod_small (by decide) (by decide)
    have k5 : binV prog (callD prog k) .mul (.p (.int v2)) (.p (.int v2)) (h.set i (some o)) = .ok (.p (.int (v2 * v2))) (h.set i (some o)) := bin_i (small_mul z2 z2)
    have k6 : binV prog (callD prog k) .mod (.p (.int (v2 * v2))) (.p (.int 2305843009213693921)) (h.set i (some o)) = .ok (.p (.int (v2 * v2 % 2305843009213693921))) (h.set i (some o)) := bin_i (mod_pos (by decide))
    have k7 : binV prog (callD prog k) .mul (.p (.int (v2 * v2 % 2305843009213693921))) (.p (.int v2)) (h.set i (some o)) = .ok (.p (.int (v2 * v2 % 2305843009213693921 * v2))) (h.set i (some o)) := bin_i (small_mul (mod_small (by decide) (by decide)) z2)
    have k8 : binV prog (callD prog k) .mul (.p (.int 9413)) (.p (.int (c + 1))) (h.set i (some o)) = .ok (.p (.int (9413 * (c + 1)))) (h.set i (some o)) := bin_i (small_mul (by decide) hc)
    have k9 : binV prog (callD prog k) .add (.p (.int (v2 * v2 % 2305843009213693921 * v2))) (.p (.int (9413 * (c + 1)))) (h.set i (some o)) = .ok (.p (.int v3)) (h.set i (some o)) := bin_i rfl
    have k10 : binV prog (callD prog k) .mod (.p (.int v3)) (.p (.int 2305843009213693669)) (h.set i (some o)) = .ok (.p (.int v4)) (h.set i (some o)) := bin_i (mod_pos (by decide))
    have k11 : binV prog (callD prog k) .fdiv (.p (.int v4)) (.p (.int 8192)) (h.set i (some o)) = .ok (.p (.int (v4 / 8192))) (h.set i (some o)) := bin_i (fdiv_pos (by decide) (by decide))
    have k12 : binV prog (callD prog k) .mod (.p (.int (v4 / 8192))) (.p (.int m)) (h.set i (some o)) = .ok (.p (.int r)) (h.set i (some o)) := by rw [bin_i (mod_pos hmI), er]
    unfold d161
    simp only [s_seq, s_if, s_skip, s_set, s_setI, s_ret, e_cmp, e_ix, e_bf, e_bin, e_var', e_cst, a_cons, a_nil, b_ok, sr_ok, List.getElem?_cons_zero, List.getElem?_cons_succ, List.set_cons_zero, List.set_cons_succ, q0, q2, hgt, a1, s1, p1, p2, k1, k2, k3, k4, k5, k6, k7, k8, k9, k10, k11, k12]
/-- a pick: one of the menu -/
theorem pick_ok {k i : Nat} {h : Hh} {n : Nat} {xs : List PV} (D : Dice h i n) (hn : n < 1000) (h0 : 0 < xs.length) (h1 : xs.length < 1000) : ∃ (v : PV) (o : MO), v ∈ xs ∧ callD prog (k + 2) 162 [.r i, .p (.lst xs)] h = .ok (.p v) (h.set i (some o)) ∧ Dice (h.set i (some o)) i (n + 1) := by
  obtain ⟨r, o, e, hr, D2⟩ := roll_ok (k := k) D hn h0 h1
  have hv : xs[r]? = some xs[r] := List.getElem?_eq_getElem hr
  refine ⟨xs[r], o, List.getElem_mem hr, ?_, D2⟩
  have b : exS prog (callD prog (k + 1)) d162.body [some (.r i), some (.p (.lst xs))] h = .rt (.p xs[r]) (h.set i (some o)) := by
    have l1 : bfV prog (callD prog (k + 1)) .len [.p (.lst xs)] h = .ok (.p (.int xs.length)) h := rfl
    have ep : place xs.length (r : Int) = some r := by
      show (if Nat.blt r xs.length = true then some r else none) = some r
      rw [if_pos (show Nat.blt r xs.length = true from Nat.ble_eq_true_of_le hr)]
    have x1 : ixV prog (callD prog (k + 1)) (.p (.lst xs)) (.p (.int r)) (h.set i (some o)) = .ok (.p xs[r]) (h.set i (some o)) := by
      show ofO 17 (match place xs.length (r : Int) with | some j => xs[j]? | none => none) _ = _
      rw [ep]
      show ofO 17 xs[r]? _ = _
      rw [hv]
      rfl
    unfold d162
    simp only [s_ret, e_ix, e_bf, e_call, e_var', a_cons, a_nil, b_ok, sr_ok, List.getElem?_cons_zero, List.getElem?_cons_succ, l1, e, x1]
  show runD prog (callD prog (k + 1)) d162 [.r i, .p (.lst xs)] h = _
  unfold runD
  have e2 : exS prog (callD prog (k + 1)) d162.body (start [.r i, .p (.lst xs)] d162.n) h = .rt (.p xs[r]) (h.set i (some o)) := b
  rw [e2]
  show (if refsBelow h.length (.p xs[r]) = true then _ else _) = _
  rw [if_pos (show refsBelow h.length (.p xs[r]) = true from rfl), settle_same (by rw [List.length_set])]
theorem Dice.set {h : Hh} {i n L : Nat} {o : MO} (D : Dice (h ++ [some o]) i n) (hi : i < h.length) : Dice h i n := by
  obtain ⟨a, b, c, e, r⟩ := D
  refine ⟨a, b, c, ?_, r⟩
  unfold getR at e ⊢
  rw [List.getElem?_append_left hi] at e
  exact e
theorem Dice.app {h g : Hh} {i n : Nat} (D : Dice h i n) : Dice (h ++ g) i n := by
  obtain ⟨a, b, c, e, r⟩ := D
  exact ⟨a, b, c, getR_left e, r⟩
theorem Dice.mono {h : Hh} {i n m : Nat} (D : Dice h i n) (hm : n ≤ m) : Dice h i m := by
  obtain ⟨a, b, c, e, r1, r2⟩ := D
  exact ⟨a, b, c, e, r1, by omega⟩
theorem Dice.lt {h : Hh} {i n : Nat} (D : Dice h i n) : i < h.length := by
  obtain ⟨a, b, c, e, _⟩ := D
  exact getR_bound e
theorem Dice.settle {h : Hh} {i n m : Nat} (D : Dice h i n) (hi : i < m) : Dice (settle m h) i n := by
  obtain ⟨a, b, c, e, r⟩ := D
  exact ⟨a, b, c, getR_settle hi e, r⟩
/-! ### the menus -/
abbrev C14 : Call := callD prog 14
abbrev C15 : Call := callD prog 15
def okV (r : Res Val) : PV := match r with
  | .ok (.p v) _ => v
  | _ => .non
def seqN : CS → Nat → CS
  | .seq a _, 0 => a
  | .seq _ b, n + 1 => seqN b n
  | c, _ => c
def asgE : CS → CE
  | .asg _ e => e
  | .ex (.bm _ _ (.cons e _)) => e
  | _ => .nil
/-- the second argument of a call -/
def arg2 : CE → CE
  | .call _ (.cons _ (.cons e _)) => e
  | _ => .nil
def progV : PV := okV (evE prog C14 (asgE (seqN d164.body 0)) [] [])
def menuQ0 : PV := okV (evE prog C14 (asgE (seqN d164.body 1)) [] [])
def lstOf : PV → List PV
  | .lst xs => xs
  | _ => []
def menuQ : List PV := lstOf (okV (evE prog C14 (arg2 (asgE (seqN d164.body 2))) [none, none, some (.p menuQ0)] []))
def menuR0 : PV := okV (evE prog C14 (asgE (seqN d164.body 3)) [] [])
def menuR : List PV := lstOf (okV (evE prog C14 (arg2 (asgE (seqN d164.body 4))) [none, none, none, some (.p menuR0)] []))
def menuM : List PV := lstOf (okV (evE prog C14 (arg2 (asgE (seqN d164.body 5))) [none, some (.p progV)] []))
def menuP : List PV := lstOf (okV (evE prog C14 (arg2 (asgE (seqN d164.body 6))) [none, some (.p progV)] []))
def menuL : List PV := lstOf (okV (evE prog C14 (arg2 (asgE (seqN d164.body 7))) [none, some (.p progV)] []))
def menuT : List PV := lstOf (okV (evE prog C14 (arg2 (asgE (seqN d164.body 14))) [] []))
def tstM (f : Nat) (w : List Nat) (q : PV) : Bool := match callD prog 14 f [.p q] [] with
  | .exc x _ => isX prog x.c && (match metW prog prog.met x with
    | some (.str s) => s == w
    | _ => false)
  | .ok _ _ => prog.metF == w
  | .bad _ => false
theorem tQ : menuQ.all (tstM 143 [113,117,101,115,116,105,111,110]) = true := by decide +kernel
theorem tR : menuR.all (tstM 146 [111,112,101,114,97,116,105,111,110]) = true := by decide +kernel
theorem tM : menuM.all (tstM 152 [114,111,111,109]) = true := by decide +kernel
theorem tP : menuP.all (tstM 154 [111,112,101,114,97,116,105,111,110]) = true := by decide +kernel
theorem tL : menuL.all (tstM 157 [108,105,98,114,97,114,121]) = true := by decide +kernel
theorem tT : ([144,149,153,156,159] : List Nat).all (fun f => menuT.all (tstM f [112,97,114,115,101,32,78,111,110,101])) = true := by decide +kernel
theorem met_ok {f : Nat} {d : Def} {w : List Nat} {q : PV} {j : Nat} {σ : Sg} {h : Hh} (hl : Nat.ble 1000000 f = false) (hd : prog.defs[f]? = some d) (hk : d.keep = false) (hb : bindArgs d [.p q] = some [.p q]) (hσ : σ[j]? = some (some (.p q))) (t : tstM f w q = true) : evE prog C14 (.met (.call f (.cons (.var j) .nil))) σ h = .ok (.p (.str w)) h := by
  have ea : evA prog C14 (.cons (.var j) .nil) σ h = .ok [.p q] h := by
    rw [a_cons, e_var', hσ]
    rfl
  have ec : evE prog C14 (.call f (.cons (.var j) .nil)) σ h = callD prog 14 f [.p q] h := call_ok ea rfl
  rw [e_met, ec, callD_h hl hd hk hb (ps := [q]) rfl]
  unfold tstM at t
  cases r : callD prog 14 f [.p q] [] with
  | bad _ => rw [r] at t; cases t
  | ok v _ =>
    rw [r] at t
    rw [show prog.metF = w from eq_of_beq t]
  | exc x _ =>
    rw [r] at t
    obtain ⟨t1, t2⟩ := Bool.and_eq_true_iff.mp t
    simp only [t1]
    cases m : metW prog prog.met x with
    | none => rw [m] at t2; cases t2
    | some v =>
      rw [m] at t2
      cases v with
      | str s =>
        rw [show s = w from eq_of_beq t2]
        rfl
      | _ => cases t2

/-- a pick stored in a slot -/
theorem pick_set {i j n : Nat} {h : Hh} {σ : Sg} {ce : CE} {xs : List PV} (D : Dice h i n) (hn : n < 1000) (h0 : 0 < xs.length) (h1 : xs.length < 1000) (hσ : σ[0]? = some (some (.r i))) (e : evE prog C14 ce σ h = .ok (.p (.lst xs)) h) :
    ∃ (v : PV) (o : MO), v ∈ xs ∧ exS prog C14 (.asg (.nm j .nil) (.call 162 (.cons (.var 0) (.cons ce .nil)))) σ h = .nx (σ.set j (some (.p v))) (h.set i (some o)) ∧ Dice (h.set i (some o)) i (n + 1) := by
  obtain ⟨v, o, hv, e2, D2⟩ := pick_ok (k := 12) D hn h0 h1
  refine ⟨v, o, hv, set_ok (call_ok (vs := [.r i, .p (.lst xs)]) (h1 := h) ?_ e2), D2⟩
  rw [a_cons, e_var', hσ]
  simp only [b_ok, a_cons, a_nil, e]
theorem mkl_set {P : Prog} {C : Call} {j : Nat} {ce : CE} {σ : Sg} {h : Hh} {w : PV} (e : evE P C ce σ h = .ok (.p w) h) : exS P C (.asg (.nm j .nil) (.lst true (.cons ce .nil))) σ h = .nx (σ.set j (some (.r h.length))) (h ++ [some (.lst (liftP [w]))]) := by
  refine set_ok ?_
  rw [e_lst, a_cons, e]
  rfl
theorem if_ne {P : Prog} {C : Call} {j L : Nat} {ce : CE} {a : CS} {σ : Sg} {h : Hh} {ws : List PV} {b : PV} (g : getR h L = some (.lst (liftP ws))) (hσ : σ[j]? = some (some (.r L))) (e : evE P C ce σ h = .ok (.p b) h) (t : opC .ne (.lst ws) b = some false) : exS P C (.ifs (.cmp .ne (.var j) ce) a .skip) σ h = .nx σ h := by
  rw [s_if, e_cmp, e_var', hσ]
  simp only [b_ok, e, eqne_ok (.inr rfl) g t, sr_ok, s_skip]
theorem ret_eq {P : Prog} {C : Call} {j L : Nat} {ce : CE} {σ : Sg} {h : Hh} {ws : List PV} {b : PV} (g : getR h L = some (.lst (liftP ws))) (hσ : σ[j]? = some (some (.r L))) (e : evE P C ce σ h = .ok (.p b) h) (t : opC .eq (.lst ws) b = some true) : exS P C (.ret (.cmp .eq (.var j) ce)) σ h = .rt (.p (.bl true)) h := by
  rw [s_ret, e_cmp, e_var', hσ]
  simp only [b_ok, e, eqne_ok (.inl rfl) g t, sr_ok]
abbrev wq : PV := .str [113,117,101,115,116,105,111,110]
abbrev wo : PV := .str [111,112,101,114,97,116,105,111,110]
abbrev wr : PV := .str [114,111,111,109]
abbrev wl : PV := .str [108,105,98,114,97,114,121]
abbrev wn : PV := .str [112,97,114,115,101,32,78,111,110,101]
theorem right_ok {i n : Nat} {h : Hh} (D : Dice h i n) (hn : n + 10 < 1000) : ∃ h', callD prog 15 164 [.r i] h = .ok (.p (.bl true)) h' ∧ Dice h' i (n + 6) := by
  have hi := D.lt
  suffices ∃ hf, exS prog C14 d164.body [some (.r i), none, none, none, none, none, none, none, none] h = .rt (.p (.bl true)) hf ∧ Dice hf i (n + 6) by
    obtain ⟨hf, e, D2⟩ := this
    refine ⟨settle h.length hf, ?_, D2.settle hi⟩
    show runD prog C14 d164 [.r i] h = _
    unfold runD
    have e2 : exS prog C14 d164.body (start [.r i] d164.n) h = .rt (.p (.bl true)) hf := e
    rw [e2]
    exact if_pos rfl
  have s1 : ∀ σ, exS prog C14 (seqN d164.body 0) σ h = .nx (σ.set 1 (some (.p progV))) h := fun σ => set_ok (by kernel_rfl)
  have s2 : ∀ σ, exS prog C14 (seqN d164.body 1) σ h = .nx (σ.set 2 (some (.p menuQ0))) h := fun σ => set_ok (by kernel_rfl)
  obtain ⟨q, o1, hq, s3, D1⟩ := pick_set (j := 2) (ce := arg2 (asgE (seqN d164.body 2))) (σ := [some (.r i), some (.p progV), some (.p menuQ0), none, none, none, none, none, none]) (xs := menuQ) D (by omega) (by decide +kernel) (by decide +kernel) rfl (by kernel_rfl)
  generalize h.set i (some o1) = h1 at s3 D1
  have s4 : ∀ σ, exS prog C14 (seqN d164.body 3) σ h1 = .nx (σ.set 3 (some (.p menuR0))) h1 := fun σ => set_ok (by kernel_rfl)
  obtain ⟨r, o2, hr, s5, D2⟩ := pick_set (j := 3) (ce := arg2 (asgE (seqN d164.body 4))) (σ := [some (.r i), some (.p progV), some (.p q), some (.p menuR0), none, none, none, none, none]) (xs := menuR) D1 (by omega) (by decide +kernel) (by decide +kernel) rfl (by kernel_rfl)
  generalize h1.set i (some o2) = h2 at s5 D2
  obtain ⟨m, o3, hm, s6, D3⟩ := pick_set (j := 4) (ce := arg2 (asgE (seqN d164.body 5))) (σ := [some (.r i), some (.p progV), some (.p q), some (.p r), none, none, none, none, none]) (xs := menuM) D2 (by omega) (by decide +kernel) (by decide +kernel) rfl (by kernel_rfl)
  generalize h2.set i (some o3) = h3 at s6 D3
  obtain ⟨p, o4, hp, s7, D4⟩ := pick_set (j := 5) (ce := arg2 (asgE (seqN d164.body 6))) (σ := [some (.r i), some (.p progV), some (.p q), some (.p r), some (.p m), none, none, none, none]) (xs := menuP) D3 (by omega) (by decide +kernel) (by decide +kernel) rfl (by kernel_rfl)
  generalize h3.set i (some o4) = h4 at s7 D4
  obtain ⟨l, o5, hl, s8, D5⟩ := pick_set (j := 6) (ce := arg2 (asgE (seqN d164.body 7))) (σ := [some (.r i), some (.p progV), some (.p q), some (.p r), some (.p m), some (.p p), none, none, none]) (xs := menuL) D4 (by omega) (by decide +kernel) (by decide +kernel) rfl (by kernel_rfl)
  generalize h4.set i (some o5) = h5 at s8 D5
  have tq := List.all_eq_true.mp tQ q hq
  have tr := List.all_eq_true.mp tR r hr
  have tm := List.all_eq_true.mp tM m hm
  have tp := List.all_eq_true.mp tP p hp
  have tl := List.all_eq_true.mp tL l hl
  have s9 : exS prog C14 (seqN d164.body 8) [some (.r i), some (.p progV), some (.p q), some (.p r), some (.p m), some (.p p), some (.p l), none, none] h5 = .nx _ _ := mkl_set (w := wq) (met_ok rfl rfl rfl rfl rfl tq)
  have s10 : exS prog C14 (seqN d164.body 9) [some (.r i), some (.p progV), some (.p q), some (.p r), some (.p m), some (.p p), some (.p l), some (.r h5.length), none] _ = .nx _ _ := app_ok (ws := [wq]) (w := wo) rfl (by decide) (fun h2 => met_ok rfl rfl rfl rfl rfl tr)
  have s11 : exS prog C14 (seqN d164.body 10) [some (.r i), some (.p progV), some (.p q), some (.p r), some (.p m), some (.p p), some (.p l), some (.r h5.length), none] _ = .nx _ _ := app_ok (ws := [wq, wo]) (w := wr) rfl (by decide) (fun h2 => met_ok rfl rfl rfl rfl rfl tm)
  have s12 : exS prog C14 (seqN d164.body 11) [some (.r i), some (.p progV), some (.p q), some (.p r), some (.p m), some (.p p), some (.p l), some (.r h5.length), none] _ = .nx _ _ := app_ok (ws := [wq, wo, wr]) (w := wo) rfl (by decide) (fun h2 => met_ok rfl rfl rfl rfl rfl tp)
  have s13 : exS prog C14 (seqN d164.body 12) [some (.r i), some (.p progV), some (.p q), some (.p r), some (.p m), some (.p p), some (.p l), some (.r h5.length), none] _ = .nx _ _ := app_ok (ws := [wq, wo, wr, wo]) (w := wl) rfl (by decide) (fun h2 => met_ok rfl rfl rfl rfl rfl tl)
  have s14 : exS prog C14 (seqN d164.body 13) [some (.r i), some (.p progV), some (.p q), some (.p r), some (.p m), some (.p p), some (.p l), some (.r h5.length), none] (h5 ++ [some (.lst (liftP [wq, wo, wr, wo, wl]))]) = .nx _ _ := if_ne (L := h5.length) (ws := [wq, wo, wr, wo, wl]) (b := .lst [wq, wo, wr, wo, wl]) getR_append rfl (by kernel_rfl) (by decide +kernel)
  have D13 : Dice (h5 ++ [some (.lst (liftP [wq, wo, wr, wo, wl]))]) i (n + 1 + 1 + 1 + 1 + 1) := D5.app
  obtain ⟨x, o6, hx, s15, D6⟩ := pick_set (j := 8) (ce := arg2 (asgE (seqN d164.body 14))) (σ := [some (.r i), some (.p progV), some (.p q), some (.p r), some (.p m), some (.p p), some (.p l), some (.r h5.length), none]) (xs := menuT) D13 (by omega) (by decide +kernel) (by decide +kernel) rfl (by kernel_rfl)
  generalize (h5 ++ [some (MO.lst (liftP [wq, wo, wr, wo, wl]))]).set i (some o6) = h6 at s15 D6
  have tx : ∀ f ∈ ([144,149,153,156,159] : List Nat), tstM f [112,97,114,115,101,32,78,111,110,101] x = true := fun f hf => List.all_eq_true.mp (List.all_eq_true.mp tT f hf) x hx
  have s16 : exS prog C14 (seqN d164.body 15) [some (.r i), some (.p progV), some (.p q), some (.p r), some (.p m), some (.p p), some (.p l), some (.r h5.length), some (.p x)] h6 = .nx _ _ := mkl_set (w := wn) (met_ok rfl rfl rfl rfl rfl (tx 144 (by decide)))
  have s17 : exS prog C14 (seqN d164.body 16) [some (.r i), some (.p progV), some (.p q), some (.p r), some (.p m), some (.p p), some (.p l), some (.r h6.length), some (.p x)] _ = .nx _ _ := app_ok (ws := [wn]) (w := wn) rfl (by decide) (fun h2 => met_ok rfl rfl rfl rfl rfl (tx 149 (by decide)))
  have s18 : exS prog C14 (seqN d164.body 17) [some (.r i), some (.p progV), some (.p q), some (.p r), some (.p m), some (.p p), some (.p l), some (.r h6.length), some (.p x)] _ = .nx _ _ := app_ok (ws := [wn, wn]) (w := wn) rfl (by decide) (fun h2 => met_ok rfl rfl rfl rfl rfl (tx 153 (by decide)))
  have s19 : exS prog C14 (seqN d164.body 18) [some (.r i), some (.p progV), some (.p q), some (.p r), some (.p m), some (.p p), some (.p l), some (.r h6.length), some (.p x)] _ = .nx _ _ := app_ok (ws := [wn, wn, wn]) (w := wn) rfl (by decide) (fun h2 => met_ok rfl rfl rfl rfl rfl (tx 156 (by decide)))
  have s20 : exS prog C14 (seqN d164.body 19) [some (.r i), some (.p progV), some (.p q), some (.p r), some (.p m), some (.p p), some (.p l), some (.r h6.length), some (.p x)] _ = .nx _ _ := app_ok (ws := [wn, wn, wn, wn]) (w := wn) rfl (by decide) (fun h2 => met_ok rfl rfl rfl rfl rfl (tx 159 (by decide)))
  have s21 : exS prog C14 (seqN d164.body 20) [some (.r i), some (.p progV), some (.p q), some (.p r), some (.p m), some (.p p), some (.p l), some (.r h6.length), some (.p x)] (h6 ++ [some (.lst (liftP [wn, wn, wn, wn, wn]))]) = .rt (.p (.bl true)) _ := ret_eq (L := h6.length) (ws := [wn, wn, wn, wn, wn]) (b := .lst [wn, wn, wn, wn, wn]) getR_append rfl (by kernel_rfl) (by decide +kernel)
  refine ⟨_, (seq_nx (s1 _)).trans <| (seq_nx (s2 _)).trans <| (seq_nx s3).trans <| (seq_nx (s4 _)).trans <| (seq_nx s5).trans <| (seq_nx s6).trans <| (seq_nx s7).trans <| (seq_nx s8).trans <| (seq_nx s9).trans <| (seq_nx s10).trans <| (seq_nx s11).trans <| (seq_nx s12).trans <| (seq_nx s13).trans <| (seq_nx s14).trans <| (seq_nx s15).trans <| (seq_nx s16).trans <| (seq_nx s17).trans <| (seq_nx s18).trans <| (seq_nx s19).trans <| (seq_nx s20).trans s21, D6.app⟩

theorem dice_ok {ns : List Int} {j : Nat} {h : Hh} (hj : j < 1000) : ∃ o, callD prog 15 160 [.p (.lam 0 (ns.map PV.int)), .p (.int j)] h = .ok (.r h.length) (h ++ [some o]) ∧ Dice (h ++ [some o]) h.length 0 := by
  suffices ∃ (σ : Sg) (a b : Int), exS prog C14 d160.body [some (.p (.lam 0 (ns.map PV.int))), some (.p (.int j)), none, none, none] h = .rt (.r h.length) (h ++ [some (.lst [.p (.int a), .p (.int b), .p (.int 0)])]) by
    obtain ⟨_, a, b, e⟩ := this
    refine ⟨_, ?_, a, b, 0, getR_append, by omega, by omega⟩
    show runD prog C14 d160 [.p (.lam 0 (ns.map PV.int)), .p (.int j)] h = _
    unfold runD
    have e2 : exS prog C14 d160.body (start [.p (.lam 0 (ns.map PV.int)), .p (.int j)] d160.n) h = .rt (.r h.length) (h ++ [some (.lst [.p (.int a), .p (.int b), .p (.int 0)])]) := e
    rw [e2]
    have nb : Nat.blt h.length h.length = false := by
      cases q : Nat.blt h.length h.length with
      | false => rfl
      | true => exact absurd (Nat.le_of_ble_eq_true q) (Nat.lt_irrefl _)
    show (if Nat.blt h.length h.length = true then _ else _) = _
    rw [nb]
    rfl
  have js : ((j : Int)).natAbs < 2 ^ 80 := by omega
  have k1 : binV prog C14 .mul (.p (.int 59)) (.p (.int j)) h = .ok (.p (.int (59 * j))) h := bin_i (small_mul (by decide) js)
  have k2 : binV prog C14 .add (.p (.int (59 * j))) (.p (.int 31)) h = .ok (.p (.int (59 * j + 31))) h := bin_i rfl
  have l1 : bfV prog C14 .len [.p (.lam 0 (ns.map PV.int))] h = .ok (.p (.int (ns.map PV.int).length)) h := rfl
  have c1 : cmpV prog C14 .lt (.p (.int j)) (.p (.int (ns.map PV.int).length)) h = .ok (.p (.bl (decide ((j : Int) < (ns.map PV.int).length)))) h := rfl
  -- the cell, whatever it is
  have st2 : ∃ z : Int, exS prog C14 (seqN d160.body 1) [some (.p (.lam 0 (ns.map PV.int))), some (.p (.int j)), some (.p (.int (59 * j + 31))), none, none] h = .nx [some (.p (.lam 0 (ns.map PV.int))), some (.p (.int j)), some (.p (.int z)), none, none] h := by
    by_cases hz : (j : Int) < (ns.map PV.int).length
    · have hl : j < ns.length := by simpa using hz
      rw [decide_eq_true hz] at c1
      refine ⟨ns[j], ?_⟩
      have ep : place (ns.map PV.int).length (j : Int) = some j := by
        show (if Nat.blt j (ns.map PV.int).length = true then some j else none) = some j
        rw [if_pos (show Nat.blt j (ns.map PV.int).length = true from Nat.ble_eq_true_of_le (by rw [List.length_map]; exact hl))]
      have x1 : ixV prog C14 (.p (.lam 0 (ns.map PV.int))) (.p (.int j)) h = .ok (.p (.int ns[j])) h := by
        show ofO 17 (match place (ns.map PV.int).length (j : Int) with | some m => (ns.map PV.int)[m]? | none => none) h = _
        rw [ep]
        show ofO 17 (ns.map PV.int)[j]? h = _
        rw [List.getElem?_map, List.getElem?_eq_getElem hl]
        rfl
      show exS prog C14 (.ifs (.cmp .lt (.var 1) (.bf .len (.cons (.var 0) .nil))) (.asg (.nm 2 .nil) (.ix (.var 0) (.var 1))) .skip) _ h = _
      simp only [s_if, s_skip, s_set, e_cmp, e_ix, e_bf, e_var', e_cst, a_cons, a_nil, b_ok, sr_ok, List.getElem?_cons_zero, List.getElem?_cons_succ, List.set_cons_zero, List.set_cons_succ, l1, c1, x1]
    · rw [decide_eq_false hz] at c1
      refine ⟨59 * j + 31, ?_⟩
      show exS prog C14 (.ifs (.cmp .lt (.var 1) (.bf .len (.cons (.var 0) .nil))) (.asg (.nm 2 .nil) (.ix (.var 0) (.var 1))) .skip) _ h = _
      simp only [s_if, s_skip, s_set, e_cmp, e_ix, e_bf, e_var', e_cst, a_cons, a_nil, b_ok, sr_ok, List.getElem?_cons_zero, List.getElem?_cons_succ, List.set_cons_zero, List.set_cons_succ, l1, c1]
  obtain ⟨z, s2⟩ := st2
  have s1 : exS prog C14 (seqN d160.body 0) [some (.p (.lam 0 (ns.map PV.int))), some (.p (.int j)), none, none, none] h = .nx [some (.p (.lam 0 (ns.map PV.int))), some (.p (.int j)), some (.p (.int (59 * j + 31))), none, none] h := by
    show exS prog C14 (.asg (.nm 2 .nil) (.bin .add (.bin .mul (.cst (.int 59)) (.var 1)) (.cst (.int 31)))) _ h = _
    simp only [s_set, e_bin, e_var', e_cst, b_ok, sr_ok, List.getElem?_cons_zero, List.getElem?_cons_succ, List.set_cons_zero, List.set_cons_succ, k1, k2]
  obtain ⟨M, hM, pM⟩ : ∃ M : Int, 0 < M ∧ evE prog C14 (.bin .pow (.bin .pow (.cst (.int 10)) (.cst (.int 60))) (.cst (.int 10))) [some (.p (.lam 0 (ns.map PV.int))), some (.p (.int j)), some (.p (.int z)), none, none] h = .ok (.p (.int M)) h := ⟨(10 ^ 60) ^ 10, by decide +kernel, by kernel_rfl⟩
  have a1 : bfV prog C14 .abs [.p (.int z)] h = .ok (.p (.int z.natAbs)) h := rfl
  have a2 : ∀ x : Int, bfV prog C14 .int [.p (.int x)] h = .ok (.p (.int x)) h := fun x => rfl
  have a3 : ∀ b : Bool, bfV prog C14 .int [.p (.bl b)] h = .ok (.p (.int (if b then 1 else 0))) h := fun x => rfl
  have m1 : binV prog C14 .mod (.p (.int z.natAbs)) (.p (.int M)) h = .ok (.p (.int (z.natAbs % M))) h := bin_i (mod_pos hM)
  have s3 : exS prog C14 (seqN d160.body 2) [some (.p (.lam 0 (ns.map PV.int))), some (.p (.int j)), some (.p (.int z)), none, none] h = .nx [some (.p (.lam 0 (ns.map PV.int))), some (.p (.int j)), some (.p (.int z)), some (.p (.int (z.natAbs % M))), none] h := by
    show exS prog C14 (.asg (.nm 3 .nil) (.bin .mod (.bf .int (.cons (.bf .abs (.cons (.var 2) .nil)) .nil)) (.bin .pow (.bin .pow (.cst (.int 10)) (.cst (.int 60))) (.cst (.int 10))))) _ h = _
    rw [s_set, e_bin]
    simp only [e_bf, e_var', a_cons, a_nil, b_ok, List.getElem?_cons_zero, List.getElem?_cons_succ, a1, a2, pM, m1, sr_ok, List.set_cons_zero, List.set_cons_succ]
  let g : Int := z.natAbs % M
  have n1 : binV prog C14 .mod (.p (.int g)) (.p (.int 2305843009213693669)) h = .ok (.p (.int (g % 2305843009213693669))) h := bin_i (mod_pos (by decide))
  have n2 : binV prog C14 .mul (.p (.int (g % 2305843009213693669))) (.p (.int 1000393)) h = .ok (.p (.int (g % 2305843009213693669 * 1000393))) h := bin_i (small_mul (mod_small (by decide) (by decide)) (by decide))
  have n3 : binV prog C14 .mul (.p (.int 8069)) (.p (.int j)) h = .ok (.p (.int (8069 * j))) h := bin_i (small_mul (by decide) js)
  have n4 : cmpV prog C14 .lt (.p (.int z)) (.p (.int 0)) h = .ok (.p (.bl (decide (z < 0)))) h := rfl
  have n5 : binV prog C14 .mul (.p (.int 47)) (.p (.int (if decide (z < 0) then 1 else 0))) h = .ok (.p (.int (47 * (if decide (z < 0) then 1 else 0)))) h := bin_i (small_mul (by decide) (by split <;> decide))
  have n6 : ∀ x y : Int, binV prog C14 .add (.p (.int x)) (.p (.int y)) h = .ok (.p (.int (x + y))) h := fun x y => bin_i rfl
  let b0 : Int := g % 2305843009213693669 * 1000393 + 8069 * j + 47 * (if decide (z < 0) then 1 else 0) + 41
  have s4 : exS prog C14 (seqN d160.body 3) [some (.p (.lam 0 (ns.map PV.int))), some (.p (.int j)), some (.p (.int z)), some (.p (.int g)), none] h = .nx [some (.p (.lam 0 (ns.map PV.int))), some (.p (.int j)), some (.p (.int z)), some (.p (.int g)), some (.p (.int b0))] h := by
    show exS prog C14 (.asg (.nm 4 .nil) (.bin .add (.bin .add (.bin .add (.bin .mul (.bin .mod (.bf .int (.cons (.var 3) .nil)) (.cst (.int 2305843009213693669))) (.cst (.int 1000393))) (.bin .mul (.cst (.int 8069)) (.var 1))) (.bin .mul (.cst (.int 47)) (.bf .int (.cons (.cmp .lt (.var 2) (.cst (.int 0))) .nil)))) (.cst (.int 41)))) _ h = _
    simp only [s_set, e_bin, e_bf, e_cmp, e_var', e_cst, a_cons, a_nil, b_ok, sr_ok, List.getElem?_cons_zero, List.getElem?_cons_succ, List.set_cons_zero, List.set_cons_succ, a2, a3, n1, n2, n3, n4, n5, n6]
    rfl
  have v1 : binV prog C14 .mod (.p (.int b0)) (.p (.int 2305843009213693669)) h = .ok (.p (.int (b0 % 2305843009213693669))) h := bin_i (mod_pos (by decide))
  obtain ⟨T, pT⟩ : ∃ T : Int, evE prog C14 (.bin .pow (.cst (.int 10)) (.cst (.int 18))) [some (.p (.lam 0 (ns.map PV.int))), some (.p (.int j)), some (.p (.int z)), some (.p (.int g)), some (.p (.int b0))] h = .ok (.p (.int T)) h := ⟨10 ^ 18, by kernel_rfl⟩
  have v2 : binV prog C14 .sub (.p (.int g)) (.p (.int T)) h = .ok (.p (.int (g - T))) h := bin_i rfl
  have v3 : ∀ x : Int, bfV prog C14 .max2 [.p (.int 0), .p (.int x)] h = .ok (.p (.int (if x > 0 then x else 0))) h := fun x => rfl
  have s5 : exS prog C14 (seqN d160.body 4) [some (.p (.lam 0 (ns.map PV.int))), some (.p (.int j)), some (.p (.int z)), some (.p (.int g)), some (.p (.int b0))] h = .rt (.r h.length) (h ++ [some (.lst [.p (.int (if g - T > 0 then g - T else 0)), .p (.int (b0 % 2305843009213693669)), .p (.int 0)])]) := by
    show exS prog C14 (.ret (.lst true (.cons (.bf .max2 (.cons (.cst (.int 0)) (.cons (.bin .sub (.var 3) (.bin .pow (.cst (.int 10)) (.cst (.int 18)))) .nil))) (.cons (.bin .mod (.bf .int (.cons (.var 4) .nil)) (.cst (.int 2305843009213693669))) (.cons (.cst (.int 0)) .nil))))) _ h = _
    rw [s_ret, e_lst]
    have ea : evE prog C14 (.bin .sub (.var 3) (.bin .pow (.cst (.int 10)) (.cst (.int 18)))) [some (.p (.lam 0 (ns.map PV.int))), some (.p (.int j)), some (.p (.int z)), some (.p (.int g)), some (.p (.int b0))] h = .ok (.p (.int (g - T))) h := by
      rw [e_bin]
      simp only [e_var', List.getElem?_cons_zero, List.getElem?_cons_succ, b_ok, pT, v2]
    have eb : evE prog C14 (.bin .mod (.bf .int (.cons (.var 4) .nil)) (.cst (.int 2305843009213693669))) [some (.p (.lam 0 (ns.map PV.int))), some (.p (.int j)), some (.p (.int z)), some (.p (.int g)), some (.p (.int b0))] h = .ok (.p (.int (b0 % 2305843009213693669))) h := by
      rw [e_bin]
      simp only [e_bf, e_var', e_cst, a_cons, a_nil, List.getElem?_cons_zero, List.getElem?_cons_succ, b_ok, a2, v1]
    simp only [a_cons, a_nil, e_bf, e_cst, b_ok, ea, eb, v3]
    rfl
  exact ⟨[], _, _, (seq_nx s1).trans <| (seq_nx s2).trans <| (seq_nx s3).trans <| (seq_nx s4).trans s5⟩

def KK : Nat := 15
/-- a loop that keeps something and never leaves -/
theorem loop_inv {f : PV → Sg → Hh → SR} (I : Sg → Hh → Prop) : ∀ (xs : List PV), (∀ x ∈ xs, ∀ σ h, I σ h → ∃ σ1 h1, f x σ h = .nx σ1 h1 ∧ I σ1 h1) → ∀ σ h, I σ h → ∃ σ1 h1, loopS f xs σ h = .nx σ1 h1 ∧ I σ1 h1
  | [], _, σ, h, i => ⟨σ, h, rfl, i⟩
  | x :: xs, hf, σ, h, i => by
    obtain ⟨σ1, h1, e, i1⟩ := hf x (List.mem_cons_self ..) σ h i
    obtain ⟨σ2, h2, e2, i2⟩ := loop_inv I xs (fun y hy => hf y (List.mem_cons_of_mem _ hy)) σ1 h1 i1
    refine ⟨σ2, h2, ?_, i2⟩
    show (match f x σ h with
      | .nx σ h => loopS f xs σ h
      | .ct σ h => loopS f xs σ h
      | .bk σ h => .nx σ h
      | r => r) = _
    rw [e]
    exact e2
/-- a for over a list of data -/
theorem for_ok {P : Prog} {C : Call} {i : Nat} {it : CE} {b : CS} {σ : Sg} {h : Hh} {xs : List PV} {r : SR} (e : evE P C it σ h = .ok (.p (.lst xs)) h) (l : loopS (fun x σ h => exS P C b (σ.set i (some (.p x))) h) xs σ h = r) (hr : ∃ σ1 h1, r = .nx σ1 h1) : exS P C (.for_ [i] true it b) σ h = r := by
  obtain ⟨σ1, h1, rfl⟩ := hr
  rw [s_for, e]
  have e2 : iterV P C (.p (.lst xs)) h = .ok (.p (.lst xs)) h := rfl
  simp only [sr_ok, e2]
  have e3 : itemsV h (.p (.lst xs)) = some xs := rfl
  simp only [e3]
  show finS none (loopS (fun x σ h => exS P C b (σ.set i (some (.p x))) h) xs σ h) = _
  rw [l]
  rfl
def InvL (ns : List Int) (σ : Sg) (_ : Hh) : Prop := ∃ a b c d, σ = [some (.p (.lam 0 (ns.map PV.int))), a, b, c, d]
def InvT (ns : List Int) (i n : Nat) (σ : Sg) (h : Hh) : Prop := ∃ a b d, σ = [some (.p (.lam 0 (ns.map PV.int))), a, b, some (.r i), d] ∧ Dice h i n
def bodyF : CS → CS
  | .for_ _ _ _ b => b
  | _ => .skip
theorem turn_ok {ns : List Int} {i n : Nat} (hn : n + 10 < 1000) {x : PV} {σ : Sg} {h : Hh} (I : InvT ns i n σ h) : ∃ σ1 h1, exS prog C15 (bodyF (seqN (bodyF (seqN d165.body 0)) 1)) (σ.set 4 (some (.p x))) h = .nx σ1 h1 ∧ InvT ns i (n + 6) σ1 h1 := by
  obtain ⟨a, b, d, rfl, D⟩ := I
  obtain ⟨h', e, D2⟩ := right_ok D hn
  refine ⟨_, h', ?_, a, b, some (.p x), rfl, D2⟩
  show exS prog C15 (.ifs (.not (.call 164 (.cons (.var 3) .nil))) .hnil .skip) [some (.p (.lam 0 (ns.map PV.int))), a, b, some (.r i), some (.p x)] h = _
  have ec : evE prog C15 (.call 164 (.cons (.var 3) .nil)) [some (.p (.lam 0 (ns.map PV.int))), a, b, some (.r i), some (.p x)] h = .ok (.p (.bl true)) h' := call_ok (vs := [.r i]) (h1 := h) rfl e
  rw [s_if, e_not, ec]
  rfl
theorem spot_ok {ns : List Int} {j : Nat} (hj : j < 1000) {σ : Sg} {h : Hh} (I : InvL ns σ h) : ∃ σ1 h1, exS prog C15 (bodyF (seqN d165.body 0)) (σ.set 1 (some (.p (.int j)))) h = .nx σ1 h1 ∧ InvL ns σ1 h1 := by
  obtain ⟨a, b, c, d, rfl⟩ := I
  obtain ⟨o, e, D⟩ := dice_ok (ns := ns) (h := h) hj
  have s1 : exS prog C15 (seqN (bodyF (seqN d165.body 0)) 0) [some (.p (.lam 0 (ns.map PV.int))), some (.p (.int j)), b, c, d] h = .nx [some (.p (.lam 0 (ns.map PV.int))), some (.p (.int j)), b, some (.r h.length), d] (h ++ [some o]) := set_ok (call_ok (vs := [.p (.lam 0 (ns.map PV.int)), .p (.int j)]) (h1 := h) rfl e)
  have i0 : InvT ns h.length 0 [some (.p (.lam 0 (ns.map PV.int))), some (.p (.int j)), b, some (.r h.length), d] (h ++ [some o]) := ⟨_, _, _, rfl, D⟩
  obtain ⟨σ1, h1, e1, i1⟩ := turn_ok (x := .int 0) (by omega) i0
  obtain ⟨σ2, h2, e2, i2⟩ := turn_ok (x := .int 1) (by omega) i1
  obtain ⟨σ3, h3, e3, i3⟩ := turn_ok (x := .int 2) (by omega) i2
  have l : loopS (fun x σ h => exS prog C15 (bodyF (seqN (bodyF (seqN d165.body 0)) 1)) (σ.set 4 (some (.p x))) h) [.int 0, .int 1, .int 2] [some (.p (.lam 0 (ns.map PV.int))), some (.p (.int j)), b, some (.r h.length), d] (h ++ [some o]) = .nx σ3 h3 := by
    simp only [loopS, e1, e2, e3]
  obtain ⟨a', b', d', es, _⟩ := i3
  refine ⟨σ3, h3, (seq_nx s1).trans (for_ok (xs := [.int 0, .int 1, .int 2]) rfl l ⟨_, _, rfl⟩), a', b', some (.r h.length), d', es⟩
abbrev wf : PV := .str [102,105,110,101]
abbrev w0 : PV := .str [112,97,114,115,101,32,48]
theorem plain (ns : List Int) (hl : ns.length ≤ 63) : callD prog (KK + 1) 165 [.p (.lam 0 (ns.map PV.int))] [] = .ok (.p (.bl true)) [] := by
  suffices ∃ hf, exS prog C15 d165.body [some (.p (.lam 0 (ns.map PV.int))), none, none, none, none] [] = .rt (.p (.bl true)) hf by
    obtain ⟨hf, e⟩ := this
    show (match runD prog C15 d165 [.p (.lam 0 (ns.map PV.int))] [] with
      | .ok (.p v) _ => .ok (.p v) []
      | .ok (.r _) _ => .bad 75
      | .exc e _ => .exc e []
      | .bad w => .bad w : Res Val) = _
    unfold runD
    have e2 : exS prog C15 d165.body (start [.p (.lam 0 (ns.map PV.int))] d165.n) [] = .rt (.p (.bl true)) hf := e
    rw [e2]
    rfl
  -- the items of the outer loop
  obtain ⟨xs, ex, hx⟩ : ∃ xs : List PV, evE prog C15 (.bf .range (.cons (.bf .max2 (.cons (.cst (.int 1)) (.cons (.bf .min2 (.cons (.cst (.int 6)) (.cons (.bf .len (.cons (.var 0) .nil)) .nil))) .nil))) .nil)) [some (.p (.lam 0 (ns.map PV.int))), none, none, none, none] [] = .ok (.p (.lst xs)) [] ∧ ∀ x ∈ xs, ∃ j : Nat, x = .int j ∧ j < 1000 := by
    let m : Int := if ((ns.map PV.int).length : Int) < 6 then ((ns.map PV.int).length : Int) else 6
    let t : Int := if m > 1 then m else 1
    have ht : 0 ≤ t ∧ t ≤ 6 := by
      show 0 ≤ (if m > 1 then m else 1) ∧ (if m > 1 then m else 1) ≤ 6
      have hm : m ≤ 6 := by
        show (if ((ns.map PV.int).length : Int) < 6 then ((ns.map PV.int).length : Int) else 6) ≤ 6
        split <;> omega
      split <;> omega
    have rg : rngOk t = true := by
      unfold rngOk
      rw [decide_eq_true (by omega), decide_eq_true (by omega)]
      rfl
    have r1 : evE prog C15 (.bf .range (.cons (.bf .max2 (.cons (.cst (.int 1)) (.cons (.bf .min2 (.cons (.cst (.int 6)) (.cons (.bf .len (.cons (.var 0) .nil)) .nil))) .nil))) .nil)) [some (.p (.lam 0 (ns.map PV.int))), none, none, none, none] [] = ofO 21 (if rngOk t = true then some (.lst (rangeP 0 1 t.toNat)) else none) [] := by
      rfl
    refine ⟨rangeP 0 1 t.toNat, by rw [r1, if_pos rg]; rfl, ?_⟩
    have go : ∀ (k : Nat) (lo : Nat), ∀ x ∈ rangeP (lo : Int) 1 k, ∃ j : Nat, x = .int j ∧ j < lo + k := by
      intro k
      induction k with
      | zero => intro lo x hx; cases hx
      | succ k ih =>
        intro lo x hx
        have hx : x ∈ PV.int (lo : Int) :: rangeP ((lo : Int) + 1) 1 k := hx
        rcases List.mem_cons.mp hx with rfl | hx
        · exact ⟨lo, rfl, by omega⟩
        · obtain ⟨j, e, hj⟩ := ih (lo + 1) x (by exact_mod_cast hx)
          exact ⟨j, e, by omega⟩
    intro x hx
    obtain ⟨j, e, hj⟩ := go t.toNat 0 x hx
    exact ⟨j, e, by omega⟩
  obtain ⟨σ1, h1, l, a, b, c, d, rfl⟩ := loop_inv (f := fun x σ h => exS prog C15 (bodyF (seqN d165.body 0)) (σ.set 1 (some (.p x))) h) (InvL ns) xs (fun x hx' σ h I => by
    obtain ⟨j, rfl, hj⟩ := hx x hx'
    exact spot_ok hj I) [some (.p (.lam 0 (ns.map PV.int))), none, none, none, none] [] ⟨none, none, none, none, rfl⟩
  have s0 : exS prog C15 (seqN d165.body 0) [some (.p (.lam 0 (ns.map PV.int))), none, none, none, none] [] = .nx [some (.p (.lam 0 (ns.map PV.int))), a, b, c, d] h1 := for_ok ex l ⟨_, _, rfl⟩
  have s1 : exS prog C15 (seqN d165.body 1) [some (.p (.lam 0 (ns.map PV.int))), a, b, c, d] h1 = .nx _ _ := mkl_set (w := wf) (by kernel_rfl)
  have s2 : exS prog C15 (seqN d165.body 2) [some (.p (.lam 0 (ns.map PV.int))), a, some (.r h1.length), c, d] _ = .nx _ _ := app_ok (ws := [wf]) (w := wf) rfl (by decide) (fun h2 => by kernel_rfl)
  have s3 : exS prog C15 (seqN d165.body 3) [some (.p (.lam 0 (ns.map PV.int))), a, some (.r h1.length), c, d] _ = .nx _ _ := app_ok (ws := [wf, wf]) (w := w0) rfl (by decide) (fun h2 => by kernel_rfl)
  have s4 : exS prog C15 (seqN d165.body 4) [some (.p (.lam 0 (ns.map PV.int))), a, some (.r h1.length), c, d] _ = .nx _ _ := app_ok (ws := [wf, wf, w0]) (w := w0) rfl (by decide) (fun h2 => by kernel_rfl)
  have s5 : exS prog C15 (seqN d165.body 5) [some (.p (.lam 0 (ns.map PV.int))), a, some (.r h1.length), c, d] _ = .nx _ _ := app_ok (ws := [wf, wf, w0, w0]) (w := wf) rfl (by decide) (fun h2 => by kernel_rfl)
  have s6 : exS prog C15 (seqN d165.body 6) [some (.p (.lam 0 (ns.map PV.int))), a, some (.r h1.length), c, d] _ = .nx _ _ := app_ok (ws := [wf, wf, w0, w0, wf]) (w := wf) rfl (by decide) (fun h2 => by kernel_rfl)
  have s7 : exS prog C15 (seqN d165.body 7) [some (.p (.lam 0 (ns.map PV.int))), a, some (.r h1.length), c, d] (h1 ++ [some (.lst (liftP [wf, wf, w0, w0, wf, wf]))]) = .rt (.p (.bl true)) _ := ret_eq (L := h1.length) (ws := [wf, wf, w0, w0, wf, wf]) (b := .lst [wf, wf, w0, w0, wf, wf]) getR_append rfl (by kernel_rfl) (by decide +kernel)
  exact ⟨_, (seq_nx s0).trans <| (seq_nx s1).trans <| (seq_nx s2).trans <| (seq_nx s3).trans <| (seq_nx s4).trans <| (seq_nx s5).trans <| (seq_nx s6).trans s7⟩
end K77
set_option Elab.async false
set_option linter.all false
set_option autoImplicit false
set_option maxRecDepth 100000
set_option maxHeartbeats 0

namespace K77
open PySem PySem.Spec PyProof.Rows Sb
open L2 (V Hp HO VK XK Room defScope defBody defArgs)
open Ev (PV Val MO Hh Sg Exc Res SR)
theorem names_nd : names.Nodup := by decide +kernel
theorem names_sm : names.all (fun x => Nat.blt x.length 100) = true := by decide +kernel
def EE (w : World) (K : PySem.W.Frag) (T : List (Addr × Str)) : En := { P := prog, prog := PW, w := w, K := K, adr := adrK K, cad := cadK K, fnm := fnmOf names, T := T, inj := fnmOf_inj names_nd names_sm }
abbrev N1 : List Str := ["value"]
abbrev P1 : List Str := ["value"]
theorem S1 : L2.FnScope N1 P1 (defScope s1) := ⟨rfl, rfl, rfl, by decide +kernel, rfl, by decide +kernel, by decide +kernel⟩
abbrev N2 : List Str := ["value", "least", "most"]
abbrev P2 : List Str := ["value", "least", "most"]
theorem S2 : L2.FnScope N2 P2 (defScope s2) := ⟨rfl, rfl, rfl, by decide +kernel, rfl, by decide +kernel, by decide +kernel⟩
abbrev N3 : List Str := ["value", "sign"]
abbrev P3 : List Str := ["value"]
theorem S3 : L2.FnScope N3 P3 (defScope s3) := ⟨rfl, rfl, rfl, by decide +kernel, rfl, by decide +kernel, by decide +kernel⟩
abbrev N4 : List Str := ["value", "digits", "sign"]
abbrev P4 : List Str := ["value"]
theorem S4 : L2.FnScope N4 P4 (defScope s4) := ⟨rfl, rfl, rfl, by decide +kernel, rfl, by decide +kernel, by decide +kernel⟩
abbrev N9 : List Str := ["text", "found", "at", "size"]
abbrev P9 : List Str := ["text"]
theorem S9 : L2.FnScope N9 P9 (defScope s9) := ⟨rfl, rfl, rfl, by decide +kernel, rfl, by decide +kernel, by decide +kernel⟩
abbrev N10 : List Str := ["self"]
abbrev P10 : List Str := ["self"]
theorem S10 : L2.FnScope N10 P10 (defScope s10) := ⟨rfl, rfl, rfl, by decide +kernel, rfl, by decide +kernel, by decide +kernel⟩
abbrev N11 : List Str := ["self", "sign", "can_stand"]
abbrev P11 : List Str := ["self", "sign"]
theorem S11 : L2.FnScope N11 P11 (defScope s11) := ⟨rfl, rfl, rfl, by decide +kernel, rfl, by decide +kernel, by decide +kernel⟩
abbrev N12 : List Str := ["self", "sign", "row"]
abbrev P12 : List Str := ["self", "sign"]
theorem S12 : L2.FnScope N12 P12 (defScope s12) := ⟨rfl, rfl, rfl, by decide +kernel, rfl, by decide +kernel, by decide +kernel⟩
abbrev N13 : List Str := ["self"]
abbrev P13 : List Str := ["self"]
theorem S13 : L2.FnScope N13 P13 (defScope s13) := ⟨rfl, rfl, rfl, by decide +kernel, rfl, by decide +kernel, by decide +kernel⟩
abbrev N14 : List Str := ["text", "signs", "reader", "sign"]
abbrev P14 : List Str := ["text"]
theorem S14 : L2.FnScope N14 P14 (defScope s14) := ⟨rfl, rfl, rfl, by decide +kernel, rfl, by decide +kernel, by decide +kernel⟩
abbrev N15 : List Str := ["shape", "one"]
abbrev P15 : List Str := ["shape"]
theorem S15 : L2.FnScope N15 P15 (defScope s15) := ⟨rfl, rfl, rfl, by decide +kernel, rfl, by decide +kernel, by decide +kernel⟩
abbrev N16 : List Str := ["inputs", "one"]
abbrev P16 : List Str := ["inputs"]
theorem S16 : L2.FnScope N16 P16 (defScope s16) := ⟨rfl, rfl, rfl, by decide +kernel, rfl, by decide +kernel, by decide +kernel⟩
abbrev N18 : List Str := ["self", "inputs", "atom", "one", "place"]
abbrev P18 : List Str := ["self", "inputs", "atom"]
theorem S18 : L2.FnScope N18 P18 (defScope s18) := ⟨rfl, rfl, rfl, by decide +kernel, rfl, by decide +kernel, by decide +kernel⟩
abbrev N19 : List Str := ["cls", "text", "found"]
abbrev P19 : List Str := ["cls", "text"]
theorem S19 : L2.FnScope N19 P19 (defScope s19) := ⟨rfl, rfl, rfl, by decide +kernel, rfl, by decide +kernel, by decide +kernel⟩
abbrev N39 : List Str := ["text", "shape"]
abbrev P39 : List Str := ["text"]
theorem S39 : L2.FnScope N39 P39 (defScope s39) := ⟨rfl, rfl, rfl, by decide +kernel, rfl, by decide +kernel, by decide +kernel⟩
abbrev N69 : List Str := ["value"]
abbrev P69 : List Str := ["value"]
theorem S69 : L2.FnScope N69 P69 (defScope s69) := ⟨rfl, rfl, rfl, by decide +kernel, rfl, by decide +kernel, by decide +kernel⟩
abbrev N74 : List Str := ["value", "text", "one", "other"]
abbrev P74 : List Str := ["value"]
theorem S74 : L2.FnScope N74 P74 (defScope s74) := ⟨rfl, rfl, rfl, by decide +kernel, rfl, by decide +kernel, by decide +kernel⟩
abbrev N75 : List Str := ["value"]
abbrev P75 : List Str := ["value"]
theorem S75 : L2.FnScope N75 P75 (defScope s75) := ⟨rfl, rfl, rfl, by decide +kernel, rfl, by decide +kernel, by decide +kernel⟩
abbrev N76 : List Str := ["value", "has_gaps"]
abbrev P76 : List Str := ["value", "has_gaps"]
theorem S76 : L2.FnScope N76 P76 (defScope s76) := ⟨rfl, rfl, rfl, by decide +kernel, rfl, by decide +kernel, by decide +kernel⟩
abbrev N77 : List Str := ["nodes", "found", "waiting", "at", "cut", "node"]
abbrev P77 : List Str := ["nodes"]
theorem S77 : L2.FnScope N77 P77 (defScope s77) := ⟨rfl, rfl, rfl, by decide +kernel, rfl, by decide +kernel, by decide +kernel⟩
abbrev N78 : List Str := ["kids", "found", "at"]
abbrev P78 : List Str := ["kids"]
theorem S78 : L2.FnScope N78 P78 (defScope s78) := ⟨rfl, rfl, rfl, by decide +kernel, rfl, by decide +kernel, by decide +kernel⟩
abbrev N79 : List Str := ["nodes", "kids", "found", "at", "places", "place", "node"]
abbrev P79 : List Str := ["nodes", "kids"]
theorem S79 : L2.FnScope N79 P79 (defScope s79) := ⟨rfl, rfl, rfl, by decide +kernel, rfl, by decide +kernel, by decide +kernel⟩
abbrev N80 : List Str := ["value", "has_gaps", "kids", "levels", "rows", "node", "bound", "row", "level"]
abbrev P80 : List Str := ["value", "has_gaps"]
theorem S80 : L2.FnScope N80 P80 (defScope s80) := ⟨rfl, rfl, rfl, by decide +kernel, rfl, by decide +kernel, by decide +kernel⟩
abbrev N84 : List Str := ["text", "found", "at", "size"]
abbrev P84 : List Str := ["text"]
theorem S84 : L2.FnScope N84 P84 (defScope s84) := ⟨rfl, rfl, rfl, by decide +kernel, rfl, by decide +kernel, by decide +kernel⟩
abbrev N85 : List Str := ["self", "tokens"]
abbrev P85 : List Str := ["self", "tokens"]
theorem S85 : L2.FnScope N85 P85 (defScope s85) := ⟨rfl, rfl, rfl, by decide +kernel, rfl, by decide +kernel, by decide +kernel⟩
abbrev N86 : List Str := ["self", "found"]
abbrev P86 : List Str := ["self"]
theorem S86 : L2.FnScope N86 P86 (defScope s86) := ⟨rfl, rfl, rfl, by decide +kernel, rfl, by decide +kernel, by decide +kernel⟩
abbrev N87 : List Str := ["self", "bound", "count", "sign"]
abbrev P87 : List Str := ["self", "bound"]
theorem S87 : L2.FnScope N87 P87 (defScope s87) := ⟨rfl, rfl, rfl, by decide +kernel, rfl, by decide +kernel, by decide +kernel⟩
abbrev N88 : List Str := ["self", "bound", "count"]
abbrev P88 : List Str := ["self"]
theorem S88 : L2.FnScope N88 P88 (defScope s88) := ⟨rfl, rfl, rfl, by decide +kernel, rfl, by decide +kernel, by decide +kernel⟩
abbrev N89 : List Str := ["self", "count", "head"]
abbrev P89 : List Str := ["self", "count"]
theorem S89 : L2.FnScope N89 P89 (defScope s89) := ⟨rfl, rfl, rfl, by decide +kernel, rfl, by decide +kernel, by decide +kernel⟩
abbrev N90 : List Str := ["self", "sign", "index", "binders", "head", "count"]
abbrev P90 : List Str := ["self"]
theorem S90 : L2.FnScope N90 P90 (defScope s90) := ⟨rfl, rfl, rfl, by decide +kernel, rfl, by decide +kernel, by decide +kernel⟩
abbrev N91 : List Str := ["text", "tokens", "reader", "nodes"]
abbrev P91 : List Str := ["text"]
theorem S91 : L2.FnScope N91 P91 (defScope s91) := ⟨rfl, rfl, rfl, by decide +kernel, rfl, by decide +kernel, by decide +kernel⟩
abbrev N94 : List Str := ["self", "nodes"]
abbrev P94 : List Str := ["self", "nodes"]
theorem S94 : L2.FnScope N94 P94 (defScope s94) := ⟨rfl, rfl, rfl, by decide +kernel, rfl, by decide +kernel, by decide +kernel⟩
abbrev N95 : List Str := ["cls", "text", "nodes"]
abbrev P95 : List Str := ["cls", "text"]
theorem S95 : L2.FnScope N95 P95 (defScope s95) := ⟨rfl, rfl, rfl, by decide +kernel, rfl, by decide +kernel, by decide +kernel⟩
abbrev N139 : List Str := ["word", "sign"]
abbrev P139 : List Str := ["word"]
theorem S139 : L2.FnScope N139 P139 (defScope s139) := ⟨rfl, rfl, rfl, by decide +kernel, rfl, by decide +kernel, by decide +kernel⟩
abbrev N140 : List Str := ["text"]
abbrev P140 : List Str := ["text"]
theorem S140 : L2.FnScope N140 P140 (defScope s140) := ⟨rfl, rfl, rfl, by decide +kernel, rfl, by decide +kernel, by decide +kernel⟩
abbrev N141 : List Str := ["question", "scope"]
abbrev P141 : List Str := ["question"]
theorem S141 : L2.FnScope N141 P141 (defScope s141) := ⟨rfl, rfl, rfl, by decide +kernel, rfl, by decide +kernel, by decide +kernel⟩
abbrev N142 : List Str := ["text", "question", "halves"]
abbrev P142 : List Str := ["text"]
theorem S142 : L2.FnScope N142 P142 (defScope s142) := ⟨rfl, rfl, rfl, by decide +kernel, rfl, by decide +kernel, by decide +kernel⟩
abbrev N143 : List Str := ["question"]
abbrev P143 : List Str := ["question"]
theorem S143 : L2.FnScope N143 P143 (defScope s143) := ⟨rfl, rfl, rfl, by decide +kernel, rfl, by decide +kernel, by decide +kernel⟩
abbrev N144 : List Str := ["text", "question"]
abbrev P144 : List Str := ["text"]
theorem S144 : L2.FnScope N144 P144 (defScope s144) := ⟨rfl, rfl, rfl, by decide +kernel, rfl, by decide +kernel, by decide +kernel⟩
abbrev N145 : List Str := ["value", "rank", "question"]
abbrev P145 : List Str := ["value"]
theorem S145 : L2.FnScope N145 P145 (defScope s145) := ⟨rfl, rfl, rfl, by decide +kernel, rfl, by decide +kernel, by decide +kernel⟩
abbrev N146 : List Str := ["ranks", "lines", "question"]
abbrev P146 : List Str := ["ranks"]
theorem S146 : L2.FnScope N146 P146 (defScope s146) := ⟨rfl, rfl, rfl, by decide +kernel, rfl, by decide +kernel, by decide +kernel⟩
abbrev N147 : List Str := ["line", "word", "blank", "rest", "rank", "question"]
abbrev P147 : List Str := ["line"]
theorem S147 : L2.FnScope N147 P147 (defScope s147) := ⟨rfl, rfl, rfl, by decide +kernel, rfl, by decide +kernel, by decide +kernel⟩
abbrev N148 : List Str := ["text", "told", "found", "last", "at", "line", "pair"]
abbrev P148 : List Str := ["text", "told"]
theorem S148 : L2.FnScope N148 P148 (defScope s148) := ⟨rfl, rfl, rfl, by decide +kernel, rfl, by decide +kernel, by decide +kernel⟩
abbrev N149 : List Str := ["text"]
abbrev P149 : List Str := ["text"]
theorem S149 : L2.FnScope N149 P149 (defScope s149) := ⟨rfl, rfl, rfl, by decide +kernel, rfl, by decide +kernel, by decide +kernel⟩
abbrev N152 : List Str := ["room", "world"]
abbrev P152 : List Str := ["room"]
theorem S152 : L2.FnScope N152 P152 (defScope s152) := ⟨rfl, rfl, rfl, by decide +kernel, rfl, by decide +kernel, by decide +kernel⟩
abbrev N153 : List Str := ["text", "worlds", "line", "world"]
abbrev P153 : List Str := ["text"]
theorem S153 : L2.FnScope N153 P153 (defScope s153) := ⟨rfl, rfl, rfl, by decide +kernel, rfl, by decide +kernel, by decide +kernel⟩
abbrev N154 : List Str := ["puts", "lines", "part", "program"]
abbrev P154 : List Str := ["puts"]
theorem S154 : L2.FnScope N154 P154 (defScope s154) := ⟨rfl, rfl, rfl, by decide +kernel, rfl, by decide +kernel, by decide +kernel⟩
abbrev N156 : List Str := ["text"]
abbrev P156 : List Str := ["text"]
theorem S156 : L2.FnScope N156 P156 (defScope s156) := ⟨rfl, rfl, rfl, by decide +kernel, rfl, by decide +kernel, by decide +kernel⟩
abbrev N157 : List Str := ["library"]
abbrev P157 : List Str := ["library"]
theorem S157 : L2.FnScope N157 P157 (defScope s157) := ⟨rfl, rfl, rfl, by decide +kernel, rfl, by decide +kernel, by decide +kernel⟩
abbrev N159 : List Str := ["text"]
abbrev P159 : List Str := ["text"]
theorem S159 : L2.FnScope N159 P159 (defScope s159) := ⟨rfl, rfl, rfl, by decide +kernel, rfl, by decide +kernel, by decide +kernel⟩
abbrev N160 : List Str := ["_law_script", "_law_spot", "_law_cell", "_law_great", "_law_blend"]
abbrev P160 : List Str := ["_law_script", "_law_spot"]
theorem S160 : L2.FnScope N160 P160 (defScope s160) := ⟨rfl, rfl, rfl, by decide +kernel, rfl, by decide +kernel, by decide +kernel⟩
abbrev N161 : List Str := ["_law_dice_here", "_law_total", "_law_one", "_law_two", "_law_found"]
abbrev P161 : List Str := ["_law_dice_here", "_law_total"]
theorem S161 : L2.FnScope N161 P161 (defScope s161) := ⟨rfl, rfl, rfl, by decide +kernel, rfl, by decide +kernel, by decide +kernel⟩
abbrev N162 : List Str := ["_law_dice_here", "_law_items"]
abbrev P162 : List Str := ["_law_dice_here", "_law_items"]
theorem S162 : L2.FnScope N162 P162 (defScope s162) := ⟨rfl, rfl, rfl, by decide +kernel, rfl, by decide +kernel, by decide +kernel⟩
abbrev N164 : List Str := ["_law_dice_here", "_law_program", "_law_question", "_law_ranks", "_law_room", "_law_puts", "_law_library", "_law_told", "_law_text"]
abbrev P164 : List Str := ["_law_dice_here"]
theorem S164 : L2.FnScope N164 P164 (defScope s164) := ⟨rfl, rfl, rfl, by decide +kernel, rfl, by decide +kernel, by decide +kernel⟩
abbrev N165 : List Str := ["_law_script", "_law_spot", "_law_told", "_law_dice_here", "_law_turn"]
abbrev P165 : List Str := ["_law_script"]
theorem S165 : L2.FnScope N165 P165 (defScope s165) := ⟨rfl, rfl, rfl, by decide +kernel, rfl, by decide +kernel, by decide +kernel⟩
abbrev N6 : List Str := ["self", "line"]
abbrev P6 : List Str := ["self", "line"]
theorem S6 : L2.FnScope N6 P6 (defScope s6) := ⟨rfl, rfl, rfl, by decide +kernel, rfl, by decide +kernel, by decide +kernel⟩
abbrev N163 : List Str := ["_law_call", "error"]
abbrev P163 : List Str := ["_law_call"]
theorem S163 : L2.FnScope N163 P163 (defScope s163) := ⟨rfl, rfl, rfl, by decide +kernel, rfl, by decide +kernel, by decide +kernel⟩
abbrev N155 : List Str := ["line", "nodes", "part", "equals", "rest"]
abbrev P155 : List Str := ["line"]
theorem S155 : L2.FnScope N155 P155 (defScope s155) := ⟨rfl, rfl, rfl, by decide +kernel, rfl, by decide +kernel, by decide +kernel⟩
abbrev N158 : List Str := ["line"]
abbrev P158 : List Str := ["line"]
theorem S158 : L2.FnScope N158 P158 (defScope s158) := ⟨rfl, rfl, rfl, by decide +kernel, rfl, by decide +kernel, by decide +kernel⟩
/-- what the head tells -/
structure Fx (w : World) (K : PySem.W.Frag) (T : List (Addr × Str)) (mg : Str → Option Value) (base : Heap) : Prop where
  is : IsK (EE w K T) K
  fl : ∀ m, FldK (EE w K T) K m
  me : ∀ m, MetK (EE w K T) K m
  mkk : ∀ c, MkK (EE w K T) K c
  kC : ∀ c, PySem.W.keepIn K (.ref (cadK K c)) = true
  ex : ExmK (EE w K T) K
  fd_163 : ∃ fd, L2.FunD K "_law_met" "_law_met" (defArgs s163) (defBody s163) (defScope s163) [] [] (adrK K 163) fd
  tb_164 : LamX.TabB base mg (He.cT K ("_law_right", none)).1 (He.cT K ("_law_right", none)).2
  tm_164 : ((He.cT K ("_law_right", none)).2, (envOfC "_law_right" (defScope s164) 0 0 .none).qual ++ "<lambda>") ∈ T
  tu_164 : ∀ p ∈ T, p.1 = (He.cT K ("_law_right", none)).2 → p.2 = (envOfC "_law_right" (defScope s164) 0 0 .none).qual ++ "<lambda>"
  tb_165 : LamX.TabB base mg (He.cT K ("law", none)).1 (He.cT K ("law", none)).2
  tm_165 : ((He.cT K ("law", none)).2, (envOfC "law" (defScope s165) 0 0 .none).qual ++ "<lambda>") ∈ T
  tu_165 : ∀ p ∈ T, p.1 = (He.cT K ("law", none)).2 → p.2 = (envOfC "law" (defScope s165) 0 0 .none).qual ++ "<lambda>"
  g_law : mg "law" = some (.ref (adrK K 165))
  n_isinstance : mg "isinstance" = none
  n_int : mg "int" = none
  n_bool : mg "bool" = none
  i_LONGEST : ∃ t, mg "LONGEST" = some (.int 1000000000000000000000000000000000000000000000000000000000000 t)
  g_is_integer : mg "is_integer" = some (.ref (adrK K 1))
  n_str : mg "str" = none
  n_len : mg "len" = none
  i_MAX_LETTERS : ∃ t, mg "MAX_LETTERS" = some (.int 8 t)
  s_LETTERS : ∃ t, mg "LETTERS" = some (.str "abcdefghijklmnopqrstuvwxyz" t)
  n_all : mg "all" = none
  s_ARROW : ∃ t, mg "ARROW" = some (.str " -> " t)
  i_MAX_ORDER : ∃ t, mg "MAX_ORDER" = some (.int 4 t)
  g_is_word : mg "is_word" = some (.ref (adrK K 3))
  n_tuple : mg "tuple" = none
  g_signs_of : mg "signs_of" = some (.ref (adrK K 9))
  i_MAX_PLACES : ∃ t, mg "MAX_PLACES" = some (.int 15 t)
  c_KindReader : mg "KindReader" = some (.ref (cadK K 11))
  c_Type : mg "Type" = some (.ref (cadK K 12))
  g_order_of : mg "order_of" = some (.ref (adrK K 16))
  g_type_of_text : mg "type_of_text" = some (.ref (adrK K 39))
  g_shape_of : mg "shape_of" = some (.ref (adrK K 14))
  g_kind_in : mg "kind_in" = some (.ref (adrK K 15))
  c_Library : mg "Library" = some (.ref (cadK K 13))
  r_3 : RzK (EE w K T) K 3
  c_InvalidLibrary : mg "InvalidLibrary" = some (.ref (cadK K 3))
  i_MAX_SCOPE : ∃ t, mg "MAX_SCOPE" = some (.int 140 t)
  n_list : mg "list" = none
  n_zip : mg "zip" = none
  g_is_scope : mg "is_scope" = some (.ref (adrK K 74))
  i_MAX_COUNT : ∃ t, mg "MAX_COUNT" = some (.int 15 t)
  g_is_within : mg "is_within" = some (.ref (adrK K 2))
  n_range : mg "range" = none
  n_enumerate : mg "enumerate" = none
  i_MAX_NODES : ∃ t, mg "MAX_NODES" = some (.int 40 t)
  g_is_node : mg "is_node" = some (.ref (adrK K 76))
  g_kids_of : mg "kids_of" = some (.ref (adrK K 77))
  g_level_of : mg "level_of" = some (.ref (adrK K 4))
  g_bound_of : mg "bound_of" = some (.ref (adrK K 79))
  i_MAX_LEVEL : ∃ t, mg "MAX_LEVEL" = some (.int 99 t)
  s_DIGITS : ∃ t, mg "DIGITS" = some (.str "0123456789" t)
  s_DOT : ∃ t, mg "DOT" = some (.str ". " t)
  s_LAMBDA : ∃ t, mg "LAMBDA" = some (.str "\\" t)
  s_GAP : ∃ t, mg "GAP" = some (.str "?" t)
  g_tokens_of : mg "tokens_of" = some (.ref (adrK K 84))
  c_Reader : mg "Reader" = some (.ref (cadK K 14))
  g_are_nodes : mg "are_nodes" = some (.ref (adrK K 80))
  c_Nodes : mg "Nodes" = some (.ref (cadK K 15))
  g_ends_of : mg "ends_of" = some (.ref (adrK K 78))
  g_nodes_of : mg "nodes_of" = some (.ref (adrK K 91))
  i_MAX_DIGITS : ∃ t, mg "MAX_DIGITS" = some (.int 60 t)
  ri_8 : RzI (EE w K T) K 8 23 (adrK K 6) ∧ ∃ fd, L2.FnOk PW w K mg base L2.CX0 1 (adrK K 6) fd P6 (spI (EE w K T) 8 23) ∧ L2.Binds K fd P6 []
  c_ParseError : mg "ParseError" = some (.ref (cadK K 8))
  s_NONE : ∃ t, mg "NONE" = some (.str "none" t)
  s_BETWEEN : ∃ t, mg "BETWEEN" = some (.str "; " t)
  s_TURNSTILE : ∃ t, mg "TURNSTILE" = some (.str "|- " t)
  g_is_question : mg "is_question" = some (.ref (adrK K 75))
  r_5 : RzK (EE w K T) K 5
  c_InvalidQuestion : mg "InvalidQuestion" = some (.ref (cadK K 5))
  g_question_text : mg "question_text" = some (.ref (adrK K 141))
  n_dict : mg "dict" = none
  g_is_rank_dict : mg "is_rank_dict" = some (.ref (adrK K 145))
  r_7 : RzK (EE w K T) K 7
  c_InvalidOperation : mg "InvalidOperation" = some (.ref (cadK K 7))
  n_sorted : mg "sorted" = none
  g_number_of : mg "number_of" = some (.ref (adrK K 139))
  g_question_told : mg "question_told" = some (.ref (adrK K 142))
  g_lines_of : mg "lines_of" = some (.ref (adrK K 140))
  g_rank_told : mg "rank_told" = some (.ref (adrK K 147))
  g_pairs_told : mg "pairs_told" = some (.ref (adrK K 148))
  c_Room : mg "Room" = some (.ref (cadK K 17))
  r_6 : RzK (EE w K T) K 6
  c_InvalidRoom : mg "InvalidRoom" = some (.ref (cadK K 6))
  c_Program : mg "Program" = some (.ref (cadK K 16))
  g_put_told : mg "put_told" = some (.ref (adrK K 155))
  g_require_library : mg "require_library" = some (.ref (adrK K 69))
  g_line_told : mg "line_told" = some (.ref (adrK K 158))
  n_abs : mg "abs" = none
  n_max : mg "max" = none
  g__law_roll : mg "_law_roll" = some (.ref (adrK K 161))
  m_16_24 : CmK (EE w K T) K 16 24 95
  m_12_24 : CmK (EE w K T) K 12 24 19
  g__law_pick : mg "_law_pick" = some (.ref (adrK K 162))
  g__law_met : mg "_law_met" = some (.ref (adrK K 163))
  n_repr : mg "repr" = none
  g_write_question : mg "write_question" = some (.ref (adrK K 143))
  g_write_ranks : mg "write_ranks" = some (.ref (adrK K 146))
  g_write_room : mg "write_room" = some (.ref (adrK K 152))
  g_write_puts : mg "write_puts" = some (.ref (adrK K 154))
  g_write_library : mg "write_library" = some (.ref (adrK K 157))
  g_read_question : mg "read_question" = some (.ref (adrK K 144))
  g_read_ranks : mg "read_ranks" = some (.ref (adrK K 149))
  g_read_room : mg "read_room" = some (.ref (adrK K 153))
  g_read_puts : mg "read_puts" = some (.ref (adrK K 156))
  g_read_library : mg "read_library" = some (.ref (adrK K 159))
  n_min : mg "min" = none
  g__law_dice : mg "_law_dice" = some (.ref (adrK K 160))
  g__law_right : mg "_law_right" = some (.ref (adrK K 164))
  xf_8 : XfK (EE w K T) K 8 23
namespace Fx
variable {w : World} {K : PySem.W.Frag} {T : List (Addr × Str)} {mg : Str → Option Value} {base : Heap} (F : Fx w K T mg base)
include F
theorem nEq : NoDun (EE w K T).P (·.eq) := noDun_of rfl
theorem nHas : NoDun (EE w K T).P (·.has) := noDun_of rfl
theorem nGet : NoDun (EE w K T).P (·.get) := noDun_of rfl
theorem nItr : NoDun (EE w K T).P (·.itr) := noDun_of rfl
theorem nLen : NoDun (EE w K T).P (·.len) := noDun_of rfl
theorem nStr : NoDun (EE w K T).P (·.str) := noDun_of rfl
theorem no : NoOps (EE w K T).P := noOps_of rfl
theorem nP (m : Nat) : NoProp (EE w K T).P m := noProp_of rfl m
theorem pp : PlainP (EE w K T).P := plainP_of rfl rfl rfl
theorem mD (m : Nat) : MetD (EE w K T).P m := metD_of (plainP_of rfl rfl rfl) rfl m
end Fx
theorem hu65 {n : Nat} {A : Around} (h : Room n A) : A.units + 65 < cLine := by have := h.un; omega
theorem keyTup {E : En} {C : Ev.Call} {cs : Ev.CE} : ∀ σ h x h', Ev.evE E.P C (.tup cs) σ h = .ok (.p x) h' → TupQ x := fun σ h x h' e => by
  have e : ((Ev.evA E.P C cs σ h).bind fun vs h => match Ev.pures vs, Ev.okLen vs with
    | some xs, true => Res.ok (Val.p (PV.tup xs)) h
    | _, _ => .bad 35) = .ok (.p x) h' := e
  cases q : Ev.evA E.P C cs σ h with
  | bad w => rw [q] at e; cases e
  | exc a b => rw [q] at e; cases e
  | ok vs h1 =>
    rw [q] at e
    have e : (match Ev.pures vs, Ev.okLen vs with
      | some xs, true => Res.ok (Val.p (PV.tup xs)) h1
      | _, _ => .bad 35) = .ok (.p x) h' := e
    split at e
    · cases e; rfl
    · cases e
theorem keyCst {E : En} {C : Ev.Call} {v : PV} (z : L2.Key) (hz : keyF v = some z) : ∀ σ h x h', Ev.evE E.P C (.cst v) σ h = .ok (.p x) h' → FlatK x := fun σ h x h' e => by
  have e : (Res.ok (Val.p v) h : Res Val) = .ok (.p x) h' := e
  cases e
  exact ⟨z, hz⟩
def handlersOf : List Stmt → List ExceptHandler
  | .Try (handlers := hs) .. :: _ => hs
  | _ => []
theorem only_of {P : Ev.Prog} {c : Nat} (h : (List.range P.clss.length).all (fun d => !(Ev.isX P d && Ev.isExc P d c) || d == c) = true) : ∀ d, Ev.isX P d = true → Ev.isExc P d c = true → d = c := fun d h1 h2 => by
  by_cases hd : d < P.clss.length
  · have := List.all_eq_true.mp h d (List.mem_range.mpr hd)
    rw [h1, h2] at this
    simpa using this
  · unfold Ev.isX at h1
    rw [List.getElem?_eq_none (Nat.le_of_not_lt hd)] at h1
    cases h1
theorem metH {w : World} {K : PySem.W.Frag} {T : List (Addr × Str)} {mg : Str → Option Value} {base : Heap} (F : Fx w K T mg base) {cdg : Value} {A : Around} {st : List Env} {s : Shared} {H : Hp} : MetH (EE w K T) (L2.cxOf L2.CX0 PW w K mg base N163 "_law_met" (defScope s163) (adrK K 163) cdg A st s H L2.E0).nox (handlersOf (defBody s163)) (EE w K T).P.met :=
  (.word rfl ⟨rfl, by decide, .inl F.c_InvalidQuestion⟩ rfl (.word rfl ⟨rfl, by decide, .inl F.c_InvalidRoom⟩ rfl (.word rfl ⟨rfl, by decide, .inl F.c_InvalidLibrary⟩ rfl (.word rfl ⟨rfl, by decide, .inl F.c_InvalidOperation⟩ rfl (.repr (i := 1) rfl ⟨_, rfl, rfl⟩ (only_of rfl) F.xf_8 rfl ⟨rfl, by decide, .inl F.c_ParseError⟩ rfl rfl rfl F.n_repr rfl (by decide) (by decide) rfl rfl .nil)))))
end K77
set_option Elab.async false
set_option linter.all false
set_option autoImplicit false
set_option maxRecDepth 100000
set_option maxHeartbeats 0

namespace K77
open PySem PySem.Spec PyProof.Rows Sb
open L2 (V Hp HO VK XK Room defScope defBody defArgs)
open Ev (PV Val MO Hh Sg Exc Res SR)
section
variable {w : World} {K : PySem.W.Frag} {T : List (Addr × Str)} {mg : Str → Option Value} {base : Heap} {k : Nat} {cdv : Value} {A : Around} {outer : List Env} {s : Shared} {H : Hp} {Ex : XK}
/-- is_integer -/
theorem b1 (F : Fx w K T mg base) (hF : ∀ f, FnK (EE w K T) PW w K mg base k f) (hr : Room (4 * k + 3) (A.deeper (envOfC "is_integer" (defScope s1) s.heap.objs.size (adrK K 1) cdv))) :
    PSsv (EE w K T) (L2.cxOf (L2.CX PW w) PW w K mg base N1 "is_integer" (defScope s1) (adrK K 1) cdv A outer s H Ex) (fun C d _ H => Ex C d H) (Ev.callD (EE w K T).P k) (defBody s1) d1.body :=
  have S := S1
  (tss_one (ts_ret (te_and (te_isi F.is rfl F.n_isinstance (te_var (L2.pv 0)) (pe_ty rfl F.n_int rfl)) (te_and (te_not (te_isi F.is rfl F.n_isinstance (te_var (L2.pv 0)) (pe_ty rfl F.n_bool rfl))) (te_one (te_chn (fun _ => opLt) (fun _ => opLt) (te_neg (te_gint rfl F.i_LONGEST)) (te_var (L2.pv 0)) (te_gint rfl F.i_LONGEST)))))))
/-- is_within -/
theorem b2 (F : Fx w K T mg base) (hF : ∀ f, FnK (EE w K T) PW w K mg base k f) (hr : Room (4 * k + 3) (A.deeper (envOfC "is_within" (defScope s2) s.heap.objs.size (adrK K 2) cdv))) :
    PSsv (EE w K T) (L2.cxOf (L2.CX PW w) PW w K mg base N2 "is_within" (defScope s2) (adrK K 2) cdv A outer s H Ex) (fun C d _ H => Ex C d H) (Ev.callD (EE w K T).P k) (defBody s2) d2.body :=
  have S := S2
  (tss_one (ts_ret (te_and (te_call (hF 1) (F.pp.d rfl) rfl (hr.mono (by omega)) rfl F.g_is_integer (L2.takes_of rfl rfl rfl rfl) (ta_cons (te_var (L2.pv 0)) ta_nil)) (te_one (te_chn (fun _ => opLe) (fun _ => opLe) (te_var (L2.pv 1)) (te_var (L2.pv 0)) (te_var (L2.pv 2)))))))
/-- is_word -/
theorem b3 (F : Fx w K T mg base) (hF : ∀ f, FnK (EE w K T) PW w K mg base k f) (hr : Room (4 * k + 3) (A.deeper (envOfC "is_word" (defScope s3) s.heap.objs.size (adrK K 3) cdv))) :
    PSsv (EE w K T) (L2.cxOf (L2.CX PW w) PW w K mg base N3 "is_word" (defScope s3) (adrK K 3) cdv A outer s H Ex) (fun C d _ H => Ex C d H) (Ev.callD (EE w K T).P k) (defBody s3) d3.body :=
  have S := S3
  (tss_one (ts_ret (te_and (te_isi F.is rfl F.n_isinstance (te_var (L2.pv 0)) (pe_ty rfl F.n_str rfl)) (te_and (te_chn (fun _ => opLe) (fun _ => opLe) te_int (te_bfB (fun _ => cLen rfl rfl rfl F.nLen) rfl F.n_len (by decide +kernel) (ta_cons (te_var (L2.pv 0)) ta_nil)) (te_gint rfl F.i_MAX_LETTERS)) (te_one (te_bfB (fun _ => cAll rfl) rfl F.n_all (by decide +kernel) (ta_cons (te_lc (own := [("sign", 1)]) rfl S.nd (by decide) (ti_any F.nItr (te_var (L2.pv 0))) (L2.blkOk_by (N := N3) (sc := defScope s3) (by decide +kernel)) (fun _ _ _ _ _ => (tg_name (L2.pg_name S.nd rfl (by first | exact Or.inl rfl | exact Or.inr rfl)))) (fun _ _ _ _ _ => tts_nil) (fun _ _ _ _ _ => (te_cmp (fun _ => opIn rfl rfl (hu65 hr) F.nHas) (te_var (L2.pv 1)) (te_gstr rfl F.s_LETTERS rfl) (by with_unfolding_all rfl)))) ta_nil)))))))
/-- level_of -/
theorem b4 (F : Fx w K T mg base) (hF : ∀ f, FnK (EE w K T) PW w K mg base k f) (hr : Room (4 * k + 3) (A.deeper (envOfC "level_of" (defScope s4) s.heap.objs.size (adrK K 4) cdv))) :
    PSsv (EE w K T) (L2.cxOf (L2.CX PW w) PW w K mg base N4 "level_of" (defScope s4) (adrK K 4) cdv A outer s H Ex) (fun C d _ H => Ex C d H) (Ev.callD (EE w K T).P k) (defBody s4) d4.body :=
  have S := S4
  (tss_cons (ts_if (L2.PW.pt (tw_or (tt_not (pt_of (te_isi F.is rfl F.n_isinstance (te_var (L2.pv 0)) (pe_ty rfl F.n_str rfl)))) (tw_or (tt_cmp (fun _ => opNin rfl rfl (hu65 hr) F.nHas) (te_bfB (fun _ => cLen rfl rfl rfl F.nLen) rfl F.n_len (by decide +kernel) (ta_cons (te_var (L2.pv 0)) ta_nil)) (te_tup (ta_cons te_int (ta_cons te_int ta_nil))) (by with_unfolding_all rfl)) (tw_or1 tt_never)))) (tss_one (ts_ret te_non)) tss_nil) tss_never)
/-- signs_of -/
theorem b9 (F : Fx w K T mg base) (hF : ∀ f, FnK (EE w K T) PW w K mg base k f) (hr : Room (4 * k + 3) (A.deeper (envOfC "signs_of" (defScope s9) s.heap.objs.size (adrK K 9) cdv))) :
    PSsv (EE w K T) (L2.cxOf (L2.CX PW w) PW w K mg base N9 "signs_of" (defScope s9) (adrK K 9) cdv A outer s H Ex) (fun C d _ H => Ex C d H) (Ev.callD (EE w K T).P k) (defBody s9) d9.body :=
  have S := S9
  (tss_cons (ts_set (i := 1) S.nd rfl (by first | exact Or.inl rfl | exact Or.inr rfl) (te_lst ta_nil)) (tss_cons (ts_set (i := 2) S.nd rfl (by first | exact Or.inl rfl | exact Or.inr rfl) te_int) (tss_cons (ts_while (L2.passes_of rfl) (tt_cmp (fun _ => opLt) (te_var (L2.pv 2)) (te_bfB (fun _ => cLen rfl rfl rfl F.nLen) rfl F.n_len (by decide +kernel) (ta_cons (te_var (L2.pv 0)) ta_nil)) (L2.nomark _)) (tss_cons (ts_set (i := 3) S.nd rfl (by first | exact Or.inl rfl | exact Or.inr rfl) te_int) (tss_cons (ts_if (tt_cmp (fun _ => opIn rfl rfl (hu65 hr) F.nHas) (te_ix (fun _ => opIx rfl rfl rfl hr.units F.nGet) (te_var (L2.pv 0)) (te_var (L2.pv 2)) (fun _ _ => rfl)) (te_gstr rfl F.s_LETTERS rfl) (by with_unfolding_all rfl)) (tss_one (ts_while (L2.passes_of rfl) (L2.PW.pt (tw_and (tt_cmp (fun _ => opNe hr.units F.nEq) (te_sl (te_var (L2.pv 0)) (po_some (te_bin (fun _ => opAdd F.no) (te_var (L2.pv 2)) (te_var (L2.pv 3)))) (po_some (te_bin (fun _ => opAdd F.no) (te_bin (fun _ => opAdd F.no) (te_var (L2.pv 2)) (te_var (L2.pv 3))) te_int))) (te_str rfl) (L2.nomark _)) (tw_and1 (tt_cmp (fun _ => opIn rfl rfl (hu65 hr) F.nHas) (te_ix (fun _ => opIx rfl rfl rfl hr.units F.nGet) (te_var (L2.pv 0)) (te_bin (fun _ => opAdd F.no) (te_var (L2.pv 2)) (te_var (L2.pv 3))) (fun _ _ => rfl)) (te_gstr rfl F.s_LETTERS rfl) (by with_unfolding_all rfl))))) tss_never)) (tss_one (ts_if (tt_cmp (fun _ => opEq hr.units F.nEq) (te_sl (te_var (L2.pv 0)) (po_some (te_var (L2.pv 2))) (po_some (te_bin (fun _ => opAdd F.no) (te_var (L2.pv 2)) te_int))) (te_gstr rfl F.s_ARROW rfl) (L2.nomark _)) (tss_one (ts_set (i := 3) S.nd rfl (by first | exact Or.inl rfl | exact Or.inr rfl) te_int)) (tss_one (ts_if (tt_cmp (fun _ => opNin rfl rfl (hu65 hr) F.nHas) (te_ix (fun _ => opIx rfl rfl rfl hr.units F.nGet) (te_var (L2.pv 0)) (te_var (L2.pv 2)) (fun _ _ => rfl)) (te_str rfl) (by with_unfolding_all rfl)) tss_never tss_nil))))) (tss_cons (ts_expr (te_bm rfl PySem.F.plainAttrs_list PySem.F.slot_list_append PySem.F.type_list_append (fun _ => mAppend) (te_var (L2.pv 1)) (ta_cons (te_sl (te_var (L2.pv 0)) (po_some (te_var (L2.pv 2))) (po_some (te_bin (fun _ => opAdd F.no) (te_var (L2.pv 2)) (te_var (L2.pv 3))))) ta_nil))) (tss_one (ts_set (i := 2) S.nd rfl (by first | exact Or.inl rfl | exact Or.inr rfl) (te_bin (fun _ => opAdd F.no) (te_var (L2.pv 2)) (te_var (L2.pv 3))))))))) (tss_one (ts_ret (te_fz (te_var (L2.pv 1))))))))
/-- KindReader.__init__ -/
theorem b10 (F : Fx w K T mg base) (hF : ∀ f, FnK (EE w K T) PW w K mg base k f) (hr : Room (4 * k + 3) (A.deeper (envOfC "KindReader.__init__" (defScope s10) s.heap.objs.size (adrK K 10) cdv))) :
    PSsv (EE w K T) (L2.cxOf (L2.CX PW w) PW w K mg base N10 "KindReader.__init__" (defScope s10) (adrK K 10) cdv A outer s H Ex) (fun C d _ H => Ex C d H) (Ev.callD (EE w K T).P k) (defBody s10) d10.body :=
  have S := S10
  (tss_cons (ts_setF (te_var (L2.pv 0)) (te_lst (ta_cons (te_lst ta_nil) ta_nil)) rfl (F.fl 0)) (tss_one (ts_setF (te_var (L2.pv 0)) te_bl rfl (F.fl 1))))
/-- KindReader.take -/
theorem b11 (F : Fx w K T mg base) (hF : ∀ f, FnK (EE w K T) PW w K mg base k f) (hr : Room (4 * k + 3) (A.deeper (envOfC "KindReader.take" (defScope s11) s.heap.objs.size (adrK K 11) cdv))) :
    PSsv (EE w K T) (L2.cxOf (L2.CX PW w) PW w K mg base N11 "KindReader.take" (defScope s11) (adrK K 11) cdv A outer s H Ex) (fun C d _ H => Ex C d H) (Ev.callD (EE w K T).P k) (defBody s11) d11.body :=
  have S := S11
  (tss_cons (ts_if (tt_cmp (fun _ => opEq hr.units F.nEq) (te_var (L2.pv 1)) (te_str rfl) (L2.nomark _)) (tss_cons (ts_expr (te_bm rfl PySem.F.plainAttrs_list PySem.F.slot_list_append PySem.F.type_list_append (fun _ => mAppend) (te_fld (te_var (L2.pv 0)) rfl (F.fl 0) (F.nP 0) rfl) (ta_cons (te_lst ta_nil) ta_nil))) (tss_one (ts_ret (te_and (te_fld (te_var (L2.pv 0)) rfl (F.fl 1) (F.nP 1) rfl) (te_one (te_cmp (fun _ => opLe) (te_bfB (fun _ => cLen rfl rfl rfl F.nLen) rfl F.n_len (by decide +kernel) (ta_cons (te_fld (te_var (L2.pv 0)) rfl (F.fl 0) (F.nP 0) rfl) ta_nil)) (te_bin (fun _ => opAdd F.no) (te_gint rfl F.i_MAX_ORDER) te_int) (L2.nomark _))))))) tss_nil) (tss_cons (ts_if (L2.PW.pt (tw_or (tt_cmp (fun _ => opEq hr.units F.nEq) (te_var (L2.pv 1)) (te_gstr rfl F.s_ARROW rfl) (L2.nomark _)) (tw_or1 (tt_cmp (fun _ => opEq hr.units F.nEq) (te_var (L2.pv 1)) (te_str rfl) (L2.nomark _))))) (tss_one (ts_ret (te_meth hF (F.mD 2) (F.me 2) rfl (hr.mono (by omega)) (L2.takes_of rfl rfl rfl rfl) (te_var (L2.pv 0)) (ta_cons (te_var (L2.pv 1)) ta_nil)))) tss_nil) (tss_cons (ts_set (i := 2) S.nd rfl (by first | exact Or.inl rfl | exact Or.inr rfl) (te_and (te_fld (te_var (L2.pv 0)) rfl (F.fl 1) (F.nP 1) rfl) (te_one (te_call (hF 3) (F.pp.d rfl) rfl (hr.mono (by omega)) rfl F.g_is_word (L2.takes_of rfl rfl rfl rfl) (ta_cons (te_var (L2.pv 1)) ta_nil))))) (tss_cons (ts_setF (te_var (L2.pv 0)) te_bl rfl (F.fl 1)) (tss_cons (ts_expr (te_bm rfl PySem.F.plainAttrs_list PySem.F.slot_list_append PySem.F.type_list_append (fun _ => mAppend) (te_ix (fun _ => opIx rfl rfl rfl hr.units F.nGet) (te_fld (te_var (L2.pv 0)) rfl (F.fl 0) (F.nP 0) rfl) (te_neg te_int) (fun _ _ => rfl)) (ta_cons (te_tup (ta_cons (te_tup ta_nil) (ta_cons (te_var (L2.pv 1)) ta_nil))) ta_nil))) (tss_one (ts_ret (te_var (L2.pv 2)))))))))
/-- KindReader.take_end -/
theorem b12 (F : Fx w K T mg base) (hF : ∀ f, FnK (EE w K T) PW w K mg base k f) (hr : Room (4 * k + 3) (A.deeper (envOfC "KindReader.take_end" (defScope s12) s.heap.objs.size (adrK K 12) cdv))) :
    PSsv (EE w K T) (L2.cxOf (L2.CX PW w) PW w K mg base N12 "KindReader.take_end" (defScope s12) (adrK K 12) cdv A outer s H Ex) (fun C d _ H => Ex C d H) (Ev.callD (EE w K T).P k) (defBody s12) d12.body :=
  have S := S12
  (tss_cons (ts_if (pt_of (te_fld (te_var (L2.pv 0)) rfl (F.fl 1) (F.nP 1) rfl)) tss_never tss_nil) (tss_cons (ts_if (tt_cmp (fun _ => opEq hr.units F.nEq) (te_var (L2.pv 1)) (te_gstr rfl F.s_ARROW rfl) (L2.nomark _)) (tss_cons (ts_setF (te_var (L2.pv 0)) te_bl rfl (F.fl 1)) (tss_one (ts_ret te_bl))) tss_nil) (tss_cons (ts_set (i := 2) S.nd rfl (by first | exact Or.inl rfl | exact Or.inr rfl) (te_bm0 rfl PySem.F.plainAttrs_list PySem.F.slot_list_pop PySem.F.type_list_pop (fun _ => mPop) (te_fld (te_var (L2.pv 0)) rfl (F.fl 0) (F.nP 0) rfl))) (tss_cons (ts_if (L2.PW.pt (tw_or (tt_cmp (fun _ => opEq hr.units F.nEq) (te_fld (te_var (L2.pv 0)) rfl (F.fl 0) (F.nP 0) rfl) (te_lst ta_nil) (L2.nomark _)) (tw_or (tt_cmp (fun _ => opLt) (te_bfB (fun _ => cLen rfl rfl rfl F.nLen) rfl F.n_len (by decide +kernel) (ta_cons (te_var (L2.pv 2)) ta_nil)) te_int (L2.nomark _)) (tw_or1 tt_never)))) (tss_one (ts_ret te_bl)) tss_nil) tss_never))))
/-- KindReader.result -/
theorem b13 (F : Fx w K T mg base) (hF : ∀ f, FnK (EE w K T) PW w K mg base k f) (hr : Room (4 * k + 3) (A.deeper (envOfC "KindReader.result" (defScope s13) s.heap.objs.size (adrK K 13) cdv))) :
    PSsv (EE w K T) (L2.cxOf (L2.CX PW w) PW w K mg base N13 "KindReader.result" (defScope s13) (adrK K 13) cdv A outer s H Ex) (fun C d _ H => Ex C d H) (Ev.callD (EE w K T).P k) (defBody s13) d13.body :=
  have S := S13
  (tss_cons (ts_if (L2.PW.pt (tw_or (pt_of (te_fld (te_var (L2.pv 0)) rfl (F.fl 1) (F.nP 1) rfl)) (tw_or (tt_cmp (fun _ => opNe hr.units F.nEq) (te_bfB (fun _ => cLen rfl rfl rfl F.nLen) rfl F.n_len (by decide +kernel) (ta_cons (te_fld (te_var (L2.pv 0)) rfl (F.fl 0) (F.nP 0) rfl) ta_nil)) te_int (L2.nomark _)) (tw_or1 (tt_cmp (fun _ => opNe hr.units F.nEq) (te_ix (fun _ => opIx rfl rfl rfl hr.units F.nGet) (te_ix (fun _ => opIx rfl rfl rfl hr.units F.nGet) (te_ix (fun _ => opIx rfl rfl rfl hr.units F.nGet) (te_fld (te_var (L2.pv 0)) rfl (F.fl 0) (F.nP 0) rfl) te_int (fun _ _ => rfl)) (te_neg te_int) (fun _ _ => rfl)) te_int (fun _ _ => rfl)) (te_tup ta_nil) (L2.nomark _)))))) tss_never tss_nil) (tss_one (ts_ret (te_tup (ta_cons (te_bfT (fun _ => cTuple) rfl F.n_tuple (by decide +kernel) (ta_cons (te_sl (te_ix (fun _ => opIx rfl rfl rfl hr.units F.nGet) (te_fld (te_var (L2.pv 0)) rfl (F.fl 0) (F.nP 0) rfl) te_int (fun _ _ => rfl)) (po_none fun _ _ => rfl) (po_some (te_neg te_int))) ta_nil)) (ta_cons (te_ix (fun _ => opIx rfl rfl rfl hr.units F.nGet) (te_ix (fun _ => opIx rfl rfl rfl hr.units F.nGet) (te_ix (fun _ => opIx rfl rfl rfl hr.units F.nGet) (te_fld (te_var (L2.pv 0)) rfl (F.fl 0) (F.nP 0) rfl) te_int (fun _ _ => rfl)) (te_neg te_int) (fun _ _ => rfl)) te_int (fun _ _ => rfl)) ta_nil))))))
/-- shape_of -/
theorem b14 (F : Fx w K T mg base) (hF : ∀ f, FnK (EE w K T) PW w K mg base k f) (hr : Room (4 * k + 3) (A.deeper (envOfC "shape_of" (defScope s14) s.heap.objs.size (adrK K 14) cdv))) :
    PSsv (EE w K T) (L2.cxOf (L2.CX PW w) PW w K mg base N14 "shape_of" (defScope s14) (adrK K 14) cdv A outer s H Ex) (fun C d _ H => Ex C d H) (Ev.callD (EE w K T).P k) (defBody s14) d14.body :=
  have S := S14
  (tss_cons (ts_set (i := 1) S.nd rfl (by first | exact Or.inl rfl | exact Or.inr rfl) (te_ite (pt_of (te_isi F.is rfl F.n_isinstance (te_var (L2.pv 0)) (pe_ty rfl F.n_str rfl))) (te_call (hF 9) (F.pp.d rfl) rfl (hr.mono (by omega)) rfl F.g_signs_of (L2.takes_of rfl rfl rfl rfl) (ta_cons (te_var (L2.pv 0)) ta_nil)) te_never)) (tss_cons (ts_if (L2.PW.pt (tw_or (tt_isN (te_var (L2.pv 1))) (tw_or1 (tt_cmp (fun _ => opGt) (te_bfB (fun _ => cLen rfl rfl rfl F.nLen) rfl F.n_len (by decide +kernel) (ta_cons (te_lc (own := [("sign", 3)]) rfl S.nd (by decide) (ti_any F.nItr (te_var (L2.pv 1))) (L2.blkOk_by (N := N14) (sc := defScope s14) (by decide +kernel)) (fun _ _ _ _ _ => (tg_name (L2.pg_name S.nd rfl (by first | exact Or.inl rfl | exact Or.inr rfl)))) (fun _ _ _ _ _ => (tts_one (tt_cmp (fun _ => opNin rfl rfl (hu65 hr) F.nHas) (te_var (L2.pv 3)) (te_tup (ta_cons (te_str rfl) (ta_cons (te_str rfl) (ta_cons (te_gstr rfl F.s_ARROW rfl) ta_nil)))) (by with_unfolding_all rfl)))) (fun _ _ _ _ _ => (te_var (L2.pv 3)))) ta_nil)) (te_gint rfl F.i_MAX_PLACES) (L2.nomark _))))) tss_never tss_nil) (tss_cons (ts_set (i := 2) S.nd rfl (by first | exact Or.inl rfl | exact Or.inr rfl) (te_new0 hF F.pp (F.mkk 11) (F.kC 11) (hr.mono (by omega)) rfl F.c_KindReader (L2.takes_of rfl rfl rfl rfl))) (tss_cons (ts_for (L2.passes_of rfl) rfl (ti_any F.nItr (te_var (L2.pv 1))) (tg_name (L2.pg_name S.nd rfl (by first | exact Or.inl rfl | exact Or.inr rfl))) (tss_one (ts_if (tt_not (pt_of (te_meth hF (F.mD 3) (F.me 3) rfl (hr.mono (by omega)) (L2.takes_of rfl rfl rfl rfl) (te_var (L2.pv 2)) (ta_cons (te_var (L2.pv 3)) ta_nil)))) (tss_one (ts_ret te_non)) tss_nil))) (tss_one (ts_ret (te_meth0 hF (F.mD 4) (F.me 4) rfl (hr.mono (by omega)) (L2.takes_of rfl rfl rfl rfl) (te_var (L2.pv 2)))))))))
/-- kind_in -/
theorem b15 (F : Fx w K T mg base) (hF : ∀ f, FnK (EE w K T) PW w K mg base k f) (hr : Room (4 * k + 3) (A.deeper (envOfC "kind_in" (defScope s15) s.heap.objs.size (adrK K 15) cdv))) :
    PSsv (EE w K T) (L2.cxOf (L2.CX PW w) PW w K mg base N15 "kind_in" (defScope s15) (adrK K 15) cdv A outer s H Ex) (fun C d _ H => Ex C d H) (Ev.callD (EE w K T).P k) (defBody s15) d15.body :=
  have S := S15
  (tss_one (ts_ret (te_new hF F.pp (F.mkk 12) (F.kC 12) (hr.mono (by omega)) rfl F.c_Type (L2.takes_of rfl rfl rfl rfl) (ta_cons (te_bfT (fun _ => cTuple) rfl F.n_tuple (by decide +kernel) (ta_cons (te_lc (own := [("one", 1)]) rfl S.nd (by decide) (ti_any F.nItr (te_ix (fun _ => opIx rfl rfl rfl hr.units F.nGet) (te_var (L2.pv 0)) te_int (fun _ _ => rfl))) (L2.blkOk_by (N := N15) (sc := defScope s15) (by decide +kernel)) (fun _ _ _ _ _ => (tg_name (L2.pg_name S.nd rfl (by first | exact Or.inl rfl | exact Or.inr rfl)))) (fun _ _ _ _ _ => tts_nil) (fun _ _ _ _ _ => te_never)) ta_nil)) (ta_cons (te_ix (fun _ => opIx rfl rfl rfl hr.units F.nGet) (te_var (L2.pv 0)) te_int (fun _ _ => rfl)) ta_nil)))))
/-- order_of -/
theorem b16 (F : Fx w K T mg base) (hF : ∀ f, FnK (EE w K T) PW w K mg base k f) (hr : Room (4 * k + 3) (A.deeper (envOfC "order_of" (defScope s16) s.heap.objs.size (adrK K 16) cdv))) :
    PSsv (EE w K T) (L2.cxOf (L2.CX PW w) PW w K mg base N16 "order_of" (defScope s16) (adrK K 16) cdv A outer s H Ex) (fun C d _ H => Ex C d H) (Ev.callD (EE w K T).P k) (defBody s16) d16.body :=
  have S := S16
  (tss_one (ts_ret (te_ite (tt_cmp (fun _ => opNe hr.units F.nEq) (te_var (L2.pv 0)) (te_tup ta_nil) (L2.nomark _)) te_never te_int)))
/-- Type.__init__ -/
theorem b18 (F : Fx w K T mg base) (hF : ∀ f, FnK (EE w K T) PW w K mg base k f) (hr : Room (4 * k + 3) (A.deeper (envOfC "Type.__init__" (defScope s18) s.heap.objs.size (adrK K 18) cdv))) :
    PSsv (EE w K T) (L2.cxOf (L2.CX PW w) PW w K mg base N18 "Type.__init__" (defScope s18) (adrK K 18) cdv A outer s H Ex) (fun C d _ H => Ex C d H) (Ev.callD (EE w K T).P k) (defBody s18) d18.body :=
  have S := S18
  (tss_cons (ts_if (L2.PW.pt (tw_or (tt_not (pt_of (te_isi F.is rfl F.n_isinstance (te_var (L2.pv 1)) (pe_ty rfl F.n_tuple rfl)))) (tw_or1 (tt_not (pt_of (te_bfB (fun _ => cAll rfl) rfl F.n_all (by decide +kernel) (ta_cons (te_lc (own := [("one", 3)]) rfl S.nd (by decide) (ti_any F.nItr (te_var (L2.pv 1))) (L2.blkOk_by (N := N18) (sc := defScope s18) (by decide +kernel)) (fun _ _ _ _ _ => (tg_name (L2.pg_name S.nd rfl (by first | exact Or.inl rfl | exact Or.inr rfl)))) (fun _ _ _ _ _ => tts_nil) (fun _ _ _ _ _ => te_never)) ta_nil))))))) tss_never tss_nil) (tss_cons (ts_if (tt_not (pt_of (te_call (hF 3) (F.pp.d rfl) rfl (hr.mono (by omega)) rfl F.g_is_word (L2.takes_of rfl rfl rfl rfl) (ta_cons (te_var (L2.pv 2)) ta_nil)))) tss_never tss_nil) (tss_cons (ts_setF (te_var (L2.pv 0)) (te_var (L2.pv 1)) rfl (F.fl 5)) (tss_cons (ts_setF (te_var (L2.pv 0)) (te_var (L2.pv 2)) rfl (F.fl 6)) (tss_cons (ts_setF (te_var (L2.pv 0)) (te_tup (ta_star (te_lc2 (own := [("one", 3), ("place", 4)]) rfl S.nd (by decide) (ti_any F.nItr (te_var (L2.pv 1))) (L2.blkOk_by (N := N18) (sc := defScope s18) (by decide +kernel)) (by decide) (fun _ _ _ _ _ => (tg_name (L2.pg_name S.nd rfl (by first | exact Or.inl rfl | exact Or.inr rfl)))) (fun _ _ _ _ _ => tts_nil) (fun _ _ _ _ _ => (ti_any F.nItr te_never)) (fun _ _ _ _ _ => (tg_name (L2.pg_name S.nd rfl (by first | exact Or.inl rfl | exact Or.inr rfl)))) (fun _ _ _ _ _ => tts_nil) (fun _ _ _ _ _ => te_never)) (ta_cons (te_var (L2.pv 2)) ta_nil))) rfl (F.fl 7)) (tss_cons (ts_setF (te_var (L2.pv 0)) (te_call (hF 16) (F.pp.d rfl) rfl (hr.mono (by omega)) rfl F.g_order_of (L2.takes_of rfl rfl rfl rfl) (ta_cons (te_var (L2.pv 1)) ta_nil)) rfl (F.fl 8)) (tss_cons (ts_if (L2.PW.pt (tw_or (tt_cmp (fun _ => opGt) (te_bfB (fun _ => cLen rfl rfl rfl F.nLen) rfl F.n_len (by decide +kernel) (ta_cons (te_fld (te_var (L2.pv 0)) rfl (F.fl 7) (F.nP 7) rfl) ta_nil)) (te_gint rfl F.i_MAX_PLACES) (L2.nomark _)) (tw_or1 (tt_cmp (fun _ => opGt) (te_fld (te_var (L2.pv 0)) rfl (F.fl 8) (F.nP 8) rfl) (te_gint rfl F.i_MAX_ORDER) (L2.nomark _))))) tss_never tss_nil) (tss_one (ts_setF (te_var (L2.pv 0)) (te_bm rfl PySem.F.plainAttrs_str PySem.F.slot_str_join PySem.F.type_str_join (fun _ => mJoin) (te_gstr rfl F.s_ARROW rfl) (ta_cons (te_lst (ta_star (te_lc (own := [("one", 3)]) rfl S.nd (by decide) (ti_any F.nItr (te_var (L2.pv 1))) (L2.blkOk_by (N := N18) (sc := defScope s18) (by decide +kernel)) (fun _ _ _ _ _ => (tg_name (L2.pg_name S.nd rfl (by first | exact Or.inl rfl | exact Or.inr rfl)))) (fun _ _ _ _ _ => tts_nil) (fun _ _ _ _ _ => te_never)) (ta_cons (te_var (L2.pv 2)) ta_nil))) ta_nil)) rfl (F.fl 9))))))))))
/-- Type.read -/
theorem b19 (F : Fx w K T mg base) (hF : ∀ f, FnK (EE w K T) PW w K mg base k f) (hr : Room (4 * k + 3) (A.deeper (envOfC "Type.read" (defScope s19) s.heap.objs.size (adrK K 19) cdv))) :
    PSsv (EE w K T) (L2.cxOf (L2.CX PW w) PW w K mg base N19 "Type.read" (defScope s19) (adrK K 19) cdv A outer s H Ex) (fun C d _ H => Ex C d H) (Ev.callD (EE w K T).P k) (defBody s19) d19.body :=
  have S := S19
  (tss_cons (ts_set (i := 2) S.nd rfl (by first | exact Or.inl rfl | exact Or.inr rfl) (te_call (hF 39) (F.pp.d rfl) rfl (hr.mono (by omega)) rfl F.g_type_of_text (L2.takes_of rfl rfl rfl rfl) (ta_cons (te_var (L2.pv 1)) ta_nil))) (tss_cons (ts_if (tt_isN (te_var (L2.pv 2))) tss_never tss_nil) (tss_one (ts_ret (te_var (L2.pv 2))))))
/-- type_of_text -/
theorem b39 (F : Fx w K T mg base) (hF : ∀ f, FnK (EE w K T) PW w K mg base k f) (hr : Room (4 * k + 3) (A.deeper (envOfC "type_of_text" (defScope s39) s.heap.objs.size (adrK K 39) cdv))) :
    PSsv (EE w K T) (L2.cxOf (L2.CX PW w) PW w K mg base N39 "type_of_text" (defScope s39) (adrK K 39) cdv A outer s H Ex) (fun C d _ H => Ex C d H) (Ev.callD (EE w K T).P k) (defBody s39) d39.body :=
  have S := S39
  (tss_cons (ts_set (i := 1) S.nd rfl (by first | exact Or.inl rfl | exact Or.inr rfl) (te_call (hF 14) (F.pp.d rfl) rfl (hr.mono (by omega)) rfl F.g_shape_of (L2.takes_of rfl rfl rfl rfl) (ta_cons (te_var (L2.pv 0)) ta_nil))) (tss_one (ts_thru (tss_one (ts_ret (te_ite (tt_isN (te_var (L2.pv 1))) te_non (te_call (hF 15) (F.pp.d rfl) rfl (hr.mono (by omega)) rfl F.g_kind_in LamX.takes0 (ta_cons (te_var (L2.pv 1)) ta_nil))))))))
/-- require_library -/
theorem b69 (F : Fx w K T mg base) (hF : ∀ f, FnK (EE w K T) PW w K mg base k f) (hr : Room (4 * k + 3) (A.deeper (envOfC "require_library" (defScope s69) s.heap.objs.size (adrK K 69) cdv))) :
    PSsv (EE w K T) (L2.cxOf (L2.CX PW w) PW w K mg base N69 "require_library" (defScope s69) (adrK K 69) cdv A outer s H Ex) (fun C d _ H => Ex C d H) (Ev.callD (EE w K T).P k) (defBody s69) d69.body :=
  have S := S69
  (tss_one (ts_if (tt_not (pt_of (te_isic F.is rfl F.n_isinstance (te_var (L2.pv 0)) (L2.pe_glob rfl F.c_Library rfl)))) (tss_one (ts_raise0 rfl F.r_3 ⟨_, rfl, rfl⟩ rfl F.c_InvalidLibrary (L2.takes_of rfl rfl rfl rfl))) tss_nil))
/-- is_scope -/
theorem b74 (F : Fx w K T mg base) (hF : ∀ f, FnK (EE w K T) PW w K mg base k f) (hr : Room (4 * k + 3) (A.deeper (envOfC "is_scope" (defScope s74) s.heap.objs.size (adrK K 74) cdv))) :
    PSsv (EE w K T) (L2.cxOf (L2.CX PW w) PW w K mg base N74 "is_scope" (defScope s74) (adrK K 74) cdv A outer s H Ex) (fun C d _ H => Ex C d H) (Ev.callD (EE w K T).P k) (defBody s74) d74.body :=
  have S := S74
  (tss_cons (ts_if (L2.PW.pt (tw_or (tt_not (pt_of (te_isi F.is rfl F.n_isinstance (te_var (L2.pv 0)) (pe_ty rfl F.n_tuple rfl)))) (tw_or (tt_cmp (fun _ => opGt) (te_bfB (fun _ => cLen rfl rfl rfl F.nLen) rfl F.n_len (by decide +kernel) (ta_cons (te_var (L2.pv 0)) ta_nil)) (te_gint rfl F.i_MAX_SCOPE) (L2.nomark _)) (tw_or1 (tt_not (pt_of (te_bfB (fun _ => cAll rfl) rfl F.n_all (by decide +kernel) (ta_cons (te_lc (own := [("text", 1)]) rfl S.nd (by decide) (ti_any F.nItr (te_var (L2.pv 0))) (L2.blkOk_by (N := N74) (sc := defScope s74) (by decide +kernel)) (fun _ _ _ _ _ => (tg_name (L2.pg_name S.nd rfl (by first | exact Or.inl rfl | exact Or.inr rfl)))) (fun _ _ _ _ _ => tts_nil) (fun _ _ _ _ _ => (te_isi F.is rfl F.n_isinstance (te_var (L2.pv 1)) (pe_ty rfl F.n_str rfl)))) ta_nil)))))))) (tss_one (ts_ret te_bl)) tss_nil) (tss_cons (ts_if (tt_not (pt_of (te_bfB (fun _ => cAll rfl) rfl F.n_all (by decide +kernel) (ta_cons (te_lc (own := [("one", 2), ("other", 3)]) rfl S.nd (by decide) (ti_any F.nItr (te_lzip rfl rfl F.n_list rfl F.n_zip (ta_cons (te_var (L2.pv 0)) (ta_cons (te_sl (te_var (L2.pv 0)) (po_some te_int) (po_none fun _ _ => rfl)) ta_nil)))) (L2.blkOk_by (N := N74) (sc := defScope s74) (by decide +kernel)) (fun _ _ _ _ _ => (tg_tup rfl (L2.pgs_cons (L2.pg_name S.nd rfl (by first | exact Or.inl rfl | exact Or.inr rfl)) (L2.pgs_cons (L2.pg_name S.nd rfl (by first | exact Or.inl rfl | exact Or.inr rfl)) L2.pgs_nil)))) (fun _ _ _ _ _ => tts_nil) (fun _ _ _ _ _ => (te_cmp (fun _ => opLt) (te_var (L2.pv 2)) (te_var (L2.pv 3)) (L2.nomark _)))) ta_nil)))) (tss_one (ts_ret te_bl)) tss_nil) (tss_one (ts_ret (te_bfB (fun _ => cAll rfl) rfl F.n_all (by decide +kernel) (ta_cons (te_lc (own := [("text", 1)]) rfl S.nd (by decide) (ti_any F.nItr (te_var (L2.pv 0))) (L2.blkOk_by (N := N74) (sc := defScope s74) (by decide +kernel)) (fun _ _ _ _ _ => (tg_name (L2.pg_name S.nd rfl (by first | exact Or.inl rfl | exact Or.inr rfl)))) (fun _ _ _ _ _ => tts_nil) (fun _ _ _ _ _ => (te_notN (te_call (hF 39) (F.pp.d rfl) rfl (hr.mono (by omega)) rfl F.g_type_of_text LamX.takes0 (ta_cons (te_var (L2.pv 1)) ta_nil))))) ta_nil))))))
/-- is_question -/
theorem b75 (F : Fx w K T mg base) (hF : ∀ f, FnK (EE w K T) PW w K mg base k f) (hr : Room (4 * k + 3) (A.deeper (envOfC "is_question" (defScope s75) s.heap.objs.size (adrK K 75) cdv))) :
    PSsv (EE w K T) (L2.cxOf (L2.CX PW w) PW w K mg base N75 "is_question" (defScope s75) (adrK K 75) cdv A outer s H Ex) (fun C d _ H => Ex C d H) (Ev.callD (EE w K T).P k) (defBody s75) d75.body :=
  have S := S75
  (tss_one (ts_ret (te_and (te_isi F.is rfl F.n_isinstance (te_var (L2.pv 0)) (pe_ty rfl F.n_tuple rfl)) (te_and (te_cmp (fun _ => opEq hr.units F.nEq) (te_bfB (fun _ => cLen rfl rfl rfl F.nLen) rfl F.n_len (by decide +kernel) (ta_cons (te_var (L2.pv 0)) ta_nil)) te_int (L2.nomark _)) (te_and (te_call (hF 74) (F.pp.d rfl) rfl (hr.mono (by omega)) rfl F.g_is_scope (L2.takes_of rfl rfl rfl rfl) (ta_cons (te_ix (fun _ => opIx rfl rfl rfl hr.units F.nGet) (te_var (L2.pv 0)) te_int (fun _ _ => rfl)) ta_nil)) (te_one (te_call (hF 3) (F.pp.d rfl) rfl (hr.mono (by omega)) rfl F.g_is_word (L2.takes_of rfl rfl rfl rfl) (ta_cons (te_ix (fun _ => opIx rfl rfl rfl hr.units F.nGet) (te_var (L2.pv 0)) te_int (fun _ _ => rfl)) ta_nil))))))))
/-- is_node -/
theorem b76 (F : Fx w K T mg base) (hF : ∀ f, FnK (EE w K T) PW w K mg base k f) (hr : Room (4 * k + 3) (A.deeper (envOfC "is_node" (defScope s76) s.heap.objs.size (adrK K 76) cdv))) :
    PSsv (EE w K T) (L2.cxOf (L2.CX PW w) PW w K mg base N76 "is_node" (defScope s76) (adrK K 76) cdv A outer s H Ex) (fun C d _ H => Ex C d H) (Ev.callD (EE w K T).P k) (defBody s76) d76.body :=
  have S := S76
  (tss_cons (ts_if (L2.PW.pt (tw_or (tt_not (pt_of (te_isi F.is rfl F.n_isinstance (te_var (L2.pv 0)) (pe_ty rfl F.n_tuple rfl)))) (tw_or (tt_cmp (fun _ => opNe hr.units F.nEq) (te_bfB (fun _ => cLen rfl rfl rfl F.nLen) rfl F.n_len (by decide +kernel) (ta_cons (te_var (L2.pv 0)) ta_nil)) te_int (L2.nomark _)) (tw_or1 (tt_not (pt_of (te_isi F.is rfl F.n_isinstance (te_ix (fun _ => opIx rfl rfl rfl hr.units F.nGet) (te_var (L2.pv 0)) te_int (fun _ _ => rfl)) (pe_ty rfl F.n_str rfl)))))))) tss_never tss_nil) (tss_cons (ts_if (L2.PW.pt (tw_or (tt_not (pt_of (te_call (hF 2) (F.pp.d rfl) rfl (hr.mono (by omega)) rfl F.g_is_within (L2.takes_of rfl rfl rfl rfl) (ta_cons (te_ix (fun _ => opIx rfl rfl rfl hr.units F.nGet) (te_var (L2.pv 0)) te_int (fun _ _ => rfl)) (ta_cons te_int (ta_cons (te_gint rfl F.i_MAX_COUNT) ta_nil)))))) (tw_or1 (tt_not (pt_of (te_call (hF 2) (F.pp.d rfl) rfl (hr.mono (by omega)) rfl F.g_is_within (L2.takes_of rfl rfl rfl rfl) (ta_cons (te_ix (fun _ => opIx rfl rfl rfl hr.units F.nGet) (te_var (L2.pv 0)) te_int (fun _ _ => rfl)) (ta_cons te_int (ta_cons (te_gint rfl F.i_MAX_COUNT) ta_nil))))))))) tss_never tss_nil) (tss_one (ts_ret (te_or (te_call (hF 3) (F.pp.d rfl) rfl (hr.mono (by omega)) rfl F.g_is_word (L2.takes_of rfl rfl rfl rfl) (ta_cons (te_ix (fun _ => opIx rfl rfl rfl hr.units F.nGet) (te_var (L2.pv 0)) te_int (fun _ _ => rfl)) ta_nil)) (te_or te_never (te_one te_never)))))))
/-- kids_of -/
theorem b77 (F : Fx w K T mg base) (hF : ∀ f, FnK (EE w K T) PW w K mg base k f) (hr : Room (4 * k + 3) (A.deeper (envOfC "kids_of" (defScope s77) s.heap.objs.size (adrK K 77) cdv))) :
    PSsv (EE w K T) (L2.cxOf (L2.CX PW w) PW w K mg base N77 "kids_of" (defScope s77) (adrK K 77) cdv A outer s H Ex) (fun C d _ H => Ex C d H) (Ev.callD (EE w K T).P k) (defBody s77) d77.body :=
  have S := S77
  (tss_cons (ts_setLc (i := 1) (own := [("node", 5)]) rfl S.nd rfl rfl (by first | exact sw_true rfl rfl rfl (by decide +kernel) | with_unfolding_all rfl) (by decide) (ti_any F.nItr (te_var (L2.pv 0))) (L2.blkOk_by (N := N77) (sc := defScope s77) (by decide +kernel)) (fun _ _ _ _ _ => (tg_name (L2.pg_name S.nd rfl (by first | exact Or.inl rfl | exact Or.inr rfl)))) (fun _ _ _ _ _ => tts_nil) (fun _ _ _ _ _ => (te_tup ta_nil))) (tss_cons (ts_set (i := 2) S.nd rfl (by first | exact Or.inl rfl | exact Or.inr rfl) (te_lst ta_nil)) (tss_cons (ts_for (L2.passes_of rfl) rfl (ti_range3 F.nItr rfl F.n_range (ta_cons (te_bin (fun _ => opSub F.no) (te_bfB (fun _ => cLen rfl rfl rfl F.nLen) rfl F.n_len (by decide +kernel) (ta_cons (te_var (L2.pv 0)) ta_nil)) te_int) (ta_cons (te_neg te_int) (ta_cons (te_neg te_int) ta_nil)))) (tg_name (L2.pg_name S.nd rfl (by first | exact Or.inl rfl | exact Or.inr rfl))) (tss_cons (ts_set (i := 4) S.nd rfl (by first | exact Or.inl rfl | exact Or.inr rfl) (te_bin (fun _ => opSub F.no) (te_bfB (fun _ => cLen rfl rfl rfl F.nLen) rfl F.n_len (by decide +kernel) (ta_cons (te_var (L2.pv 2)) ta_nil)) (te_ix (fun _ => opIx rfl rfl rfl hr.units F.nGet) (te_ix (fun _ => opIx rfl rfl rfl hr.units F.nGet) (te_var (L2.pv 0)) (te_var (L2.pv 3)) (fun _ _ => rfl)) te_int (fun _ _ => rfl)))) (tss_cons (ts_if (tt_cmp (fun _ => opLt) (te_var (L2.pv 4)) te_int (L2.nomark _)) tss_never tss_nil) (tss_cons (ts_setI rfl rfl hr.units (te_var (L2.pv 1)) (te_var (L2.pv 3)) (te_bfT (fun _ => cTuple) rfl F.n_tuple (by decide +kernel) (ta_cons (te_rv (te_sl (te_var (L2.pv 2)) (po_some (te_var (L2.pv 4))) (po_none fun _ _ => rfl))) ta_nil))) (tss_one (ts_set (i := 2) S.nd rfl (by first | exact Or.inl rfl | exact Or.inr rfl) (te_lst (ta_star (te_sl (te_var (L2.pv 2)) (po_none fun _ _ => rfl) (po_some (te_var (L2.pv 4)))) (ta_cons (te_var (L2.pv 3)) ta_nil))))))))) (tss_one (ts_ret (te_ite (tt_cmp (fun _ => opEq hr.units F.nEq) (te_var (L2.pv 2)) (te_lst (ta_cons te_int ta_nil)) (L2.nomark _)) (te_fz (te_var (L2.pv 1))) te_never))))))
/-- ends_of -/
theorem b78 (F : Fx w K T mg base) (hF : ∀ f, FnK (EE w K T) PW w K mg base k f) (hr : Room (4 * k + 3) (A.deeper (envOfC "ends_of" (defScope s78) s.heap.objs.size (adrK K 78) cdv))) :
    PSsv (EE w K T) (L2.cxOf (L2.CX PW w) PW w K mg base N78 "ends_of" (defScope s78) (adrK K 78) cdv A outer s H Ex) (fun C d _ H => Ex C d H) (Ev.callD (EE w K T).P k) (defBody s78) d78.body :=
  have S := S78
  (tss_cons (ts_setLc (i := 1) (own := [("at", 2)]) rfl S.nd rfl rfl (by first | exact sw_true rfl rfl rfl (by decide +kernel) | with_unfolding_all rfl) (by decide) (ti_range1 F.nItr rfl F.n_range (ta_cons (te_bfB (fun _ => cLen rfl rfl rfl F.nLen) rfl F.n_len (by decide +kernel) (ta_cons (te_var (L2.pv 0)) ta_nil)) ta_nil)) (L2.blkOk_by (N := N78) (sc := defScope s78) (by decide +kernel)) (fun _ _ _ _ _ => (tg_name (L2.pg_name S.nd rfl (by first | exact Or.inl rfl | exact Or.inr rfl)))) (fun _ _ _ _ _ => tts_nil) (fun _ _ _ _ _ => (te_bin (fun _ => opAdd F.no) (te_var (L2.pv 2)) te_int))) (tss_cons (ts_for (L2.passes_of rfl) rfl (ti_range3 F.nItr rfl F.n_range (ta_cons (te_bin (fun _ => opSub F.no) (te_bfB (fun _ => cLen rfl rfl rfl F.nLen) rfl F.n_len (by decide +kernel) (ta_cons (te_var (L2.pv 0)) ta_nil)) te_int) (ta_cons (te_neg te_int) (ta_cons (te_neg te_int) ta_nil)))) (tg_name (L2.pg_name S.nd rfl (by first | exact Or.inl rfl | exact Or.inr rfl))) (tss_one (ts_if (tt_cmp (fun _ => opNe hr.units F.nEq) (te_ix (fun _ => opIx rfl rfl rfl hr.units F.nGet) (te_var (L2.pv 0)) (te_var (L2.pv 2)) (fun _ _ => rfl)) (te_tup ta_nil) (L2.nomark _)) (tss_one (ts_setI rfl rfl hr.units (te_var (L2.pv 1)) (te_var (L2.pv 2)) (te_ix (fun _ => opIx rfl rfl rfl hr.units F.nGet) (te_var (L2.pv 1)) (te_ix (fun _ => opIx rfl rfl rfl hr.units F.nGet) (te_ix (fun _ => opIx rfl rfl rfl hr.units F.nGet) (te_var (L2.pv 0)) (te_var (L2.pv 2)) (fun _ _ => rfl)) (te_neg te_int) (fun _ _ => rfl)) (fun _ _ => rfl)))) tss_nil))) (tss_one (ts_ret (te_fz (te_var (L2.pv 1)))))))
/-- bound_of -/
theorem b79 (F : Fx w K T mg base) (hF : ∀ f, FnK (EE w K T) PW w K mg base k f) (hr : Room (4 * k + 3) (A.deeper (envOfC "bound_of" (defScope s79) s.heap.objs.size (adrK K 79) cdv))) :
    PSsv (EE w K T) (L2.cxOf (L2.CX PW w) PW w K mg base N79 "bound_of" (defScope s79) (adrK K 79) cdv A outer s H Ex) (fun C d _ H => Ex C d H) (Ev.callD (EE w K T).P k) (defBody s79) d79.body :=
  have S := S79
  (tss_cons (ts_setLc (i := 2) (own := [("node", 6)]) rfl S.nd rfl rfl (by first | exact sw_true rfl rfl rfl (by decide +kernel) | with_unfolding_all rfl) (by decide) (ti_any F.nItr (te_var (L2.pv 0))) (L2.blkOk_by (N := N79) (sc := defScope s79) (by decide +kernel)) (fun _ _ _ _ _ => (tg_name (L2.pg_name S.nd rfl (by first | exact Or.inl rfl | exact Or.inr rfl)))) (fun _ _ _ _ _ => tts_nil) (fun _ _ _ _ _ => te_int)) (tss_cons (ts_for (L2.passes_of rfl) rfl (ti_enum F.nItr rfl F.n_enumerate (ta_cons (te_var (L2.pv 1)) ta_nil)) (tg_tup rfl (L2.pgs_cons (L2.pg_name S.nd rfl (by first | exact Or.inl rfl | exact Or.inr rfl)) (L2.pgs_cons (L2.pg_name S.nd rfl (by first | exact Or.inl rfl | exact Or.inr rfl)) L2.pgs_nil))) (tss_one (ts_for (L2.passes_of rfl) rfl (ti_any F.nItr (te_var (L2.pv 4))) (tg_name (L2.pg_name S.nd rfl (by first | exact Or.inl rfl | exact Or.inr rfl))) (tss_one (ts_setI rfl rfl hr.units (te_var (L2.pv 2)) (te_var (L2.pv 5)) (te_bin (fun _ => opAdd F.no) (te_ix (fun _ => opIx rfl rfl rfl hr.units F.nGet) (te_var (L2.pv 2)) (te_var (L2.pv 3)) (fun _ _ => rfl)) (te_ix (fun _ => opIx rfl rfl rfl hr.units F.nGet) (te_ix (fun _ => opIx rfl rfl rfl hr.units F.nGet) (te_var (L2.pv 0)) (te_var (L2.pv 3)) (fun _ _ => rfl)) te_int (fun _ _ => rfl)))))))) (tss_one (ts_ret (te_fz (te_var (L2.pv 2)))))))
/-- are_nodes -/
theorem b80 (F : Fx w K T mg base) (hF : ∀ f, FnK (EE w K T) PW w K mg base k f) (hr : Room (4 * k + 3) (A.deeper (envOfC "are_nodes" (defScope s80) s.heap.objs.size (adrK K 80) cdv))) :
    PSsv (EE w K T) (L2.cxOf (L2.CX PW w) PW w K mg base N80 "are_nodes" (defScope s80) (adrK K 80) cdv A outer s H Ex) (fun C d _ H => Ex C d H) (Ev.callD (EE w K T).P k) (defBody s80) d80.body :=
  have S := S80
  (tss_cons (ts_if (L2.PW.pt (tw_or (tt_not (pt_of (te_isi F.is rfl F.n_isinstance (te_var (L2.pv 0)) (pe_ty rfl F.n_tuple rfl)))) (tw_or1 (tt_not (tt_chn (fun _ => opLe) (fun _ => opLe) te_int (te_bfB (fun _ => cLen rfl rfl rfl F.nLen) rfl F.n_len (by decide +kernel) (ta_cons (te_var (L2.pv 0)) ta_nil)) (te_gint rfl F.i_MAX_NODES)))))) tss_never tss_nil) (tss_cons (ts_if (tt_not (pt_of (te_bfB (fun _ => cAll rfl) rfl F.n_all (by decide +kernel) (ta_cons (te_lc (own := [("node", 5)]) rfl S.nd (by decide) (ti_any F.nItr (te_var (L2.pv 0))) (L2.blkOk_by (N := N80) (sc := defScope s80) (by decide +kernel)) (fun _ _ _ _ _ => (tg_name (L2.pg_name S.nd rfl (by first | exact Or.inl rfl | exact Or.inr rfl)))) (fun _ _ _ _ _ => tts_nil) (fun _ _ _ _ _ => (te_call (hF 76) (F.pp.d rfl) rfl (hr.mono (by omega)) rfl F.g_is_node LamX.takes0 (ta_cons (te_var (L2.pv 5)) (ta_cons (te_var (L2.pv 1)) ta_nil))))) ta_nil)))) tss_never tss_nil) (tss_cons (ts_set (i := 2) S.nd rfl (by first | exact Or.inl rfl | exact Or.inr rfl) (te_call (hF 77) (F.pp.d rfl) rfl (hr.mono (by omega)) rfl F.g_kids_of (L2.takes_of rfl rfl rfl rfl) (ta_cons (te_var (L2.pv 0)) ta_nil))) (tss_cons (ts_if (tt_isN (te_var (L2.pv 2))) tss_never tss_nil) (tss_cons (ts_setLc (i := 3) (own := [("node", 5)]) rfl S.nd rfl rfl (by first | exact sw_true rfl rfl rfl (by decide +kernel) | with_unfolding_all rfl) (by decide) (ti_any F.nItr (te_var (L2.pv 0))) (L2.blkOk_by (N := N80) (sc := defScope s80) (by decide +kernel)) (fun _ _ _ _ _ => (tg_name (L2.pg_name S.nd rfl (by first | exact Or.inl rfl | exact Or.inr rfl)))) (fun _ _ _ _ _ => tts_nil) (fun _ _ _ _ _ => (te_call (hF 4) (F.pp.d rfl) rfl (hr.mono (by omega)) rfl F.g_level_of LamX.takes0 (ta_cons (te_ix (fun _ => opIx rfl rfl rfl hr.units F.nGet) (te_var (L2.pv 5)) te_int (fun _ _ => rfl)) ta_nil)))) (tss_cons (ts_setLc (i := 4) (own := [("bound", 6), ("node", 5)]) rfl S.nd rfl rfl (by first | exact sw_true rfl rfl rfl (by decide +kernel) | with_unfolding_all rfl) (by decide) (ti_zip (n := 2) rfl F.nItr rfl F.n_zip (ta_cons (te_call (hF 79) (F.pp.d rfl) rfl (hr.mono (by omega)) rfl F.g_bound_of (L2.takes_of rfl rfl rfl rfl) (ta_cons (te_var (L2.pv 0)) (ta_cons (te_var (L2.pv 2)) ta_nil))) (ta_cons (te_var (L2.pv 0)) ta_nil))) (L2.blkOk_by (N := N80) (sc := defScope s80) (by decide +kernel)) (fun _ _ _ _ _ => (tg_tup rfl (L2.pgs_cons (L2.pg_name S.nd rfl (by first | exact Or.inl rfl | exact Or.inr rfl)) (L2.pgs_cons (L2.pg_name S.nd rfl (by first | exact Or.inl rfl | exact Or.inr rfl)) L2.pgs_nil)))) (fun _ _ _ _ _ => tts_nil) (fun _ _ _ _ _ => (te_bin (fun _ => opAdd F.no) (te_var (L2.pv 6)) (te_ix (fun _ => opIx rfl rfl rfl hr.units F.nGet) (te_var (L2.pv 5)) te_int (fun _ _ => rfl))))) (tss_one (ts_ret (te_bfB (fun _ => cAll rfl) rfl F.n_all (by decide +kernel) (ta_cons (te_lc (own := [("row", 7), ("level", 8)]) rfl S.nd (by decide) (ti_zip (n := 2) rfl F.nItr rfl F.n_zip (ta_cons (te_var (L2.pv 4)) (ta_cons (te_var (L2.pv 3)) ta_nil))) (L2.blkOk_by (N := N80) (sc := defScope s80) (by decide +kernel)) (fun _ _ _ _ _ => (tg_tup rfl (L2.pgs_cons (L2.pg_name S.nd rfl (by first | exact Or.inl rfl | exact Or.inr rfl)) (L2.pgs_cons (L2.pg_name S.nd rfl (by first | exact Or.inl rfl | exact Or.inr rfl)) L2.pgs_nil)))) (fun _ _ _ _ _ => tts_nil) (fun _ _ _ _ _ => (te_and (te_cmp (fun _ => opLe) (te_var (L2.pv 7)) (te_bin (fun _ => opAdd F.no) (te_gint rfl F.i_MAX_LEVEL) te_int) (L2.nomark _)) (te_one (te_or (te_isN (te_var (L2.pv 8))) (te_one te_never)))))) ta_nil))))))))))
/-- tokens_of -/
theorem b84 (F : Fx w K T mg base) (hF : ∀ f, FnK (EE w K T) PW w K mg base k f) (hr : Room (4 * k + 3) (A.deeper (envOfC "tokens_of" (defScope s84) s.heap.objs.size (adrK K 84) cdv))) :
    PSsv (EE w K T) (L2.cxOf (L2.CX PW w) PW w K mg base N84 "tokens_of" (defScope s84) (adrK K 84) cdv A outer s H Ex) (fun C d _ H => Ex C d H) (Ev.callD (EE w K T).P k) (defBody s84) d84.body :=
  have S := S84
  (tss_cons (ts_set (i := 1) S.nd rfl (by first | exact Or.inl rfl | exact Or.inr rfl) (te_lst ta_nil)) (tss_cons (ts_set (i := 2) S.nd rfl (by first | exact Or.inl rfl | exact Or.inr rfl) te_int) (tss_cons (ts_while (L2.passes_of rfl) (tt_cmp (fun _ => opLt) (te_var (L2.pv 2)) (te_bfB (fun _ => cLen rfl rfl rfl F.nLen) rfl F.n_len (by decide +kernel) (ta_cons (te_var (L2.pv 0)) ta_nil)) (L2.nomark _)) (tss_cons (ts_set (i := 3) S.nd rfl (by first | exact Or.inl rfl | exact Or.inr rfl) te_int) (tss_cons (ts_if (tt_cmp (fun _ => opIn rfl rfl (hu65 hr) F.nHas) (te_ix (fun _ => opIx rfl rfl rfl hr.units F.nGet) (te_var (L2.pv 0)) (te_var (L2.pv 2)) (fun _ _ => rfl)) (te_bin (fun _ => opAdd F.no) (te_gstr rfl F.s_LETTERS rfl) (te_gstr rfl F.s_DIGITS rfl)) (by with_unfolding_all rfl)) (tss_one (ts_while (L2.passes_of rfl) (L2.PW.pt (tw_and (tt_cmp (fun _ => opNe hr.units F.nEq) (te_sl (te_var (L2.pv 0)) (po_some (te_bin (fun _ => opAdd F.no) (te_var (L2.pv 2)) (te_var (L2.pv 3)))) (po_some (te_bin (fun _ => opAdd F.no) (te_bin (fun _ => opAdd F.no) (te_var (L2.pv 2)) (te_var (L2.pv 3))) te_int))) (te_str rfl) (L2.nomark _)) (tw_and1 (tt_cmp (fun _ => opIn rfl rfl (hu65 hr) F.nHas) (te_ix (fun _ => opIx rfl rfl rfl hr.units F.nGet) (te_var (L2.pv 0)) (te_bin (fun _ => opAdd F.no) (te_var (L2.pv 2)) (te_var (L2.pv 3))) (fun _ _ => rfl)) (te_bin (fun _ => opAdd F.no) (te_gstr rfl F.s_LETTERS rfl) (te_gstr rfl F.s_DIGITS rfl)) (by with_unfolding_all rfl))))) tss_never)) (tss_one (ts_if (tt_cmp (fun _ => opEq hr.units F.nEq) (te_sl (te_var (L2.pv 0)) (po_some (te_var (L2.pv 2))) (po_some (te_bin (fun _ => opAdd F.no) (te_var (L2.pv 2)) te_int))) (te_gstr rfl F.s_DOT rfl) (L2.nomark _)) tss_never (tss_one (ts_if (tt_cmp (fun _ => opNin rfl rfl (hu65 hr) F.nHas) (te_ix (fun _ => opIx rfl rfl rfl hr.units F.nGet) (te_var (L2.pv 0)) (te_var (L2.pv 2)) (fun _ _ => rfl)) (te_bin (fun _ => opAdd F.no) (te_bin (fun _ => opAdd F.no) (te_str rfl) (te_gstr rfl F.s_LAMBDA rfl)) (te_gstr rfl F.s_GAP rfl)) (by with_unfolding_all rfl)) tss_never tss_nil))))) (tss_cons (ts_expr (te_bm rfl PySem.F.plainAttrs_list PySem.F.slot_list_append PySem.F.type_list_append (fun _ => mAppend) (te_var (L2.pv 1)) (ta_cons (te_sl (te_var (L2.pv 0)) (po_some (te_var (L2.pv 2))) (po_some (te_bin (fun _ => opAdd F.no) (te_var (L2.pv 2)) (te_var (L2.pv 3))))) ta_nil))) (tss_one (ts_set (i := 2) S.nd rfl (by first | exact Or.inl rfl | exact Or.inr rfl) (te_bin (fun _ => opAdd F.no) (te_var (L2.pv 2)) (te_var (L2.pv 3))))))))) (tss_one (ts_ret (te_fz (te_var (L2.pv 1))))))))
end
end K77
set_option Elab.async false
set_option linter.all false
set_option autoImplicit false
set_option maxRecDepth 100000
set_option maxHeartbeats 0

namespace K77
open PySem PySem.Spec PyProof.Rows Sb
open L2 (V Hp HO VK XK Room defScope defBody defArgs)
open Ev (PV Val MO Hh Sg Exc Res SR)
section
variable {w : World} {K : PySem.W.Frag} {T : List (Addr × Str)} {mg : Str → Option Value} {base : Heap} {k : Nat} {cdv : Value} {A : Around} {outer : List Env} {s : Shared} {H : Hp} {Ex : XK}
/-- Reader.__init__ -/
theorem b85 (F : Fx w K T mg base) (hF : ∀ f, FnK (EE w K T) PW w K mg base k f) (hr : Room (4 * k + 3) (A.deeper (envOfC "Reader.__init__" (defScope s85) s.heap.objs.size (adrK K 85) cdv))) :
    PSsv (EE w K T) (L2.cxOf (L2.CX PW w) PW w K mg base N85 "Reader.__init__" (defScope s85) (adrK K 85) cdv A outer s H Ex) (fun C d _ H => Ex C d H) (Ev.callD (EE w K T).P k) (defBody s85) d85.body :=
  have S := S85
  (tss_cons (ts_setF (te_var (L2.pv 0)) (te_var (L2.pv 1)) rfl (F.fl 10)) (tss_cons (ts_setF (te_var (L2.pv 0)) te_int rfl (F.fl 11)) (tss_cons (ts_setF (te_var (L2.pv 0)) (te_lst ta_nil) rfl (F.fl 12)) (tss_one (ts_setF (te_var (L2.pv 0)) (te_lst ta_nil) rfl (F.fl 13))))))
/-- Reader.token -/
theorem b86 (F : Fx w K T mg base) (hF : ∀ f, FnK (EE w K T) PW w K mg base k f) (hr : Room (4 * k + 3) (A.deeper (envOfC "Reader.token" (defScope s86) s.heap.objs.size (adrK K 86) cdv))) :
    PSsv (EE w K T) (L2.cxOf (L2.CX PW w) PW w K mg base N86 "Reader.token" (defScope s86) (adrK K 86) cdv A outer s H Ex) (fun C d _ H => Ex C d H) (Ev.callD (EE w K T).P k) (defBody s86) d86.body :=
  have S := S86
  (tss_cons (ts_set (i := 1) S.nd rfl (by first | exact Or.inl rfl | exact Or.inr rfl) (te_ite (tt_cmp (fun _ => opLt) (te_fld (te_var (L2.pv 0)) rfl (F.fl 11) (F.nP 11) rfl) (te_bfB (fun _ => cLen rfl rfl rfl F.nLen) rfl F.n_len (by decide +kernel) (ta_cons (te_fld (te_var (L2.pv 0)) rfl (F.fl 10) (F.nP 10) rfl) ta_nil)) (L2.nomark _)) (te_ix (fun _ => opIx rfl rfl rfl hr.units F.nGet) (te_fld (te_var (L2.pv 0)) rfl (F.fl 10) (F.nP 10) rfl) (te_fld (te_var (L2.pv 0)) rfl (F.fl 11) (F.nP 11) rfl) (fun _ _ => rfl)) te_never)) (tss_cons (ts_setF (te_var (L2.pv 0)) (te_bin (fun _ => opAdd F.no) (te_fld (te_var (L2.pv 0)) rfl (F.fl 11) (F.nP 11) rfl) te_int) rfl (F.fl 11)) (tss_one (ts_ret (te_var (L2.pv 1))))))
/-- Reader.binders -/
theorem b87 (F : Fx w K T mg base) (hF : ∀ f, FnK (EE w K T) PW w K mg base k f) (hr : Room (4 * k + 3) (A.deeper (envOfC "Reader.binders" (defScope s87) s.heap.objs.size (adrK K 87) cdv))) :
    PSsv (EE w K T) (L2.cxOf (L2.CX PW w) PW w K mg base N87 "Reader.binders" (defScope s87) (adrK K 87) cdv A outer s H Ex) (fun C d _ H => Ex C d H) (Ev.callD (EE w K T).P k) (defBody s87) d87.body :=
  have S := S87
  (tss_cons (ts_if (tt_cmp (fun _ => opNe hr.units F.nEq) (te_meth0 hF (F.mD 14) (F.me 14) rfl (hr.mono (by omega)) (L2.takes_of rfl rfl rfl rfl) (te_var (L2.pv 0))) (te_gstr rfl F.s_LAMBDA rfl) (L2.nomark _)) (tss_cons (ts_setF (te_var (L2.pv 0)) (te_bin (fun _ => opSub F.no) (te_fld (te_var (L2.pv 0)) rfl (F.fl 11) (F.nP 11) rfl) te_int) rfl (F.fl 11)) (tss_one (ts_ret te_int))) tss_nil) tss_never)
/-- Reader.begin -/
theorem b88 (F : Fx w K T mg base) (hF : ∀ f, FnK (EE w K T) PW w K mg base k f) (hr : Room (4 * k + 3) (A.deeper (envOfC "Reader.begin" (defScope s88) s.heap.objs.size (adrK K 88) cdv))) :
    PSsv (EE w K T) (L2.cxOf (L2.CX PW w) PW w K mg base N88 "Reader.begin" (defScope s88) (adrK K 88) cdv A outer s H Ex) (fun C d _ H => Ex C d H) (Ev.callD (EE w K T).P k) (defBody s88) d88.body :=
  have S := S88
  (tss_cons (ts_set (i := 1) S.nd rfl (by first | exact Or.inl rfl | exact Or.inr rfl) (te_ite (tt_cmp (fun _ => opNe hr.units F.nEq) (te_fld (te_var (L2.pv 0)) rfl (F.fl 13) (F.nP 13) rfl) (te_lst ta_nil) (L2.nomark _)) te_never te_int)) (tss_cons (ts_set (i := 2) S.nd rfl (by first | exact Or.inl rfl | exact Or.inr rfl) (te_meth hF (F.mD 15) (F.me 15) rfl (hr.mono (by omega)) (L2.takes_of rfl rfl rfl rfl) (te_var (L2.pv 0)) (ta_cons (te_var (L2.pv 1)) ta_nil))) (tss_cons (ts_if (tt_isN (te_var (L2.pv 2))) tss_never tss_nil) (tss_cons (ts_expr (te_bm rfl PySem.F.plainAttrs_list PySem.F.slot_list_append PySem.F.type_list_append (fun _ => mAppend) (te_fld (te_var (L2.pv 0)) rfl (F.fl 13) (F.nP 13) rfl) (ta_cons (te_tup (ta_cons (te_bfB (fun _ => cLen rfl rfl rfl F.nLen) rfl F.n_len (by decide +kernel) (ta_cons (te_fld (te_var (L2.pv 0)) rfl (F.fl 12) (F.nP 12) rfl) ta_nil)) (ta_cons (te_bin (fun _ => opAdd F.no) (te_var (L2.pv 1)) (te_var (L2.pv 2))) ta_nil))) ta_nil))) (tss_one (ts_ret (te_meth hF (F.mD 16) (F.me 16) rfl (hr.mono (by omega)) (L2.takes_of rfl rfl rfl rfl) (te_var (L2.pv 0)) (ta_cons (te_var (L2.pv 2)) ta_nil))))))))
/-- Reader.add -/
theorem b89 (F : Fx w K T mg base) (hF : ∀ f, FnK (EE w K T) PW w K mg base k f) (hr : Room (4 * k + 3) (A.deeper (envOfC "Reader.add" (defScope s89) s.heap.objs.size (adrK K 89) cdv))) :
    PSsv (EE w K T) (L2.cxOf (L2.CX PW w) PW w K mg base N89 "Reader.add" (defScope s89) (adrK K 89) cdv A outer s H Ex) (fun C d _ H => Ex C d H) (Ev.callD (EE w K T).P k) (defBody s89) d89.body :=
  have S := S89
  (tss_cons (ts_set (i := 2) S.nd rfl (by first | exact Or.inl rfl | exact Or.inr rfl) (te_meth0 hF (F.mD 14) (F.me 14) rfl (hr.mono (by omega)) (L2.takes_of rfl rfl rfl rfl) (te_var (L2.pv 0)))) (tss_cons (ts_expr (te_bm rfl PySem.F.plainAttrs_list PySem.F.slot_list_append PySem.F.type_list_append (fun _ => mAppend) (te_fld (te_var (L2.pv 0)) rfl (F.fl 12) (F.nP 12) rfl) (ta_cons (te_tup (ta_cons (te_var (L2.pv 1)) (ta_cons (te_var (L2.pv 2)) (ta_cons te_int ta_nil)))) ta_nil))) (tss_one (ts_ret (te_and (te_call (hF 76) (F.pp.d rfl) rfl (hr.mono (by omega)) rfl F.g_is_node (L2.takes_of rfl rfl rfl rfl) (ta_cons (te_tup (ta_cons te_int (ta_cons (te_var (L2.pv 2)) (ta_cons te_int ta_nil)))) (ta_cons te_bl ta_nil))) (te_one (te_cmp (fun _ => opLe) (te_bfB (fun _ => cLen rfl rfl rfl F.nLen) rfl F.n_len (by decide +kernel) (ta_cons (te_fld (te_var (L2.pv 0)) rfl (F.fl 12) (F.nP 12) rfl) ta_nil)) (te_gint rfl F.i_MAX_NODES) (L2.nomark _))))))))
/-- Reader.go_on -/
theorem b90 (F : Fx w K T mg base) (hF : ∀ f, FnK (EE w K T) PW w K mg base k f) (hr : Room (4 * k + 3) (A.deeper (envOfC "Reader.go_on" (defScope s90) s.heap.objs.size (adrK K 90) cdv))) :
    PSsv (EE w K T) (L2.cxOf (L2.CX PW w) PW w K mg base N90 "Reader.go_on" (defScope s90) (adrK K 90) cdv A outer s H Ex) (fun C d _ H => Ex C d H) (Ev.callD (EE w K T).P k) (defBody s90) d90.body :=
  have S := S90
  (tss_cons (ts_set (i := 1) S.nd rfl (by first | exact Or.inl rfl | exact Or.inr rfl) (te_meth0 hF (F.mD 14) (F.me 14) rfl (hr.mono (by omega)) (L2.takes_of rfl rfl rfl rfl) (te_var (L2.pv 0)))) (tss_cons (ts_if (tt_cmp (fun _ => opEq hr.units F.nEq) (te_var (L2.pv 1)) (te_str rfl) (L2.nomark _)) tss_never tss_nil) (tss_cons (ts_if (tt_cmp (fun _ => opNe hr.units F.nEq) (te_var (L2.pv 1)) (te_str rfl) (L2.nomark _)) tss_never tss_nil) (tss_cons (ts_set (i := 2) S.nd rfl (by first | exact Or.inl rfl | exact Or.inr rfl) (te_ix (fun _ => opIx rfl rfl rfl hr.units F.nGet) (te_ix (fun _ => opIx rfl rfl rfl hr.units F.nGet) (te_fld (te_var (L2.pv 0)) rfl (F.fl 13) (F.nP 13) rfl) (te_neg te_int) (fun _ _ => rfl)) te_int (fun _ _ => rfl))) (tss_cons (ts_unp rfl rfl (te_ix (fun _ => opIx rfl rfl rfl hr.units F.nGet) (te_fld (te_var (L2.pv 0)) rfl (F.fl 12) (F.nP 12) rfl) (te_var (L2.pv 2)) (fun _ _ => rfl)) (tgs_nm (i := 3) S.nd rfl (by first | exact Or.inl rfl | exact Or.inr rfl) (tgs_nm (i := 4) S.nd rfl (by first | exact Or.inl rfl | exact Or.inr rfl) (tgs_nm (i := 5) S.nd rfl (by first | exact Or.inl rfl | exact Or.inr rfl) tgs_nil)))) (tss_cons (ts_setI rfl rfl hr.units (te_fld (te_var (L2.pv 0)) rfl (F.fl 12) (F.nP 12) rfl) (te_var (L2.pv 2)) (te_tup (ta_cons (te_var (L2.pv 3)) (ta_cons (te_var (L2.pv 4)) (ta_cons (te_bin (fun _ => opAdd F.no) (te_var (L2.pv 5)) te_int) ta_nil))))) (tss_cons (ts_if (tt_cmp (fun _ => opEq hr.units F.nEq) (te_meth0 hF (F.mD 14) (F.me 14) rfl (hr.mono (by omega)) (L2.takes_of rfl rfl rfl rfl) (te_var (L2.pv 0))) (te_str rfl) (L2.nomark _)) tss_never tss_nil) (tss_cons (ts_setF (te_var (L2.pv 0)) (te_bin (fun _ => opSub F.no) (te_fld (te_var (L2.pv 0)) rfl (F.fl 11) (F.nP 11) rfl) te_int) rfl (F.fl 11)) (tss_one (ts_ret (te_meth hF (F.mD 16) (F.me 16) rfl (hr.mono (by omega)) (L2.takes_of rfl rfl rfl rfl) (te_var (L2.pv 0)) (ta_cons te_int ta_nil))))))))))))
/-- nodes_of -/
theorem b91 (F : Fx w K T mg base) (hF : ∀ f, FnK (EE w K T) PW w K mg base k f) (hr : Room (4 * k + 3) (A.deeper (envOfC "nodes_of" (defScope s91) s.heap.objs.size (adrK K 91) cdv))) :
    PSsv (EE w K T) (L2.cxOf (L2.CX PW w) PW w K mg base N91 "nodes_of" (defScope s91) (adrK K 91) cdv A outer s H Ex) (fun C d _ H => Ex C d H) (Ev.callD (EE w K T).P k) (defBody s91) d91.body :=
  have S := S91
  (tss_cons (ts_set (i := 1) S.nd rfl (by first | exact Or.inl rfl | exact Or.inr rfl) (te_ite (pt_of (te_isi F.is rfl F.n_isinstance (te_var (L2.pv 0)) (pe_ty rfl F.n_str rfl))) (te_call (hF 84) (F.pp.d rfl) rfl (hr.mono (by omega)) rfl F.g_tokens_of (L2.takes_of rfl rfl rfl rfl) (ta_cons (te_var (L2.pv 0)) ta_nil)) te_never)) (tss_cons (ts_if (tt_isN (te_var (L2.pv 1))) tss_never tss_nil) (tss_cons (ts_set (i := 2) S.nd rfl (by first | exact Or.inl rfl | exact Or.inr rfl) (te_new hF F.pp (F.mkk 14) (F.kC 14) (hr.mono (by omega)) rfl F.c_Reader (L2.takes_of rfl rfl rfl rfl) (ta_cons (te_var (L2.pv 1)) ta_nil))) (tss_cons (ts_if (tt_not (pt_of (te_meth0 hF (F.mD 17) (F.me 17) rfl (hr.mono (by omega)) (L2.takes_of rfl rfl rfl rfl) (te_var (L2.pv 2))))) tss_never tss_nil) (tss_cons (ts_while (L2.passes_of rfl) (tt_cmp (fun _ => opLt) (te_fld (te_var (L2.pv 2)) rfl (F.fl 11) (F.nP 11) rfl) (te_bfB (fun _ => cLen rfl rfl rfl F.nLen) rfl F.n_len (by decide +kernel) (ta_cons (te_var (L2.pv 1)) ta_nil)) (L2.nomark _)) (tss_one (ts_if (tt_not (pt_of (te_meth0 hF (F.mD 18) (F.me 18) rfl (hr.mono (by omega)) (L2.takes_of rfl rfl rfl rfl) (te_var (L2.pv 2))))) tss_never tss_nil))) (tss_cons (ts_set (i := 3) S.nd rfl (by first | exact Or.inl rfl | exact Or.inr rfl) (te_bfT (fun _ => cTuple) rfl F.n_tuple (by decide +kernel) (ta_cons (te_fld (te_var (L2.pv 2)) rfl (F.fl 12) (F.nP 12) rfl) ta_nil))) (tss_one (ts_ret (te_ite (L2.PW.pt (tw_and (tt_cmp (fun _ => opEq hr.units F.nEq) (te_bfB (fun _ => cLen rfl rfl rfl F.nLen) rfl F.n_len (by decide +kernel) (ta_cons (te_fld (te_var (L2.pv 2)) rfl (F.fl 13) (F.nP 13) rfl) ta_nil)) te_int (L2.nomark _)) (tw_and1 (pt_of (te_call (hF 80) (F.pp.d rfl) rfl (hr.mono (by omega)) rfl F.g_are_nodes (L2.takes_of rfl rfl rfl rfl) (ta_cons (te_var (L2.pv 3)) (ta_cons te_bl ta_nil))))))) (te_var (L2.pv 3)) te_never)))))))))
/-- Program.__init__ -/
theorem b94 (F : Fx w K T mg base) (hF : ∀ f, FnK (EE w K T) PW w K mg base k f) (hr : Room (4 * k + 3) (A.deeper (envOfC "Program.__init__" (defScope s94) s.heap.objs.size (adrK K 94) cdv))) :
    PSsv (EE w K T) (L2.cxOf (L2.CX PW w) PW w K mg base N94 "Program.__init__" (defScope s94) (adrK K 94) cdv A outer s H Ex) (fun C d _ H => Ex C d H) (Ev.callD (EE w K T).P k) (defBody s94) d94.body :=
  have S := S94
  (tss_cons (ts_if (pt_of (te_isic F.is rfl F.n_isinstance (te_var (L2.pv 1)) (L2.pe_glob rfl F.c_Nodes rfl))) tss_never (tss_one (ts_if (tt_not (pt_of (te_call (hF 80) (F.pp.d rfl) rfl (hr.mono (by omega)) rfl F.g_are_nodes (L2.takes_of rfl rfl rfl rfl) (ta_cons (te_var (L2.pv 1)) (ta_cons te_bl ta_nil))))) tss_never (tss_one (ts_setF (te_var (L2.pv 0)) (te_var (L2.pv 1)) rfl (F.fl 19)))))) (tss_cons (ts_setF (te_var (L2.pv 0)) (te_bfT (fun _ => cTuple) rfl F.n_tuple (by decide +kernel) (ta_cons (te_call (hF 77) (F.pp.d rfl) rfl (hr.mono (by omega)) rfl F.g_kids_of (L2.takes_of rfl rfl rfl rfl) (ta_cons (te_fld (te_var (L2.pv 0)) rfl (F.fl 19) (F.nP 19) rfl) ta_nil)) ta_nil)) rfl (F.fl 20)) (tss_cons (ts_setF (te_var (L2.pv 0)) (te_bfT (fun _ => cTuple) rfl F.n_tuple (by decide +kernel) (ta_cons (te_call (hF 78) (F.pp.d rfl) rfl (hr.mono (by omega)) rfl F.g_ends_of (L2.takes_of rfl rfl rfl rfl) (ta_cons (te_fld (te_var (L2.pv 0)) rfl (F.fl 20) (F.nP 20) rfl) ta_nil)) ta_nil)) rfl (F.fl 21)) (tss_one (ts_setF (te_var (L2.pv 0)) (te_bfT (fun _ => cTuple) rfl F.n_tuple (by decide +kernel) (ta_cons (te_call (hF 79) (F.pp.d rfl) rfl (hr.mono (by omega)) rfl F.g_bound_of (L2.takes_of rfl rfl rfl rfl) (ta_cons (te_fld (te_var (L2.pv 0)) rfl (F.fl 19) (F.nP 19) rfl) (ta_cons (te_fld (te_var (L2.pv 0)) rfl (F.fl 20) (F.nP 20) rfl) ta_nil))) ta_nil)) rfl (F.fl 22))))))
/-- Program.read -/
theorem b95 (F : Fx w K T mg base) (hF : ∀ f, FnK (EE w K T) PW w K mg base k f) (hr : Room (4 * k + 3) (A.deeper (envOfC "Program.read" (defScope s95) s.heap.objs.size (adrK K 95) cdv))) :
    PSsv (EE w K T) (L2.cxOf (L2.CX PW w) PW w K mg base N95 "Program.read" (defScope s95) (adrK K 95) cdv A outer s H Ex) (fun C d _ H => Ex C d H) (Ev.callD (EE w K T).P k) (defBody s95) d95.body :=
  have S := S95
  (tss_cons (ts_set (i := 2) S.nd rfl (by first | exact Or.inl rfl | exact Or.inr rfl) (te_call (hF 91) (F.pp.d rfl) rfl (hr.mono (by omega)) rfl F.g_nodes_of (L2.takes_of rfl rfl rfl rfl) (ta_cons (te_var (L2.pv 1)) ta_nil))) (tss_cons (ts_if (L2.PW.pt (tw_or (tt_isN (te_var (L2.pv 2))) (tw_or1 (tt_not (pt_of (te_call (hF 80) (F.pp.d rfl) rfl (hr.mono (by omega)) rfl F.g_are_nodes (L2.takes_of rfl rfl rfl rfl) (ta_cons (te_var (L2.pv 2)) (ta_cons te_bl ta_nil)))))))) tss_never tss_nil) (tss_one (ts_ret (te_callv hF F.pp F.mkk F.kC (hr.mono (by omega)) (L2.takes_of rfl rfl rfl rfl) (te_var (L2.pv 0)) (ta_cons (te_var (L2.pv 2)) ta_nil))))))
/-- number_of -/
theorem b139 (F : Fx w K T mg base) (hF : ∀ f, FnK (EE w K T) PW w K mg base k f) (hr : Room (4 * k + 3) (A.deeper (envOfC "number_of" (defScope s139) s.heap.objs.size (adrK K 139) cdv))) :
    PSsv (EE w K T) (L2.cxOf (L2.CX PW w) PW w K mg base N139 "number_of" (defScope s139) (adrK K 139) cdv A outer s H Ex) (fun C d _ H => Ex C d H) (Ev.callD (EE w K T).P k) (defBody s139) d139.body :=
  have S := S139
  (tss_cons (ts_if (L2.PW.pt (tw_or (tt_not (tt_chn (fun _ => opLe) (fun _ => opLe) te_int (te_bfB (fun _ => cLen rfl rfl rfl F.nLen) rfl F.n_len (by decide +kernel) (ta_cons (te_var (L2.pv 0)) ta_nil)) (te_gint rfl F.i_MAX_DIGITS))) (tw_or1 (tt_not (pt_of (te_bfB (fun _ => cAll rfl) rfl F.n_all (by decide +kernel) (ta_cons (te_lc (own := [("sign", 1)]) rfl S.nd (by decide) (ti_any F.nItr (te_var (L2.pv 0))) (L2.blkOk_by (N := N139) (sc := defScope s139) (by decide +kernel)) (fun _ _ _ _ _ => (tg_name (L2.pg_name S.nd rfl (by first | exact Or.inl rfl | exact Or.inr rfl)))) (fun _ _ _ _ _ => tts_nil) (fun _ _ _ _ _ => (te_cmp (fun _ => opIn rfl rfl (hu65 hr) F.nHas) (te_var (L2.pv 1)) (te_gstr rfl F.s_DIGITS rfl) (by with_unfolding_all rfl)))) ta_nil))))))) (tss_one (ts_ret te_non)) tss_nil) (tss_one (ts_ret (te_ite (L2.PW.pt (tw_or (tt_cmp (fun _ => opEq hr.units F.nEq) (te_var (L2.pv 0)) (te_str rfl) (L2.nomark _)) (tw_or1 (tt_cmp (fun _ => opNe hr.units F.nEq) (te_ix (fun _ => opIx rfl rfl rfl hr.units F.nGet) (te_var (L2.pv 0)) te_int (fun _ _ => rfl)) (te_str rfl) (L2.nomark _))))) (te_bfT (fun _ => cInt) rfl F.n_int (by decide +kernel) (ta_cons (te_var (L2.pv 0)) ta_nil)) te_never))))
/-- lines_of -/
theorem b140 (F : Fx w K T mg base) (hF : ∀ f, FnK (EE w K T) PW w K mg base k f) (hr : Room (4 * k + 3) (A.deeper (envOfC "lines_of" (defScope s140) s.heap.objs.size (adrK K 140) cdv))) :
    PSsv (EE w K T) (L2.cxOf (L2.CX PW w) PW w K mg base N140 "lines_of" (defScope s140) (adrK K 140) cdv A outer s H Ex) (fun C d _ H => Ex C d H) (Ev.callD (EE w K T).P k) (defBody s140) d140.body :=
  have S := S140
  (tss_cons (ts_if (tt_not (pt_of (te_isi F.is rfl F.n_isinstance (te_var (L2.pv 0)) (pe_ty rfl F.n_str rfl)))) (tss_one (ts_raise1 rfl F.ri_8.1 ⟨_, rfl, rfl⟩ F.ri_8.2.choose_spec.1 F.ri_8.2.choose_spec.2 (hr.mono (by omega)) rfl F.c_ParseError (L2.takes_of rfl rfl rfl rfl) te_non)) tss_nil) (tss_one (ts_ret (te_ite (tt_cmp (fun _ => opNe hr.units F.nEq) (te_var (L2.pv 0)) (te_gstr rfl F.s_NONE rfl) (L2.nomark _)) (te_bm rfl PySem.F.plainAttrs_str PySem.F.slot_str_split PySem.F.type_str_split (fun _ => mSplit) (te_var (L2.pv 0)) (ta_cons (te_str rfl) ta_nil)) te_never))))
/-- question_text -/
theorem b141 (F : Fx w K T mg base) (hF : ∀ f, FnK (EE w K T) PW w K mg base k f) (hr : Room (4 * k + 3) (A.deeper (envOfC "question_text" (defScope s141) s.heap.objs.size (adrK K 141) cdv))) :
    PSsv (EE w K T) (L2.cxOf (L2.CX PW w) PW w K mg base N141 "question_text" (defScope s141) (adrK K 141) cdv A outer s H Ex) (fun C d _ H => Ex C d H) (Ev.callD (EE w K T).P k) (defBody s141) d141.body :=
  have S := S141
  (tss_cons (ts_set (i := 1) S.nd rfl (by first | exact Or.inl rfl | exact Or.inr rfl) (te_bm rfl PySem.F.plainAttrs_str PySem.F.slot_str_join PySem.F.type_str_join (fun _ => mJoin) (te_gstr rfl F.s_BETWEEN rfl) (ta_cons (te_bfT (fun _ => cList rfl) rfl F.n_list (by decide +kernel) (ta_cons (te_ix (fun _ => opIx rfl rfl rfl hr.units F.nGet) (te_var (L2.pv 0)) te_int (fun _ _ => rfl)) ta_nil)) ta_nil))) (tss_one (ts_ret (te_bin (fun _ => opAdd F.no) (te_bin (fun _ => opAdd F.no) (te_ite (tt_cmp (fun _ => opNe hr.units F.nEq) (te_var (L2.pv 1)) (te_str rfl) (L2.nomark _)) te_never (te_str rfl)) (te_gstr rfl F.s_TURNSTILE rfl)) (te_ix (fun _ => opIx rfl rfl rfl hr.units F.nGet) (te_var (L2.pv 0)) te_int (fun _ _ => rfl))))))
/-- question_told -/
theorem b142 (F : Fx w K T mg base) (hF : ∀ f, FnK (EE w K T) PW w K mg base k f) (hr : Room (4 * k + 3) (A.deeper (envOfC "question_told" (defScope s142) s.heap.objs.size (adrK K 142) cdv))) :
    PSsv (EE w K T) (L2.cxOf (L2.CX PW w) PW w K mg base N142 "question_told" (defScope s142) (adrK K 142) cdv A outer s H Ex) (fun C d _ H => Ex C d H) (Ev.callD (EE w K T).P k) (defBody s142) d142.body :=
  have S := S142
  (tss_cons (ts_if (tt_cmp (fun _ => opEq hr.units F.nEq) (te_sl (te_var (L2.pv 0)) (po_none fun _ _ => rfl) (po_some te_int)) (te_gstr rfl F.s_TURNSTILE rfl) (L2.nomark _)) (tss_one (ts_set (i := 1) S.nd rfl (by first | exact Or.inl rfl | exact Or.inr rfl) (te_tup (ta_cons (te_tup ta_nil) (ta_cons (te_sl (te_var (L2.pv 0)) (po_some te_int) (po_none fun _ _ => rfl)) ta_nil))))) tss_never) (tss_one (ts_ret (te_ite (pt_of (te_call (hF 75) (F.pp.d rfl) rfl (hr.mono (by omega)) rfl F.g_is_question (L2.takes_of rfl rfl rfl rfl) (ta_cons (te_var (L2.pv 1)) ta_nil))) (te_var (L2.pv 1)) te_never))))
/-- write_question -/
theorem b143 (F : Fx w K T mg base) (hF : ∀ f, FnK (EE w K T) PW w K mg base k f) (hr : Room (4 * k + 3) (A.deeper (envOfC "write_question" (defScope s143) s.heap.objs.size (adrK K 143) cdv))) :
    PSsv (EE w K T) (L2.cxOf (L2.CX PW w) PW w K mg base N143 "write_question" (defScope s143) (adrK K 143) cdv A outer s H Ex) (fun C d _ H => Ex C d H) (Ev.callD (EE w K T).P k) (defBody s143) d143.body :=
  have S := S143
  (tss_cons (ts_if (tt_not (pt_of (te_call (hF 75) (F.pp.d rfl) rfl (hr.mono (by omega)) rfl F.g_is_question (L2.takes_of rfl rfl rfl rfl) (ta_cons (te_var (L2.pv 0)) ta_nil)))) (tss_one (ts_raise0 rfl F.r_5 ⟨_, rfl, rfl⟩ rfl F.c_InvalidQuestion (L2.takes_of rfl rfl rfl rfl))) tss_nil) (tss_one (ts_ret (te_call (hF 141) (F.pp.d rfl) rfl (hr.mono (by omega)) rfl F.g_question_text (L2.takes_of rfl rfl rfl rfl) (ta_cons (te_var (L2.pv 0)) ta_nil)))))
/-- read_question -/
theorem b144 (F : Fx w K T mg base) (hF : ∀ f, FnK (EE w K T) PW w K mg base k f) (hr : Room (4 * k + 3) (A.deeper (envOfC "read_question" (defScope s144) s.heap.objs.size (adrK K 144) cdv))) :
    PSsv (EE w K T) (L2.cxOf (L2.CX PW w) PW w K mg base N144 "read_question" (defScope s144) (adrK K 144) cdv A outer s H Ex) (fun C d _ H => Ex C d H) (Ev.callD (EE w K T).P k) (defBody s144) d144.body :=
  have S := S144
  (tss_cons (ts_set (i := 1) S.nd rfl (by first | exact Or.inl rfl | exact Or.inr rfl) (te_ite (pt_of (te_isi F.is rfl F.n_isinstance (te_var (L2.pv 0)) (pe_ty rfl F.n_str rfl))) te_never te_non)) (tss_cons (ts_if (tt_isN (te_var (L2.pv 1))) (tss_one (ts_raise1 rfl F.ri_8.1 ⟨_, rfl, rfl⟩ F.ri_8.2.choose_spec.1 F.ri_8.2.choose_spec.2 (hr.mono (by omega)) rfl F.c_ParseError (L2.takes_of rfl rfl rfl rfl) te_non)) tss_nil) tss_never))
/-- is_rank_dict -/
theorem b145 (F : Fx w K T mg base) (hF : ∀ f, FnK (EE w K T) PW w K mg base k f) (hr : Room (4 * k + 3) (A.deeper (envOfC "is_rank_dict" (defScope s145) s.heap.objs.size (adrK K 145) cdv))) :
    PSsv (EE w K T) (L2.cxOf (L2.CX PW w) PW w K mg base N145 "is_rank_dict" (defScope s145) (adrK K 145) cdv A outer s H Ex) (fun C d _ H => Ex C d H) (Ev.callD (EE w K T).P k) (defBody s145) d145.body :=
  have S := S145
  (tss_cons (ts_if (L2.PW.pt (tw_or (tt_not (pt_of (te_isi F.is rfl F.n_isinstance (te_var (L2.pv 0)) (pe_ty rfl F.n_dict rfl)))) (tw_or1 (tt_not (pt_of (te_bfB (fun _ => cAll rfl) rfl F.n_all (by decide +kernel) (ta_cons (te_lc (own := [("question", 2)]) rfl S.nd (by decide) (ti_any F.nItr (te_var (L2.pv 0))) (L2.blkOk_by (N := N145) (sc := defScope s145) (by decide +kernel)) (fun _ _ _ _ _ => (tg_name (L2.pg_name S.nd rfl (by first | exact Or.inl rfl | exact Or.inr rfl)))) (fun _ _ _ _ _ => tts_nil) (fun _ _ _ _ _ => (te_call (hF 75) (F.pp.d rfl) rfl (hr.mono (by omega)) rfl F.g_is_question LamX.takes0 (ta_cons (te_var (L2.pv 2)) ta_nil)))) ta_nil))))))) (tss_one (ts_ret te_bl)) tss_nil) (tss_one (ts_ret (te_bfB (fun _ => cAll rfl) rfl F.n_all (by decide +kernel) (ta_cons (te_lc (own := [("rank", 1)]) rfl S.nd (by decide) (ti_vals F.nItr (te_var (L2.pv 0))) (L2.blkOk_by (N := N145) (sc := defScope s145) (by decide +kernel)) (fun _ _ _ _ _ => (tg_name (L2.pg_name S.nd rfl (by first | exact Or.inl rfl | exact Or.inr rfl)))) (fun _ _ _ _ _ => tts_nil) (fun _ _ _ _ _ => (te_and (te_call (hF 1) (F.pp.d rfl) rfl (hr.mono (by omega)) rfl F.g_is_integer LamX.takes0 (ta_cons (te_var (L2.pv 1)) ta_nil)) (te_one (te_cmp (fun _ => opGe) (te_var (L2.pv 1)) te_int (L2.nomark _)))))) ta_nil)))))
/-- write_ranks -/
theorem b146 (F : Fx w K T mg base) (hF : ∀ f, FnK (EE w K T) PW w K mg base k f) (hr : Room (4 * k + 3) (A.deeper (envOfC "write_ranks" (defScope s146) s.heap.objs.size (adrK K 146) cdv))) :
    PSsv (EE w K T) (L2.cxOf (L2.CX PW w) PW w K mg base N146 "write_ranks" (defScope s146) (adrK K 146) cdv A outer s H Ex) (fun C d _ H => Ex C d H) (Ev.callD (EE w K T).P k) (defBody s146) d146.body :=
  have S := S146
  (tss_cons (ts_if (tt_not (pt_of (te_call (hF 145) (F.pp.d rfl) rfl (hr.mono (by omega)) rfl F.g_is_rank_dict (L2.takes_of rfl rfl rfl rfl) (ta_cons (te_var (L2.pv 0)) ta_nil)))) (tss_one (ts_raise0 rfl F.r_7 ⟨_, rfl, rfl⟩ rfl F.c_InvalidOperation (L2.takes_of rfl rfl rfl rfl))) tss_nil) (tss_cons (ts_setLc (i := 1) (own := [("question", 2)]) rfl S.nd rfl rfl (by first | exact sw_true rfl rfl rfl (by decide +kernel) | with_unfolding_all rfl) (by decide) (ti_any F.nItr (te_bfB (fun _ => cSorted rfl) rfl F.n_sorted (by decide +kernel) (ta_cons (te_bfT (fun _ => cList rfl) rfl F.n_list (by decide +kernel) (ta_cons (te_var (L2.pv 0)) ta_nil)) ta_nil))) (L2.blkOk_by (N := N146) (sc := defScope s146) (by decide +kernel)) (fun _ _ _ _ _ => (tg_name (L2.pg_name S.nd rfl (by first | exact Or.inl rfl | exact Or.inr rfl)))) (fun _ _ _ _ _ => tts_nil) (fun _ _ _ _ _ => (te_fs (tf_v (te_ix (fun _ => opIx rfl rfl rfl hr.units F.nGet) (te_var (L2.pv 0)) (te_var (L2.pv 2)) (fun _ _ => rfl)) (tf_c rfl (tf_v (te_call (hF 141) (F.pp.d rfl) rfl (hr.mono (by omega)) rfl F.g_question_text LamX.takes0 (ta_cons (te_var (L2.pv 2)) ta_nil)) tf_nil)))))) (tss_one (ts_ret (te_ite (tt_cmp (fun _ => opNe hr.units F.nEq) (te_var (L2.pv 1)) (te_lst ta_nil) (L2.nomark _)) (te_bm rfl PySem.F.plainAttrs_str PySem.F.slot_str_join PySem.F.type_str_join (fun _ => mJoin) (te_str rfl) (ta_cons (te_var (L2.pv 1)) ta_nil)) te_never)))))
/-- rank_told -/
theorem b147 (F : Fx w K T mg base) (hF : ∀ f, FnK (EE w K T) PW w K mg base k f) (hr : Room (4 * k + 3) (A.deeper (envOfC "rank_told" (defScope s147) s.heap.objs.size (adrK K 147) cdv))) :
    PSsv (EE w K T) (L2.cxOf (L2.CX PW w) PW w K mg base N147 "rank_told" (defScope s147) (adrK K 147) cdv A outer s H Ex) (fun C d _ H => Ex C d H) (Ev.callD (EE w K T).P k) (defBody s147) d147.body :=
  have S := S147
  (tss_cons (ts_unp rfl rfl (te_bm rfl PySem.F.plainAttrs_str PySem.F.slot_str_partition PySem.F.type_str_partition (fun _ => mPartition) (te_var (L2.pv 0)) (ta_cons (te_str rfl) ta_nil)) (tgs_nm (i := 1) S.nd rfl (by first | exact Or.inl rfl | exact Or.inr rfl) (tgs_nm (i := 2) S.nd rfl (by first | exact Or.inl rfl | exact Or.inr rfl) (tgs_nm (i := 3) S.nd rfl (by first | exact Or.inl rfl | exact Or.inr rfl) tgs_nil)))) (tss_cons (ts_par (i := 4) (j := 5) rfl S.nd rfl rfl (by decide) rfl rfl (ta_cons (te_call (hF 139) (F.pp.d rfl) rfl (hr.mono (by omega)) rfl F.g_number_of (L2.takes_of rfl rfl rfl rfl) (ta_cons (te_var (L2.pv 1)) ta_nil)) (ta_cons (te_call (hF 142) (F.pp.d rfl) rfl (hr.mono (by omega)) rfl F.g_question_told (L2.takes_of rfl rfl rfl rfl) (ta_cons (te_var (L2.pv 3)) ta_nil)) ta_nil)) (by with_unfolding_all rfl)) (tss_one (ts_ret (te_ite (L2.PW.pt (tw_or (tt_isN (te_var (L2.pv 4))) (tw_or (tt_cmp (fun _ => opEq hr.units F.nEq) (te_var (L2.pv 4)) te_int (L2.nomark _)) (tw_or1 (tt_isN (te_var (L2.pv 5))))))) te_non (te_tup (ta_cons (te_var (L2.pv 5)) (ta_cons (te_var (L2.pv 4)) ta_nil))))))))
/-- pairs_told -/
theorem b148 (F : Fx w K T mg base) (hF : ∀ f, FnK (EE w K T) PW w K mg base k f) (hr : Room (4 * k + 3) (A.deeper (envOfC "pairs_told" (defScope s148) s.heap.objs.size (adrK K 148) cdv))) :
    PSsv (EE w K T) (L2.cxOf (L2.CX PW w) PW w K mg base N148 "pairs_told" (defScope s148) (adrK K 148) cdv A outer s H Ex) (fun C d _ H => Ex C d H) (Ev.callD (EE w K T).P k) (defBody s148) d148.body :=
  have S := S148
  (tss_cons (ts_set (i := 2) S.nd rfl (by first | exact Or.inl rfl | exact Or.inr rfl) te_d0m) (tss_cons (ts_set (i := 3) S.nd rfl (by first | exact Or.inl rfl | exact Or.inr rfl) te_non) (tss_cons (ts_for (L2.passes_of rfl) rfl (ti_enum F.nItr rfl F.n_enumerate (ta_cons (te_call (hF 140) (F.pp.d rfl) rfl (hr.mono (by omega)) rfl F.g_lines_of (L2.takes_of rfl rfl rfl rfl) (ta_cons (te_var (L2.pv 0)) ta_nil)) ta_nil)) (tg_tup rfl (L2.pgs_cons (L2.pg_name S.nd rfl (by first | exact Or.inl rfl | exact Or.inr rfl)) (L2.pgs_cons (L2.pg_name S.nd rfl (by first | exact Or.inl rfl | exact Or.inr rfl)) L2.pgs_nil))) (tss_cons (ts_set (i := 6) S.nd rfl (by first | exact Or.inl rfl | exact Or.inr rfl) (te_callv hF F.pp F.mkk F.kC (hr.mono (by omega)) (L2.takes_of rfl rfl rfl rfl) (te_var (L2.pv 1)) (ta_cons (te_var (L2.pv 5)) ta_nil))) (tss_cons (ts_if (L2.PW.pt (tw_or (tt_isN (te_var (L2.pv 6))) (tw_or1 (L2.PW.pt (tw_and (tt_notN (te_var (L2.pv 3))) (tw_and1 tt_never)))))) (tss_one (ts_raise1 rfl F.ri_8.1 ⟨_, rfl, rfl⟩ F.ri_8.2.choose_spec.1 F.ri_8.2.choose_spec.2 (hr.mono (by omega)) rfl F.c_ParseError (L2.takes_of rfl rfl rfl rfl) (te_var (L2.pv 4)))) tss_nil) (tss_cons (ts_set (i := 3) S.nd rfl (by first | exact Or.inl rfl | exact Or.inr rfl) (te_ix (fun _ => opIx rfl rfl rfl hr.units F.nGet) (te_var (L2.pv 6)) te_int (fun _ _ => rfl))) (tss_one (ts_setI rfl rfl hr.units (te_var (L2.pv 2)) (te_var (L2.pv 3)) (te_ix (fun _ => opIx rfl rfl rfl hr.units F.nGet) (te_var (L2.pv 6)) te_int (fun _ _ => rfl)))))))) (tss_one (ts_ret (te_fz (te_var (L2.pv 2))))))))
/-- read_ranks -/
theorem b149 (F : Fx w K T mg base) (hF : ∀ f, FnK (EE w K T) PW w K mg base k f) (hr : Room (4 * k + 3) (A.deeper (envOfC "read_ranks" (defScope s149) s.heap.objs.size (adrK K 149) cdv))) :
    PSsv (EE w K T) (L2.cxOf (L2.CX PW w) PW w K mg base N149 "read_ranks" (defScope s149) (adrK K 149) cdv A outer s H Ex) (fun C d _ H => Ex C d H) (Ev.callD (EE w K T).P k) (defBody s149) d149.body :=
  have S := S149
  (tss_one (ts_ret (te_call (hF 148) (F.pp.d rfl) rfl (hr.mono (by omega)) rfl F.g_pairs_told (L2.takes_of rfl rfl rfl rfl) (ta_cons (te_var (L2.pv 0)) (ta_cons (te_gfn rfl F.g_rank_told) ta_nil)))))
/-- write_room -/
theorem b152 (F : Fx w K T mg base) (hF : ∀ f, FnK (EE w K T) PW w K mg base k f) (hr : Room (4 * k + 3) (A.deeper (envOfC "write_room" (defScope s152) s.heap.objs.size (adrK K 152) cdv))) :
    PSsv (EE w K T) (L2.cxOf (L2.CX PW w) PW w K mg base N152 "write_room" (defScope s152) (adrK K 152) cdv A outer s H Ex) (fun C d _ H => Ex C d H) (Ev.callD (EE w K T).P k) (defBody s152) d152.body :=
  have S := S152
  (tss_cons (ts_if (tt_not (pt_of (te_isic F.is rfl F.n_isinstance (te_var (L2.pv 0)) (L2.pe_glob rfl F.c_Room rfl)))) (tss_one (ts_raise0 rfl F.r_6 ⟨_, rfl, rfl⟩ rfl F.c_InvalidRoom (L2.takes_of rfl rfl rfl rfl))) tss_nil) tss_never)
/-- read_room -/
theorem b153 (F : Fx w K T mg base) (hF : ∀ f, FnK (EE w K T) PW w K mg base k f) (hr : Room (4 * k + 3) (A.deeper (envOfC "read_room" (defScope s153) s.heap.objs.size (adrK K 153) cdv))) :
    PSsv (EE w K T) (L2.cxOf (L2.CX PW w) PW w K mg base N153 "read_room" (defScope s153) (adrK K 153) cdv A outer s H Ex) (fun C d _ H => Ex C d H) (Ev.callD (EE w K T).P k) (defBody s153) d153.body :=
  have S := S153
  (tss_cons (ts_if (tt_not (pt_of (te_isi F.is rfl F.n_isinstance (te_var (L2.pv 0)) (pe_ty rfl F.n_str rfl)))) (tss_one (ts_raise1 rfl F.ri_8.1 ⟨_, rfl, rfl⟩ F.ri_8.2.choose_spec.1 F.ri_8.2.choose_spec.2 (hr.mono (by omega)) rfl F.c_ParseError (L2.takes_of rfl rfl rfl rfl) te_non)) tss_nil) tss_never)
/-- write_puts -/
theorem b154 (F : Fx w K T mg base) (hF : ∀ f, FnK (EE w K T) PW w K mg base k f) (hr : Room (4 * k + 3) (A.deeper (envOfC "write_puts" (defScope s154) s.heap.objs.size (adrK K 154) cdv))) :
    PSsv (EE w K T) (L2.cxOf (L2.CX PW w) PW w K mg base N154 "write_puts" (defScope s154) (adrK K 154) cdv A outer s H Ex) (fun C d _ H => Ex C d H) (Ev.callD (EE w K T).P k) (defBody s154) d154.body :=
  have S := S154
  (tss_cons (ts_if (L2.PW.pt (tw_or (tt_not (pt_of (te_isi F.is rfl F.n_isinstance (te_var (L2.pv 0)) (pe_ty rfl F.n_dict rfl)))) (tw_or1 (tt_not (pt_of (te_bfB (fun _ => cAll rfl) rfl F.n_all (by decide +kernel) (ta_cons (te_lc (own := [("part", 2)]) rfl S.nd (by decide) (ti_any F.nItr (te_var (L2.pv 0))) (L2.blkOk_by (N := N154) (sc := defScope s154) (by decide +kernel)) (fun _ _ _ _ _ => (tg_name (L2.pg_name S.nd rfl (by first | exact Or.inl rfl | exact Or.inr rfl)))) (fun _ _ _ _ _ => tts_nil) (fun _ _ _ _ _ => (te_call (hF 3) (F.pp.d rfl) rfl (hr.mono (by omega)) rfl F.g_is_word LamX.takes0 (ta_cons (te_var (L2.pv 2)) ta_nil)))) ta_nil))))))) (tss_one (ts_raise0 rfl F.r_7 ⟨_, rfl, rfl⟩ rfl F.c_InvalidOperation (L2.takes_of rfl rfl rfl rfl))) tss_nil) (tss_cons (ts_if (tt_not (pt_of (te_bfB (fun _ => cAll rfl) rfl F.n_all (by decide +kernel) (ta_cons (te_lc (own := [("program", 3)]) rfl S.nd (by decide) (ti_vals F.nItr (te_var (L2.pv 0))) (L2.blkOk_by (N := N154) (sc := defScope s154) (by decide +kernel)) (fun _ _ _ _ _ => (tg_name (L2.pg_name S.nd rfl (by first | exact Or.inl rfl | exact Or.inr rfl)))) (fun _ _ _ _ _ => tts_nil) (fun _ _ _ _ _ => (te_isic F.is rfl F.n_isinstance (te_var (L2.pv 3)) (L2.pe_glob rfl F.c_Program rfl)))) ta_nil)))) (tss_one (ts_raise0 rfl F.r_7 ⟨_, rfl, rfl⟩ rfl F.c_InvalidOperation (L2.takes_of rfl rfl rfl rfl))) tss_nil) (tss_cons (ts_setLc (i := 1) (own := [("part", 2)]) rfl S.nd rfl rfl (by first | exact sw_true rfl rfl rfl (by decide +kernel) | with_unfolding_all rfl) (by decide) (ti_any F.nItr (te_bfB (fun _ => cSorted rfl) rfl F.n_sorted (by decide +kernel) (ta_cons (te_bfT (fun _ => cList rfl) rfl F.n_list (by decide +kernel) (ta_cons (te_var (L2.pv 0)) ta_nil)) ta_nil))) (L2.blkOk_by (N := N154) (sc := defScope s154) (by decide +kernel)) (fun _ _ _ _ _ => (tg_name (L2.pg_name S.nd rfl (by first | exact Or.inl rfl | exact Or.inr rfl)))) (fun _ _ _ _ _ => tts_nil) (fun _ _ _ _ _ => te_never)) (tss_one (ts_ret (te_ite (tt_cmp (fun _ => opNe hr.units F.nEq) (te_var (L2.pv 1)) (te_lst ta_nil) (L2.nomark _)) te_never (te_gstr rfl F.s_NONE rfl)))))))
/-- read_puts -/
theorem b156 (F : Fx w K T mg base) (hF : ∀ f, FnK (EE w K T) PW w K mg base k f) (hr : Room (4 * k + 3) (A.deeper (envOfC "read_puts" (defScope s156) s.heap.objs.size (adrK K 156) cdv))) :
    PSsv (EE w K T) (L2.cxOf (L2.CX PW w) PW w K mg base N156 "read_puts" (defScope s156) (adrK K 156) cdv A outer s H Ex) (fun C d _ H => Ex C d H) (Ev.callD (EE w K T).P k) (defBody s156) d156.body :=
  have S := S156
  (tss_one (ts_ret (te_call (hF 148) (F.pp.d rfl) rfl (hr.mono (by omega)) rfl F.g_pairs_told (L2.takes_of rfl rfl rfl rfl) (ta_cons (te_var (L2.pv 0)) (ta_cons (te_gfn rfl F.g_put_told) ta_nil)))))
/-- write_library -/
theorem b157 (F : Fx w K T mg base) (hF : ∀ f, FnK (EE w K T) PW w K mg base k f) (hr : Room (4 * k + 3) (A.deeper (envOfC "write_library" (defScope s157) s.heap.objs.size (adrK K 157) cdv))) :
    PSsv (EE w K T) (L2.cxOf (L2.CX PW w) PW w K mg base N157 "write_library" (defScope s157) (adrK K 157) cdv A outer s H Ex) (fun C d _ H => Ex C d H) (Ev.callD (EE w K T).P k) (defBody s157) d157.body :=
  have S := S157
  (tss_cons (ts_expr (te_call (hF 69) (F.pp.d rfl) rfl (hr.mono (by omega)) rfl F.g_require_library (L2.takes_of rfl rfl rfl rfl) (ta_cons (te_var (L2.pv 0)) ta_nil))) tss_never)
/-- read_library -/
theorem b159 (F : Fx w K T mg base) (hF : ∀ f, FnK (EE w K T) PW w K mg base k f) (hr : Room (4 * k + 3) (A.deeper (envOfC "read_library" (defScope s159) s.heap.objs.size (adrK K 159) cdv))) :
    PSsv (EE w K T) (L2.cxOf (L2.CX PW w) PW w K mg base N159 "read_library" (defScope s159) (adrK K 159) cdv A outer s H Ex) (fun C d _ H => Ex C d H) (Ev.callD (EE w K T).P k) (defBody s159) d159.body :=
  have S := S159
  (tss_one (ts_ret (te_new hF F.pp (F.mkk 13) (F.kC 13) (hr.mono (by omega)) rfl F.c_Library (L2.takes_of rfl rfl rfl rfl) (ta_cons (te_call (hF 148) (F.pp.d rfl) rfl (hr.mono (by omega)) rfl F.g_pairs_told (L2.takes_of rfl rfl rfl rfl) (ta_cons (te_var (L2.pv 0)) (ta_cons (te_gfn rfl F.g_line_told) ta_nil))) ta_nil))))
/-- _law_dice -/
theorem b160 (F : Fx w K T mg base) (hF : ∀ f, FnK (EE w K T) PW w K mg base k f) (hr : Room (4 * k + 3) (A.deeper (envOfC "_law_dice" (defScope s160) s.heap.objs.size (adrK K 160) cdv))) :
    PSsv (EE w K T) (L2.cxOf (L2.CX PW w) PW w K mg base N160 "_law_dice" (defScope s160) (adrK K 160) cdv A outer s H Ex) (fun C d _ H => Ex C d H) (Ev.callD (EE w K T).P k) (defBody s160) d160.body :=
  have S := S160
  (tss_cons (ts_set (i := 2) S.nd rfl (by first | exact Or.inl rfl | exact Or.inr rfl) (te_bin (fun _ => opAdd F.no) (te_bin (fun _ => opMul F.no) te_int (te_var (L2.pv 1))) te_int)) (tss_cons (ts_if (tt_cmp (fun _ => opLt) (te_var (L2.pv 1)) (te_bfB (fun _ => cLen rfl rfl rfl F.nLen) rfl F.n_len (by decide +kernel) (ta_cons (te_var (L2.pv 0)) ta_nil)) (L2.nomark _)) (tss_one (ts_set (i := 2) S.nd rfl (by first | exact Or.inl rfl | exact Or.inr rfl) (te_ix (fun _ => opIx rfl rfl rfl hr.units F.nGet) (te_var (L2.pv 0)) (te_var (L2.pv 1)) (fun _ _ => rfl)))) tss_nil) (tss_cons (ts_set (i := 3) S.nd rfl (by first | exact Or.inl rfl | exact Or.inr rfl) (te_bin (fun _ => opMod F.no) (te_bfT (fun _ => cInt) rfl F.n_int (by decide +kernel) (ta_cons (te_bfB (fun _ => cAbs) rfl F.n_abs (by decide +kernel) (ta_cons (te_var (L2.pv 2)) ta_nil)) ta_nil)) (te_bin (fun _ => opPow F.no) (te_bin (fun _ => opPow F.no) te_int te_int) te_int))) (tss_cons (ts_set (i := 4) S.nd rfl (by first | exact Or.inl rfl | exact Or.inr rfl) (te_bin (fun _ => opAdd F.no) (te_bin (fun _ => opAdd F.no) (te_bin (fun _ => opAdd F.no) (te_bin (fun _ => opMul F.no) (te_bin (fun _ => opMod F.no) (te_bfT (fun _ => cInt) rfl F.n_int (by decide +kernel) (ta_cons (te_var (L2.pv 3)) ta_nil)) te_int) te_int) (te_bin (fun _ => opMul F.no) te_int (te_var (L2.pv 1)))) (te_bin (fun _ => opMul F.no) te_int (te_bfT (fun _ => cInt) rfl F.n_int (by decide +kernel) (ta_cons (te_cmp (fun _ => opLt) (te_var (L2.pv 2)) te_int (L2.nomark _)) ta_nil)))) te_int)) (tss_one (ts_ret (te_lst (ta_cons (te_bfB (fun _ => cMax2 rfl) rfl F.n_max (by decide +kernel) (ta_cons te_int (ta_cons (te_bin (fun _ => opSub F.no) (te_var (L2.pv 3)) (te_bin (fun _ => opPow F.no) te_int te_int)) ta_nil))) (ta_cons (te_bin (fun _ => opMod F.no) (te_bfT (fun _ => cInt) rfl F.n_int (by decide +kernel) (ta_cons (te_var (L2.pv 4)) ta_nil)) te_int) (ta_cons te_int ta_nil))))))))))
/-- _law_roll -/
theorem b161 (F : Fx w K T mg base) (hF : ∀ f, FnK (EE w K T) PW w K mg base k f) (hr : Room (4 * k + 3) (A.deeper (envOfC "_law_roll" (defScope s161) s.heap.objs.size (adrK K 161) cdv))) :
    PSsv (EE w K T) (L2.cxOf (L2.CX PW w) PW w K mg base N161 "_law_roll" (defScope s161) (adrK K 161) cdv A outer s H Ex) (fun C d _ H => Ex C d H) (Ev.callD (EE w K T).P k) (defBody s161) d161.body :=
  have S := S161
  (tss_cons (ts_if (tt_cmp (fun _ => opGt) (te_ix (fun _ => opIx rfl rfl rfl hr.units F.nGet) (te_var (L2.pv 0)) te_int (fun _ _ => rfl)) te_int (L2.nomark _)) (tss_cons (ts_set (i := 4) S.nd rfl (by first | exact Or.inl rfl | exact Or.inr rfl) (te_bin (fun _ => opMod F.no) (te_bfT (fun _ => cInt) rfl F.n_int (by decide +kernel) (ta_cons (te_ix (fun _ => opIx rfl rfl rfl hr.units F.nGet) (te_var (L2.pv 0)) te_int (fun _ _ => rfl)) ta_nil)) (te_var (L2.pv 1)))) (tss_cons (ts_setI rfl rfl hr.units (te_var (L2.pv 0)) te_int (te_bin (fun _ => opFdiv F.no) (te_ix (fun _ => opIx rfl rfl rfl hr.units F.nGet) (te_var (L2.pv 0)) te_int (fun _ _ => rfl)) (te_var (L2.pv 1)))) (tss_one (ts_ret (te_var (L2.pv 4)))))) tss_nil) (tss_cons (ts_setI rfl rfl hr.units (te_var (L2.pv 0)) te_int (te_bin (fun _ => opAdd F.no) (te_ix (fun _ => opIx rfl rfl rfl hr.units F.nGet) (te_var (L2.pv 0)) te_int (fun _ _ => rfl)) te_int)) (tss_cons (ts_set (i := 2) S.nd rfl (by first | exact Or.inl rfl | exact Or.inr rfl) (te_bin (fun _ => opMod F.no) (te_bfT (fun _ => cInt) rfl F.n_int (by decide +kernel) (ta_cons (te_bin (fun _ => opAdd F.no) (te_ix (fun _ => opIx rfl rfl rfl hr.units F.nGet) (te_var (L2.pv 0)) te_int (fun _ _ => rfl)) (te_bin (fun _ => opMul F.no) te_int (te_ix (fun _ => opIx rfl rfl rfl hr.units F.nGet) (te_var (L2.pv 0)) te_int (fun _ _ => rfl)))) ta_nil)) te_int)) (tss_cons (ts_set (i := 3) S.nd rfl (by first | exact Or.inl rfl | exact Or.inr rfl) (te_bin (fun _ => opAdd F.no) (te_bin (fun _ => opMul F.no) (te_bin (fun _ => opMod F.no) (te_bfT (fun _ => cInt) rfl F.n_int (by decide +kernel) (ta_cons (te_bin (fun _ => opMul F.no) (te_var (L2.pv 2)) (te_var (L2.pv 2))) ta_nil)) te_int) (te_var (L2.pv 2))) (te_bin (fun _ => opMul F.no) te_int (te_ix (fun _ => opIx rfl rfl rfl hr.units F.nGet) (te_var (L2.pv 0)) te_int (fun _ _ => rfl))))) (tss_cons (ts_set (i := 3) S.nd rfl (by first | exact Or.inl rfl | exact Or.inr rfl) (te_bin (fun _ => opMod F.no) (te_bfT (fun _ => cInt) rfl F.n_int (by decide +kernel) (ta_cons (te_var (L2.pv 3)) ta_nil)) te_int)) (tss_one (ts_ret (te_bin (fun _ => opMod F.no) (te_bfT (fun _ => cInt) rfl F.n_int (by decide +kernel) (ta_cons (te_bin (fun _ => opFdiv F.no) (te_var (L2.pv 3)) te_int) ta_nil)) (te_var (L2.pv 1))))))))))
/-- _law_pick -/
theorem b162 (F : Fx w K T mg base) (hF : ∀ f, FnK (EE w K T) PW w K mg base k f) (hr : Room (4 * k + 3) (A.deeper (envOfC "_law_pick" (defScope s162) s.heap.objs.size (adrK K 162) cdv))) :
    PSsv (EE w K T) (L2.cxOf (L2.CX PW w) PW w K mg base N162 "_law_pick" (defScope s162) (adrK K 162) cdv A outer s H Ex) (fun C d _ H => Ex C d H) (Ev.callD (EE w K T).P k) (defBody s162) d162.body :=
  have S := S162
  (tss_one (ts_ret (te_ix (fun _ => opIx rfl rfl rfl hr.units F.nGet) (te_var (L2.pv 1)) (te_call (hF 161) (F.pp.d rfl) rfl (hr.mono (by omega)) rfl F.g__law_roll (L2.takes_of rfl rfl rfl rfl) (ta_cons (te_var (L2.pv 0)) (ta_cons (te_bfB (fun _ => cLen rfl rfl rfl F.nLen) rfl F.n_len (by decide +kernel) (ta_cons (te_var (L2.pv 1)) ta_nil)) ta_nil))) (fun _ _ => rfl))))
/-- _law_right -/
theorem b164 (F : Fx w K T mg base) (hF : ∀ f, FnK (EE w K T) PW w K mg base k f) (hr : Room (4 * k + 3) (A.deeper (envOfC "_law_right" (defScope s164) s.heap.objs.size (adrK K 164) cdv))) (hcd : cdv = .ref (He.cT K ("_law_right", none)).1) :
    PSsv (EE w K T) (L2.cxOf (L2.CX PW w) PW w K mg base N164 "_law_right" (defScope s164) (adrK K 164) cdv A outer s H Ex) (fun C d _ H => Ex C d H) (Ev.callD (EE w K T).P k) (defBody s164) d164.body :=
  have S := S164
  (tss_cons (ts_set (i := 1) S.nd rfl (by first | exact Or.inl rfl | exact Or.inr rfl) (te_cm hF F.pp F.m_16_24 ⟨_, rfl, rfl⟩ rfl (hr.mono (by omega)) rfl F.c_Program (L2.takes_of rfl rfl rfl rfl) (ta_cons (te_str rfl) ta_nil))) (tss_cons (ts_set (i := 2) S.nd rfl (by first | exact Or.inl rfl | exact Or.inr rfl) (te_lst (ta_cons te_non (ta_cons te_int (ta_cons (te_tup ta_nil) (ta_cons (te_tup (ta_cons (te_str rfl) (ta_cons (te_str rfl) ta_nil))) (ta_cons (te_tup (ta_cons (te_tup (ta_cons (te_str rfl) ta_nil)) (ta_cons (te_str rfl) ta_nil))) (ta_cons (te_tup (ta_cons (te_tup (ta_cons (te_str rfl) (ta_cons (te_str rfl) ta_nil))) (ta_cons (te_str rfl) ta_nil))) (ta_cons (te_tup (ta_cons (te_lst (ta_cons (te_str rfl) ta_nil)) (ta_cons (te_str rfl) ta_nil))) (ta_cons (te_tup (ta_cons (te_tup (ta_cons (te_str rfl) ta_nil)) (ta_cons (te_str rfl) ta_nil))) (ta_cons (te_tup (ta_cons (te_tup ta_nil) (ta_cons (te_str rfl) ta_nil))) (ta_cons te_d0 ta_nil)))))))))))) (tss_cons (ts_set (i := 2) S.nd rfl (by first | exact Or.inl rfl | exact Or.inr rfl) (te_call (hF 162) (F.pp.d rfl) rfl (hr.mono (by omega)) rfl F.g__law_pick (L2.takes_of rfl rfl rfl rfl) (ta_cons (te_var (L2.pv 0)) (ta_cons (te_bin (fun _ => opAdd F.no) (te_var (L2.pv 2)) (te_lst (ta_cons (te_tup (ta_cons (te_tup (ta_cons (te_cm hF F.pp F.m_12_24 ⟨_, rfl, rfl⟩ rfl (hr.mono (by omega)) rfl F.c_Type (L2.takes_of rfl rfl rfl rfl) (ta_cons (te_str rfl) ta_nil)) ta_nil)) (ta_cons (te_str rfl) ta_nil))) (ta_cons (te_tup (ta_cons (te_tup (ta_cons (te_str rfl) (ta_cons (te_str rfl) ta_nil))) (ta_cons (te_str rfl) ta_nil))) (ta_cons (te_tup (ta_cons (te_tup ta_nil) (ta_cons (te_str rfl) (ta_cons (te_tup ta_nil) ta_nil)))) ta_nil))))) ta_nil)))) (tss_cons (ts_set (i := 3) S.nd rfl (by first | exact Or.inl rfl | exact Or.inr rfl) (te_lst (ta_cons te_non (ta_cons (te_lst ta_nil) (ta_cons (te_dispT rfl rfl hr.units (td_cons (te_tup (ta_cons (te_tup ta_nil) (ta_cons (te_str rfl) ta_nil))) te_int td_nil (keyTup)) rfl rfl (List.cons_ne_nil _ _) (by decide)) (ta_cons (te_dispT rfl rfl hr.units (td_cons (te_tup (ta_cons (te_tup ta_nil) (ta_cons (te_str rfl) ta_nil))) te_bl td_nil (keyTup)) rfl rfl (List.cons_ne_nil _ _) (by decide)) (ta_cons (te_dispT rfl rfl hr.units (td_cons (te_tup (ta_cons (te_tup ta_nil) (ta_cons (te_str rfl) ta_nil))) (te_str rfl) td_nil (keyTup)) rfl rfl (List.cons_ne_nil _ _) (by decide)) (ta_cons (te_dispK (td_cons (te_str rfl) te_int td_nil (keyCst _ rfl)) rfl rfl (List.cons_ne_nil _ _) (by decide)) (ta_cons (te_dispT rfl rfl hr.units (td_cons (te_tup (ta_cons (te_tup ta_nil) (ta_cons (te_str rfl) ta_nil))) (te_bin (fun _ => opPow F.no) te_int te_int) td_nil (keyTup)) rfl rfl (List.cons_ne_nil _ _) (by decide)) (ta_cons (te_tup ta_nil) (ta_cons (te_str rfl) ta_nil))))))))))) (tss_cons (ts_set (i := 3) S.nd rfl (by first | exact Or.inl rfl | exact Or.inr rfl) (te_call (hF 162) (F.pp.d rfl) rfl (hr.mono (by omega)) rfl F.g__law_pick (L2.takes_of rfl rfl rfl rfl) (ta_cons (te_var (L2.pv 0)) (ta_cons (te_bin (fun _ => opAdd F.no) (te_var (L2.pv 3)) (te_lst (ta_cons (te_dispT rfl rfl hr.units (td_cons (te_tup (ta_cons (te_tup ta_nil) (ta_cons (te_str rfl) ta_nil))) te_int (td_cons (te_tup (ta_cons (te_tup ta_nil) (ta_cons (te_str rfl) ta_nil))) te_int td_nil (keyTup)) (keyTup)) rfl rfl (List.cons_ne_nil _ _) (by decide)) ta_nil))) ta_nil)))) (tss_cons (ts_set (i := 4) S.nd rfl (by first | exact Or.inl rfl | exact Or.inr rfl) (te_call (hF 162) (F.pp.d rfl) rfl (hr.mono (by omega)) rfl F.g__law_pick (L2.takes_of rfl rfl rfl rfl) (ta_cons (te_var (L2.pv 0)) (ta_cons (te_lst (ta_cons te_non (ta_cons te_int (ta_cons (te_tup ta_nil) (ta_cons (te_tup (ta_cons (te_tup (ta_cons (te_tup (ta_cons te_int ta_nil)) ta_nil)) (ta_cons (te_tup (ta_cons (te_tup ta_nil) ta_nil)) ta_nil))) (ta_cons (te_str rfl) (ta_cons te_d0 (ta_cons (te_var (L2.pv 1)) ta_nil)))))))) ta_nil)))) (tss_cons (ts_set (i := 5) S.nd rfl (by first | exact Or.inl rfl | exact Or.inr rfl) (te_call (hF 162) (F.pp.d rfl) rfl (hr.mono (by omega)) rfl F.g__law_pick (L2.takes_of rfl rfl rfl rfl) (ta_cons (te_var (L2.pv 0)) (ta_cons (te_lst (ta_cons te_non (ta_cons (te_lst ta_nil) (ta_cons (te_dispK (td_cons (te_str rfl) (te_var (L2.pv 1)) td_nil (keyCst _ rfl)) rfl rfl (List.cons_ne_nil _ _) (by decide)) (ta_cons (te_dispK (td_cons (te_str rfl) (te_str rfl) td_nil (keyCst _ rfl)) rfl rfl (List.cons_ne_nil _ _) (by decide)) (ta_cons (te_dispK (td_cons te_int (te_var (L2.pv 1)) td_nil (keyCst _ rfl)) rfl rfl (List.cons_ne_nil _ _) (by decide)) (ta_cons (te_dispK (td_cons (te_str rfl) (te_var (L2.pv 1)) (td_cons (te_str rfl) (te_var (L2.pv 1)) td_nil (keyCst _ rfl)) (keyCst _ rfl)) rfl rfl (List.cons_ne_nil _ _) (by decide)) (ta_cons (te_tup ta_nil) (ta_cons (te_str rfl) ta_nil))))))))) ta_nil)))) (tss_cons (ts_set (i := 6) S.nd rfl (by first | exact Or.inl rfl | exact Or.inr rfl) (te_call (hF 162) (F.pp.d rfl) rfl (hr.mono (by omega)) rfl F.g__law_pick (L2.takes_of rfl rfl rfl rfl) (ta_cons (te_var (L2.pv 0)) (ta_cons (te_lst (ta_cons te_non (ta_cons te_int (ta_cons te_d0 (ta_cons (te_dispK (td_cons (te_str rfl) (te_cm hF F.pp F.m_12_24 ⟨_, rfl, rfl⟩ rfl (hr.mono (by omega)) rfl F.c_Type (L2.takes_of rfl rfl rfl rfl) (ta_cons (te_str rfl) ta_nil)) td_nil (keyCst _ rfl)) rfl rfl (List.cons_ne_nil _ _) (by decide)) (ta_cons (te_tup ta_nil) (ta_cons (te_str rfl) (ta_cons (te_var (L2.pv 1)) ta_nil)))))))) ta_nil)))) (tss_cons (ts_set (i := 7) S.nd rfl (by first | exact Or.inl rfl | exact Or.inr rfl) (te_lst (ta_cons (te_met (kk := 4 * k + 1) F.no F.ex rfl rfl F.fd_163.choose_spec (fun _ _ _ _ _ _ us hl => match us, hl with | [_], _ => rfl) S163 rfl (Or.inl rfl) (fun _ => rfl) (fun _ _ _ => metH F) rfl F.g__law_met F.tb_164 hcd F.tm_164 F.tu_164 (hr.mono (by omega)) (LamX.lamS_by (sc := defScope s164) (by decide +kernel)) rfl (fun _ _ _ _ _ => rfl) (fun A outer s H Ex f c' hr => (te_call (hF 143) (F.pp.d rfl) rfl (hr.mono (by omega)) rfl F.g_write_question (L2.takes_of rfl rfl rfl rfl) (ta_cons (te_var (L2.pv 2)) ta_nil)))) ta_nil))) (tss_cons (ts_expr (te_bm rfl PySem.F.plainAttrs_list PySem.F.slot_list_append PySem.F.type_list_append (fun _ => mAppend) (te_var (L2.pv 7)) (ta_cons (te_met (kk := 4 * k + 1) F.no F.ex rfl rfl F.fd_163.choose_spec (fun _ _ _ _ _ _ us hl => match us, hl with | [_], _ => rfl) S163 rfl (Or.inl rfl) (fun _ => rfl) (fun _ _ _ => metH F) rfl F.g__law_met F.tb_164 hcd F.tm_164 F.tu_164 (hr.mono (by omega)) (LamX.lamS_by (sc := defScope s164) (by decide +kernel)) rfl (fun _ _ _ _ _ => rfl) (fun A outer s H Ex f c' hr => (te_call (hF 146) (F.pp.d rfl) rfl (hr.mono (by omega)) rfl F.g_write_ranks (L2.takes_of rfl rfl rfl rfl) (ta_cons (te_var (L2.pv 3)) ta_nil)))) ta_nil))) (tss_cons (ts_expr (te_bm rfl PySem.F.plainAttrs_list PySem.F.slot_list_append PySem.F.type_list_append (fun _ => mAppend) (te_var (L2.pv 7)) (ta_cons (te_met (kk := 4 * k + 1) F.no F.ex rfl rfl F.fd_163.choose_spec (fun _ _ _ _ _ _ us hl => match us, hl with | [_], _ => rfl) S163 rfl (Or.inl rfl) (fun _ => rfl) (fun _ _ _ => metH F) rfl F.g__law_met F.tb_164 hcd F.tm_164 F.tu_164 (hr.mono (by omega)) (LamX.lamS_by (sc := defScope s164) (by decide +kernel)) rfl (fun _ _ _ _ _ => rfl) (fun A outer s H Ex f c' hr => (te_call (hF 152) (F.pp.d rfl) rfl (hr.mono (by omega)) rfl F.g_write_room (L2.takes_of rfl rfl rfl rfl) (ta_cons (te_var (L2.pv 4)) ta_nil)))) ta_nil))) (tss_cons (ts_expr (te_bm rfl PySem.F.plainAttrs_list PySem.F.slot_list_append PySem.F.type_list_append (fun _ => mAppend) (te_var (L2.pv 7)) (ta_cons (te_met (kk := 4 * k + 1) F.no F.ex rfl rfl F.fd_163.choose_spec (fun _ _ _ _ _ _ us hl => match us, hl with | [_], _ => rfl) S163 rfl (Or.inl rfl) (fun _ => rfl) (fun _ _ _ => metH F) rfl F.g__law_met F.tb_164 hcd F.tm_164 F.tu_164 (hr.mono (by omega)) (LamX.lamS_by (sc := defScope s164) (by decide +kernel)) rfl (fun _ _ _ _ _ => rfl) (fun A outer s H Ex f c' hr => (te_call (hF 154) (F.pp.d rfl) rfl (hr.mono (by omega)) rfl F.g_write_puts (L2.takes_of rfl rfl rfl rfl) (ta_cons (te_var (L2.pv 5)) ta_nil)))) ta_nil))) (tss_cons (ts_expr (te_bm rfl PySem.F.plainAttrs_list PySem.F.slot_list_append PySem.F.type_list_append (fun _ => mAppend) (te_var (L2.pv 7)) (ta_cons (te_met (kk := 4 * k + 1) F.no F.ex rfl rfl F.fd_163.choose_spec (fun _ _ _ _ _ _ us hl => match us, hl with | [_], _ => rfl) S163 rfl (Or.inl rfl) (fun _ => rfl) (fun _ _ _ => metH F) rfl F.g__law_met F.tb_164 hcd F.tm_164 F.tu_164 (hr.mono (by omega)) (LamX.lamS_by (sc := defScope s164) (by decide +kernel)) rfl (fun _ _ _ _ _ => rfl) (fun A outer s H Ex f c' hr => (te_call (hF 157) (F.pp.d rfl) rfl (hr.mono (by omega)) rfl F.g_write_library (L2.takes_of rfl rfl rfl rfl) (ta_cons (te_var (L2.pv 6)) ta_nil)))) ta_nil))) (tss_cons (ts_if (tt_cmp (fun _ => opNe hr.units F.nEq) (te_var (L2.pv 7)) (te_lst (ta_cons (te_str rfl) (ta_cons (te_str rfl) (ta_cons (te_str rfl) (ta_cons (te_str rfl) (ta_cons (te_str rfl) ta_nil)))))) (L2.nomark _)) tss_never tss_nil) (tss_cons (ts_set (i := 8) S.nd rfl (by first | exact Or.inl rfl | exact Or.inr rfl) (te_call (hF 162) (F.pp.d rfl) rfl (hr.mono (by omega)) rfl F.g__law_pick (L2.takes_of rfl rfl rfl rfl) (ta_cons (te_var (L2.pv 0)) (ta_cons (te_lst (ta_cons te_non (ta_cons te_int (ta_cons (te_tup ta_nil) (ta_cons (te_lst (ta_cons (te_str rfl) ta_nil)) (ta_cons te_d0 (ta_cons te_bl ta_nil))))))) ta_nil)))) (tss_cons (ts_set (i := 7) S.nd rfl (by first | exact Or.inl rfl | exact Or.inr rfl) (te_lst (ta_cons (te_met (kk := 4 * k + 1) F.no F.ex rfl rfl F.fd_163.choose_spec (fun _ _ _ _ _ _ us hl => match us, hl with | [_], _ => rfl) S163 rfl (Or.inl rfl) (fun _ => rfl) (fun _ _ _ => metH F) rfl F.g__law_met F.tb_164 hcd F.tm_164 F.tu_164 (hr.mono (by omega)) (LamX.lamS_by (sc := defScope s164) (by decide +kernel)) rfl (fun _ _ _ _ _ => rfl) (fun A outer s H Ex f c' hr => (te_call (hF 144) (F.pp.d rfl) rfl (hr.mono (by omega)) rfl F.g_read_question (L2.takes_of rfl rfl rfl rfl) (ta_cons (te_var (L2.pv 8)) ta_nil)))) ta_nil))) (tss_cons (ts_expr (te_bm rfl PySem.F.plainAttrs_list PySem.F.slot_list_append PySem.F.type_list_append (fun _ => mAppend) (te_var (L2.pv 7)) (ta_cons (te_met (kk := 4 * k + 1) F.no F.ex rfl rfl F.fd_163.choose_spec (fun _ _ _ _ _ _ us hl => match us, hl with | [_], _ => rfl) S163 rfl (Or.inl rfl) (fun _ => rfl) (fun _ _ _ => metH F) rfl F.g__law_met F.tb_164 hcd F.tm_164 F.tu_164 (hr.mono (by omega)) (LamX.lamS_by (sc := defScope s164) (by decide +kernel)) rfl (fun _ _ _ _ _ => rfl) (fun A outer s H Ex f c' hr => (te_call (hF 149) (F.pp.d rfl) rfl (hr.mono (by omega)) rfl F.g_read_ranks (L2.takes_of rfl rfl rfl rfl) (ta_cons (te_var (L2.pv 8)) ta_nil)))) ta_nil))) (tss_cons (ts_expr (te_bm rfl PySem.F.plainAttrs_list PySem.F.slot_list_append PySem.F.type_list_append (fun _ => mAppend) (te_var (L2.pv 7)) (ta_cons (te_met (kk := 4 * k + 1) F.no F.ex rfl rfl F.fd_163.choose_spec (fun _ _ _ _ _ _ us hl => match us, hl with | [_], _ => rfl) S163 rfl (Or.inl rfl) (fun _ => rfl) (fun _ _ _ => metH F) rfl F.g__law_met F.tb_164 hcd F.tm_164 F.tu_164 (hr.mono (by omega)) (LamX.lamS_by (sc := defScope s164) (by decide +kernel)) rfl (fun _ _ _ _ _ => rfl) (fun A outer s H Ex f c' hr => (te_call (hF 153) (F.pp.d rfl) rfl (hr.mono (by omega)) rfl F.g_read_room (L2.takes_of rfl rfl rfl rfl) (ta_cons (te_var (L2.pv 8)) ta_nil)))) ta_nil))) (tss_cons (ts_expr (te_bm rfl PySem.F.plainAttrs_list PySem.F.slot_list_append PySem.F.type_list_append (fun _ => mAppend) (te_var (L2.pv 7)) (ta_cons (te_met (kk := 4 * k + 1) F.no F.ex rfl rfl F.fd_163.choose_spec (fun _ _ _ _ _ _ us hl => match us, hl with | [_], _ => rfl) S163 rfl (Or.inl rfl) (fun _ => rfl) (fun _ _ _ => metH F) rfl F.g__law_met F.tb_164 hcd F.tm_164 F.tu_164 (hr.mono (by omega)) (LamX.lamS_by (sc := defScope s164) (by decide +kernel)) rfl (fun _ _ _ _ _ => rfl) (fun A outer s H Ex f c' hr => (te_call (hF 156) (F.pp.d rfl) rfl (hr.mono (by omega)) rfl F.g_read_puts (L2.takes_of rfl rfl rfl rfl) (ta_cons (te_var (L2.pv 8)) ta_nil)))) ta_nil))) (tss_cons (ts_expr (te_bm rfl PySem.F.plainAttrs_list PySem.F.slot_list_append PySem.F.type_list_append (fun _ => mAppend) (te_var (L2.pv 7)) (ta_cons (te_met (kk := 4 * k + 1) F.no F.ex rfl rfl F.fd_163.choose_spec (fun _ _ _ _ _ _ us hl => match us, hl with | [_], _ => rfl) S163 rfl (Or.inl rfl) (fun _ => rfl) (fun _ _ _ => metH F) rfl F.g__law_met F.tb_164 hcd F.tm_164 F.tu_164 (hr.mono (by omega)) (LamX.lamS_by (sc := defScope s164) (by decide +kernel)) rfl (fun _ _ _ _ _ => rfl) (fun A outer s H Ex f c' hr => (te_call (hF 159) (F.pp.d rfl) rfl (hr.mono (by omega)) rfl F.g_read_library (L2.takes_of rfl rfl rfl rfl) (ta_cons (te_var (L2.pv 8)) ta_nil)))) ta_nil))) (tss_one (ts_ret (te_cmp (fun _ => opEq hr.units F.nEq) (te_var (L2.pv 7)) (te_bin (fun _ => opMul F.no) (te_lst (ta_cons (te_str rfl) ta_nil)) te_int) (L2.nomark _))))))))))))))))))))))))
end
end K77
set_option Elab.async false
set_option linter.all false
set_option autoImplicit false
set_option maxRecDepth 100000
set_option maxHeartbeats 0

namespace K77
open PySem PySem.Spec PyProof.Rows Sb
open L2 (V Hp HO VK XK Room defScope defBody defArgs)
open Ev (PV Val MO Hh Sg Exc Res SR)
section
variable {w : World} {K : PySem.W.Frag} {T : List (Addr × Str)} {mg : Str → Option Value} {base : Heap} {k : Nat} {cdv : Value} {A : Around} {outer : List Env} {s : Shared} {H : Hp} {Ex : XK}
/-- law -/
theorem b165 (F : Fx w K T mg base) (hF : ∀ f, FnK (EE w K T) PW w K mg base k f) (hr : Room (4 * k + 3) (A.deeper (envOfC "law" (defScope s165) s.heap.objs.size (adrK K 165) cdv))) (hcd : cdv = .ref (He.cT K ("law", none)).1) :
    PSsv (EE w K T) (L2.cxOf (L2.CX PW w) PW w K mg base N165 "law" (defScope s165) (adrK K 165) cdv A outer s H Ex) (fun C d _ H => Ex C d H) (Ev.callD (EE w K T).P k) (defBody s165) d165.body :=
  have S := S165
  (tss_cons (ts_for (L2.passes_of rfl) rfl (ti_range1 F.nItr rfl F.n_range (ta_cons (te_bfB (fun _ => cMax2 rfl) rfl F.n_max (by decide +kernel) (ta_cons te_int (ta_cons (te_bfB (fun _ => cMin2 rfl) rfl F.n_min (by decide +kernel) (ta_cons te_int (ta_cons (te_bfB (fun _ => cLen rfl rfl rfl F.nLen) rfl F.n_len (by decide +kernel) (ta_cons (te_var (L2.pv 0)) ta_nil)) ta_nil))) ta_nil))) ta_nil)) (tg_name (L2.pg_name S.nd rfl (by first | exact Or.inl rfl | exact Or.inr rfl))) (tss_cons (ts_set (i := 3) S.nd rfl (by first | exact Or.inl rfl | exact Or.inr rfl) (te_call (hF 160) (F.pp.d rfl) rfl (hr.mono (by omega)) rfl F.g__law_dice (L2.takes_of rfl rfl rfl rfl) (ta_cons (te_var (L2.pv 0)) (ta_cons (te_var (L2.pv 1)) ta_nil)))) (tss_one (ts_for (L2.passes_of rfl) rfl (ti_range1 F.nItr rfl F.n_range (ta_cons te_int ta_nil)) (tg_name (L2.pg_name S.nd rfl (by first | exact Or.inl rfl | exact Or.inr rfl))) (tss_one (ts_if (tt_not (pt_of (te_call (hF 164) (F.pp.d rfl) rfl (hr.mono (by omega)) rfl F.g__law_right (L2.takes_of rfl rfl rfl rfl) (ta_cons (te_var (L2.pv 3)) ta_nil)))) tss_never tss_nil)))))) (tss_cons (ts_set (i := 2) S.nd rfl (by first | exact Or.inl rfl | exact Or.inr rfl) (te_lst (ta_cons (te_met (kk := 4 * k + 1) F.no F.ex rfl rfl F.fd_163.choose_spec (fun _ _ _ _ _ _ us hl => match us, hl with | [_], _ => rfl) S163 rfl (Or.inl rfl) (fun _ => rfl) (fun _ _ _ => metH F) rfl F.g__law_met F.tb_165 hcd F.tm_165 F.tu_165 (hr.mono (by omega)) (LamX.lamS_by (sc := defScope s165) (by decide +kernel)) rfl (fun _ _ _ _ _ => rfl) (fun A outer s H Ex f c' hr => (te_call (hF 146) (F.pp.d rfl) rfl (hr.mono (by omega)) rfl F.g_write_ranks (L2.takes_of rfl rfl rfl rfl) (ta_cons (te_dispT rfl rfl hr.units (td_cons (te_tup (ta_cons (te_tup ta_nil) (ta_cons (te_str rfl) ta_nil))) (te_bin (fun _ => opPow F.no) te_int te_int) td_nil (keyTup)) rfl rfl (List.cons_ne_nil _ _) (by decide)) ta_nil)))) ta_nil))) (tss_cons (ts_expr (te_bm rfl PySem.F.plainAttrs_list PySem.F.slot_list_append PySem.F.type_list_append (fun _ => mAppend) (te_var (L2.pv 2)) (ta_cons (te_met (kk := 4 * k + 1) F.no F.ex rfl rfl F.fd_163.choose_spec (fun _ _ _ _ _ _ us hl => match us, hl with | [_], _ => rfl) S163 rfl (Or.inl rfl) (fun _ => rfl) (fun _ _ _ => metH F) rfl F.g__law_met F.tb_165 hcd F.tm_165 F.tu_165 (hr.mono (by omega)) (LamX.lamS_by (sc := defScope s165) (by decide +kernel)) rfl (fun _ _ _ _ _ => rfl) (fun A outer s H Ex f c' hr => (te_call (hF 149) (F.pp.d rfl) rfl (hr.mono (by omega)) rfl F.g_read_ranks (L2.takes_of rfl rfl rfl rfl) (ta_cons (te_bin (fun _ => opAdd F.no) (te_bin (fun _ => opMul F.no) (te_str rfl) te_int) (te_str rfl)) ta_nil)))) ta_nil))) (tss_cons (ts_expr (te_bm rfl PySem.F.plainAttrs_list PySem.F.slot_list_append PySem.F.type_list_append (fun _ => mAppend) (te_var (L2.pv 2)) (ta_cons (te_met (kk := 4 * k + 1) F.no F.ex rfl rfl F.fd_163.choose_spec (fun _ _ _ _ _ _ us hl => match us, hl with | [_], _ => rfl) S163 rfl (Or.inl rfl) (fun _ => rfl) (fun _ _ _ => metH F) rfl F.g__law_met F.tb_165 hcd F.tm_165 F.tu_165 (hr.mono (by omega)) (LamX.lamS_by (sc := defScope s165) (by decide +kernel)) rfl (fun _ _ _ _ _ => rfl) (fun A outer s H Ex f c' hr => (te_call (hF 149) (F.pp.d rfl) rfl (hr.mono (by omega)) rfl F.g_read_ranks (L2.takes_of rfl rfl rfl rfl) (ta_cons (te_bin (fun _ => opAdd F.no) (te_bin (fun _ => opMul F.no) (te_str rfl) te_int) (te_str rfl)) ta_nil)))) ta_nil))) (tss_cons (ts_expr (te_bm rfl PySem.F.plainAttrs_list PySem.F.slot_list_append PySem.F.type_list_append (fun _ => mAppend) (te_var (L2.pv 2)) (ta_cons (te_met (kk := 4 * k + 1) F.no F.ex rfl rfl F.fd_163.choose_spec (fun _ _ _ _ _ _ us hl => match us, hl with | [_], _ => rfl) S163 rfl (Or.inl rfl) (fun _ => rfl) (fun _ _ _ => metH F) rfl F.g__law_met F.tb_165 hcd F.tm_165 F.tu_165 (hr.mono (by omega)) (LamX.lamS_by (sc := defScope s165) (by decide +kernel)) rfl (fun _ _ _ _ _ => rfl) (fun A outer s H Ex f c' hr => (te_call (hF 149) (F.pp.d rfl) rfl (hr.mono (by omega)) rfl F.g_read_ranks (L2.takes_of rfl rfl rfl rfl) (ta_cons (te_str rfl) ta_nil)))) ta_nil))) (tss_cons (ts_expr (te_bm rfl PySem.F.plainAttrs_list PySem.F.slot_list_append PySem.F.type_list_append (fun _ => mAppend) (te_var (L2.pv 2)) (ta_cons (te_met (kk := 4 * k + 1) F.no F.ex rfl rfl F.fd_163.choose_spec (fun _ _ _ _ _ _ us hl => match us, hl with | [_], _ => rfl) S163 rfl (Or.inl rfl) (fun _ => rfl) (fun _ _ _ => metH F) rfl F.g__law_met F.tb_165 hcd F.tm_165 F.tu_165 (hr.mono (by omega)) (LamX.lamS_by (sc := defScope s165) (by decide +kernel)) rfl (fun _ _ _ _ _ => rfl) (fun A outer s H Ex f c' hr => (te_call (hF 154) (F.pp.d rfl) rfl (hr.mono (by omega)) rfl F.g_write_puts (L2.takes_of rfl rfl rfl rfl) (ta_cons te_d0 ta_nil)))) ta_nil))) (tss_cons (ts_expr (te_bm rfl PySem.F.plainAttrs_list PySem.F.slot_list_append PySem.F.type_list_append (fun _ => mAppend) (te_var (L2.pv 2)) (ta_cons (te_met (kk := 4 * k + 1) F.no F.ex rfl rfl F.fd_163.choose_spec (fun _ _ _ _ _ _ us hl => match us, hl with | [_], _ => rfl) S163 rfl (Or.inl rfl) (fun _ => rfl) (fun _ _ _ => metH F) rfl F.g__law_met F.tb_165 hcd F.tm_165 F.tu_165 (hr.mono (by omega)) (LamX.lamS_by (sc := defScope s165) (by decide +kernel)) rfl (fun _ _ _ _ _ => rfl) (fun A outer s H Ex f c' hr => (te_call (hF 143) (F.pp.d rfl) rfl (hr.mono (by omega)) rfl F.g_write_question (L2.takes_of rfl rfl rfl rfl) (ta_cons (te_tup (ta_cons (te_tup ta_nil) (ta_cons (te_str rfl) ta_nil))) ta_nil)))) ta_nil))) (tss_one (ts_ret (te_cmp (fun _ => opEq hr.units F.nEq) (te_var (L2.pv 2)) (te_lst (ta_cons (te_str rfl) (ta_cons (te_str rfl) (ta_cons (te_str rfl) (ta_cons (te_str rfl) (ta_cons (te_str rfl) (ta_cons (te_str rfl) ta_nil))))))) (L2.nomark _)))))))))))
end
end K77
set_option Elab.async false
set_option linter.all false
set_option autoImplicit false
set_option maxRecDepth 100000
set_option maxHeartbeats 0

namespace K77
open PySem PySem.Spec PyProof.Rows Sb
open L2 (V Hp HO VK XK Room defScope defBody defArgs)
open Ev (PV Val MO Hh Sg Exc Res SR)
def TT (K : PySem.W.Frag) : List (Addr × Str) := [((He.cT K ("_law_right", none)).2, (envOfC "_law_right" (defScope s164) 0 0 .none).qual ++ "<lambda>"), ((He.cT K ("law", none)).2, (envOfC "law" (defScope s165) 0 0 .none).qual ++ "<lambda>")]
theorem fa_at {K : PySem.W.Frag} (h : ckA K = true) (i : Nat) {f : He.Fa} (e : fas[i]? = some f) : f.ok K = true := List.all_eq_true.mp h f (List.mem_of_getElem? e)
theorem fd_at {K : PySem.W.Frag} {h : Heap} (c : SaysS fds ck tf h K) (i : Nat) {d : FD} (e : fds[i]? = some d) : ∃ fd, L2.FunD K d.name d.qual d.params d.body d.scope [] [] (d.at_ K) fd := c.fn d (List.mem_of_getElem? e)
theorem h1 : ∀ (kV doc pm : Value) (an : Option Addr) (cdv ct : Value) (us : List Value), us.length = P1.length → bindArgs (PySem.W.fnOf "is_integer" "is_integer" (defArgs s1) (defBody s1) (defScope s1) .none kV doc pm an cdv ct) ⟨us, []⟩ = pure (P1.zip us) := fun _ _ _ _ _ _ us hl => match us, hl with | [_], _ => rfl
theorem h2 : ∀ (kV doc pm : Value) (an : Option Addr) (cdv ct : Value) (us : List Value), us.length = P2.length → bindArgs (PySem.W.fnOf "is_within" "is_within" (defArgs s2) (defBody s2) (defScope s2) .none kV doc pm an cdv ct) ⟨us, []⟩ = pure (P2.zip us) := fun _ _ _ _ _ _ us hl => match us, hl with | [_, _, _], _ => rfl
theorem h3 : ∀ (kV doc pm : Value) (an : Option Addr) (cdv ct : Value) (us : List Value), us.length = P3.length → bindArgs (PySem.W.fnOf "is_word" "is_word" (defArgs s3) (defBody s3) (defScope s3) .none kV doc pm an cdv ct) ⟨us, []⟩ = pure (P3.zip us) := fun _ _ _ _ _ _ us hl => match us, hl with | [_], _ => rfl
theorem h4 : ∀ (kV doc pm : Value) (an : Option Addr) (cdv ct : Value) (us : List Value), us.length = P4.length → bindArgs (PySem.W.fnOf "level_of" "level_of" (defArgs s4) (defBody s4) (defScope s4) .none kV doc pm an cdv ct) ⟨us, []⟩ = pure (P4.zip us) := fun _ _ _ _ _ _ us hl => match us, hl with | [_], _ => rfl
theorem h9 : ∀ (kV doc pm : Value) (an : Option Addr) (cdv ct : Value) (us : List Value), us.length = P9.length → bindArgs (PySem.W.fnOf "signs_of" "signs_of" (defArgs s9) (defBody s9) (defScope s9) .none kV doc pm an cdv ct) ⟨us, []⟩ = pure (P9.zip us) := fun _ _ _ _ _ _ us hl => match us, hl with | [_], _ => rfl
theorem h10 : ∀ (kV doc pm : Value) (an : Option Addr) (cdv ct : Value) (us : List Value), us.length = P10.length → bindArgs (PySem.W.fnOf "__init__" "KindReader.__init__" (defArgs s10) (defBody s10) (defScope s10) .none kV doc pm an cdv ct) ⟨us, []⟩ = pure (P10.zip us) := fun _ _ _ _ _ _ us hl => match us, hl with | [_], _ => rfl
theorem h11 : ∀ (kV doc pm : Value) (an : Option Addr) (cdv ct : Value) (us : List Value), us.length = P11.length → bindArgs (PySem.W.fnOf "take" "KindReader.take" (defArgs s11) (defBody s11) (defScope s11) .none kV doc pm an cdv ct) ⟨us, []⟩ = pure (P11.zip us) := fun _ _ _ _ _ _ us hl => match us, hl with | [_, _], _ => rfl
theorem h12 : ∀ (kV doc pm : Value) (an : Option Addr) (cdv ct : Value) (us : List Value), us.length = P12.length → bindArgs (PySem.W.fnOf "take_end" "KindReader.take_end" (defArgs s12) (defBody s12) (defScope s12) .none kV doc pm an cdv ct) ⟨us, []⟩ = pure (P12.zip us) := fun _ _ _ _ _ _ us hl => match us, hl with | [_, _], _ => rfl
theorem h13 : ∀ (kV doc pm : Value) (an : Option Addr) (cdv ct : Value) (us : List Value), us.length = P13.length → bindArgs (PySem.W.fnOf "result" "KindReader.result" (defArgs s13) (defBody s13) (defScope s13) .none kV doc pm an cdv ct) ⟨us, []⟩ = pure (P13.zip us) := fun _ _ _ _ _ _ us hl => match us, hl with | [_], _ => rfl
theorem h14 : ∀ (kV doc pm : Value) (an : Option Addr) (cdv ct : Value) (us : List Value), us.length = P14.length → bindArgs (PySem.W.fnOf "shape_of" "shape_of" (defArgs s14) (defBody s14) (defScope s14) .none kV doc pm an cdv ct) ⟨us, []⟩ = pure (P14.zip us) := fun _ _ _ _ _ _ us hl => match us, hl with | [_], _ => rfl
theorem h15 : ∀ (kV doc pm : Value) (an : Option Addr) (cdv ct : Value) (us : List Value), us.length = P15.length → bindArgs (PySem.W.fnOf "kind_in" "kind_in" (defArgs s15) (defBody s15) (defScope s15) .none kV doc pm an cdv ct) ⟨us, []⟩ = pure (P15.zip us) := fun _ _ _ _ _ _ us hl => match us, hl with | [_], _ => rfl
theorem h16 : ∀ (kV doc pm : Value) (an : Option Addr) (cdv ct : Value) (us : List Value), us.length = P16.length → bindArgs (PySem.W.fnOf "order_of" "order_of" (defArgs s16) (defBody s16) (defScope s16) .none kV doc pm an cdv ct) ⟨us, []⟩ = pure (P16.zip us) := fun _ _ _ _ _ _ us hl => match us, hl with | [_], _ => rfl
theorem h18 : ∀ (kV doc pm : Value) (an : Option Addr) (cdv ct : Value) (us : List Value), us.length = P18.length → bindArgs (PySem.W.fnOf "__init__" "Type.__init__" (defArgs s18) (defBody s18) (defScope s18) .none kV doc pm an cdv ct) ⟨us, []⟩ = pure (P18.zip us) := fun _ _ _ _ _ _ us hl => match us, hl with | [_, _, _], _ => rfl
theorem h19 : ∀ (kV doc pm : Value) (an : Option Addr) (cdv ct : Value) (us : List Value), us.length = P19.length → bindArgs (PySem.W.fnOf "read" "Type.read" (defArgs s19) (defBody s19) (defScope s19) .none kV doc pm an cdv ct) ⟨us, []⟩ = pure (P19.zip us) := fun _ _ _ _ _ _ us hl => match us, hl with | [_, _], _ => rfl
theorem h39 : ∀ (kV doc pm : Value) (an : Option Addr) (cdv ct : Value) (us : List Value), us.length = P39.length → bindArgs (PySem.W.fnOf "type_of_text" "type_of_text" (defArgs s39) (defBody s39) (defScope s39) .none kV doc pm an cdv ct) ⟨us, []⟩ = pure (P39.zip us) := fun _ _ _ _ _ _ us hl => match us, hl with | [_], _ => rfl
theorem h69 : ∀ (kV doc pm : Value) (an : Option Addr) (cdv ct : Value) (us : List Value), us.length = P69.length → bindArgs (PySem.W.fnOf "require_library" "require_library" (defArgs s69) (defBody s69) (defScope s69) .none kV doc pm an cdv ct) ⟨us, []⟩ = pure (P69.zip us) := fun _ _ _ _ _ _ us hl => match us, hl with | [_], _ => rfl
theorem h74 : ∀ (kV doc pm : Value) (an : Option Addr) (cdv ct : Value) (us : List Value), us.length = P74.length → bindArgs (PySem.W.fnOf "is_scope" "is_scope" (defArgs s74) (defBody s74) (defScope s74) .none kV doc pm an cdv ct) ⟨us, []⟩ = pure (P74.zip us) := fun _ _ _ _ _ _ us hl => match us, hl with | [_], _ => rfl
theorem h75 : ∀ (kV doc pm : Value) (an : Option Addr) (cdv ct : Value) (us : List Value), us.length = P75.length → bindArgs (PySem.W.fnOf "is_question" "is_question" (defArgs s75) (defBody s75) (defScope s75) .none kV doc pm an cdv ct) ⟨us, []⟩ = pure (P75.zip us) := fun _ _ _ _ _ _ us hl => match us, hl with | [_], _ => rfl
theorem h76 : ∀ (kV doc pm : Value) (an : Option Addr) (cdv ct : Value) (us : List Value), us.length = P76.length → bindArgs (PySem.W.fnOf "is_node" "is_node" (defArgs s76) (defBody s76) (defScope s76) .none kV doc pm an cdv ct) ⟨us, []⟩ = pure (P76.zip us) := fun _ _ _ _ _ _ us hl => match us, hl with | [_, _], _ => rfl
theorem h77 : ∀ (kV doc pm : Value) (an : Option Addr) (cdv ct : Value) (us : List Value), us.length = P77.length → bindArgs (PySem.W.fnOf "kids_of" "kids_of" (defArgs s77) (defBody s77) (defScope s77) .none kV doc pm an cdv ct) ⟨us, []⟩ = pure (P77.zip us) := fun _ _ _ _ _ _ us hl => match us, hl with | [_], _ => rfl
theorem h78 : ∀ (kV doc pm : Value) (an : Option Addr) (cdv ct : Value) (us : List Value), us.length = P78.length → bindArgs (PySem.W.fnOf "ends_of" "ends_of" (defArgs s78) (defBody s78) (defScope s78) .none kV doc pm an cdv ct) ⟨us, []⟩ = pure (P78.zip us) := fun _ _ _ _ _ _ us hl => match us, hl with | [_], _ => rfl
theorem h79 : ∀ (kV doc pm : Value) (an : Option Addr) (cdv ct : Value) (us : List Value), us.length = P79.length → bindArgs (PySem.W.fnOf "bound_of" "bound_of" (defArgs s79) (defBody s79) (defScope s79) .none kV doc pm an cdv ct) ⟨us, []⟩ = pure (P79.zip us) := fun _ _ _ _ _ _ us hl => match us, hl with | [_, _], _ => rfl
theorem h80 : ∀ (kV doc pm : Value) (an : Option Addr) (cdv ct : Value) (us : List Value), us.length = P80.length → bindArgs (PySem.W.fnOf "are_nodes" "are_nodes" (defArgs s80) (defBody s80) (defScope s80) .none kV doc pm an cdv ct) ⟨us, []⟩ = pure (P80.zip us) := fun _ _ _ _ _ _ us hl => match us, hl with | [_, _], _ => rfl
theorem h84 : ∀ (kV doc pm : Value) (an : Option Addr) (cdv ct : Value) (us : List Value), us.length = P84.length → bindArgs (PySem.W.fnOf "tokens_of" "tokens_of" (defArgs s84) (defBody s84) (defScope s84) .none kV doc pm an cdv ct) ⟨us, []⟩ = pure (P84.zip us) := fun _ _ _ _ _ _ us hl => match us, hl with | [_], _ => rfl
theorem h85 : ∀ (kV doc pm : Value) (an : Option Addr) (cdv ct : Value) (us : List Value), us.length = P85.length → bindArgs (PySem.W.fnOf "__init__" "Reader.__init__" (defArgs s85) (defBody s85) (defScope s85) .none kV doc pm an cdv ct) ⟨us, []⟩ = pure (P85.zip us) := fun _ _ _ _ _ _ us hl => match us, hl with | [_, _], _ => rfl
theorem h86 : ∀ (kV doc pm : Value) (an : Option Addr) (cdv ct : Value) (us : List Value), us.length = P86.length → bindArgs (PySem.W.fnOf "token" "Reader.token" (defArgs s86) (defBody s86) (defScope s86) .none kV doc pm an cdv ct) ⟨us, []⟩ = pure (P86.zip us) := fun _ _ _ _ _ _ us hl => match us, hl with | [_], _ => rfl
theorem h87 : ∀ (kV doc pm : Value) (an : Option Addr) (cdv ct : Value) (us : List Value), us.length = P87.length → bindArgs (PySem.W.fnOf "binders" "Reader.binders" (defArgs s87) (defBody s87) (defScope s87) .none kV doc pm an cdv ct) ⟨us, []⟩ = pure (P87.zip us) := fun _ _ _ _ _ _ us hl => match us, hl with | [_, _], _ => rfl
theorem h88 : ∀ (kV doc pm : Value) (an : Option Addr) (cdv ct : Value) (us : List Value), us.length = P88.length → bindArgs (PySem.W.fnOf "begin" "Reader.begin" (defArgs s88) (defBody s88) (defScope s88) .none kV doc pm an cdv ct) ⟨us, []⟩ = pure (P88.zip us) := fun _ _ _ _ _ _ us hl => match us, hl with | [_], _ => rfl
theorem h89 : ∀ (kV doc pm : Value) (an : Option Addr) (cdv ct : Value) (us : List Value), us.length = P89.length → bindArgs (PySem.W.fnOf "add" "Reader.add" (defArgs s89) (defBody s89) (defScope s89) .none kV doc pm an cdv ct) ⟨us, []⟩ = pure (P89.zip us) := fun _ _ _ _ _ _ us hl => match us, hl with | [_, _], _ => rfl
theorem h90 : ∀ (kV doc pm : Value) (an : Option Addr) (cdv ct : Value) (us : List Value), us.length = P90.length → bindArgs (PySem.W.fnOf "go_on" "Reader.go_on" (defArgs s90) (defBody s90) (defScope s90) .none kV doc pm an cdv ct) ⟨us, []⟩ = pure (P90.zip us) := fun _ _ _ _ _ _ us hl => match us, hl with | [_], _ => rfl
theorem h91 : ∀ (kV doc pm : Value) (an : Option Addr) (cdv ct : Value) (us : List Value), us.length = P91.length → bindArgs (PySem.W.fnOf "nodes_of" "nodes_of" (defArgs s91) (defBody s91) (defScope s91) .none kV doc pm an cdv ct) ⟨us, []⟩ = pure (P91.zip us) := fun _ _ _ _ _ _ us hl => match us, hl with | [_], _ => rfl
theorem h94 : ∀ (kV doc pm : Value) (an : Option Addr) (cdv ct : Value) (us : List Value), us.length = P94.length → bindArgs (PySem.W.fnOf "__init__" "Program.__init__" (defArgs s94) (defBody s94) (defScope s94) .none kV doc pm an cdv ct) ⟨us, []⟩ = pure (P94.zip us) := fun _ _ _ _ _ _ us hl => match us, hl with | [_, _], _ => rfl
theorem h95 : ∀ (kV doc pm : Value) (an : Option Addr) (cdv ct : Value) (us : List Value), us.length = P95.length → bindArgs (PySem.W.fnOf "read" "Program.read" (defArgs s95) (defBody s95) (defScope s95) .none kV doc pm an cdv ct) ⟨us, []⟩ = pure (P95.zip us) := fun _ _ _ _ _ _ us hl => match us, hl with | [_, _], _ => rfl
theorem h139 : ∀ (kV doc pm : Value) (an : Option Addr) (cdv ct : Value) (us : List Value), us.length = P139.length → bindArgs (PySem.W.fnOf "number_of" "number_of" (defArgs s139) (defBody s139) (defScope s139) .none kV doc pm an cdv ct) ⟨us, []⟩ = pure (P139.zip us) := fun _ _ _ _ _ _ us hl => match us, hl with | [_], _ => rfl
theorem h140 : ∀ (kV doc pm : Value) (an : Option Addr) (cdv ct : Value) (us : List Value), us.length = P140.length → bindArgs (PySem.W.fnOf "lines_of" "lines_of" (defArgs s140) (defBody s140) (defScope s140) .none kV doc pm an cdv ct) ⟨us, []⟩ = pure (P140.zip us) := fun _ _ _ _ _ _ us hl => match us, hl with | [_], _ => rfl
theorem h141 : ∀ (kV doc pm : Value) (an : Option Addr) (cdv ct : Value) (us : List Value), us.length = P141.length → bindArgs (PySem.W.fnOf "question_text" "question_text" (defArgs s141) (defBody s141) (defScope s141) .none kV doc pm an cdv ct) ⟨us, []⟩ = pure (P141.zip us) := fun _ _ _ _ _ _ us hl => match us, hl with | [_], _ => rfl
theorem h142 : ∀ (kV doc pm : Value) (an : Option Addr) (cdv ct : Value) (us : List Value), us.length = P142.length → bindArgs (PySem.W.fnOf "question_told" "question_told" (defArgs s142) (defBody s142) (defScope s142) .none kV doc pm an cdv ct) ⟨us, []⟩ = pure (P142.zip us) := fun _ _ _ _ _ _ us hl => match us, hl with | [_], _ => rfl
theorem h143 : ∀ (kV doc pm : Value) (an : Option Addr) (cdv ct : Value) (us : List Value), us.length = P143.length → bindArgs (PySem.W.fnOf "write_question" "write_question" (defArgs s143) (defBody s143) (defScope s143) .none kV doc pm an cdv ct) ⟨us, []⟩ = pure (P143.zip us) := fun _ _ _ _ _ _ us hl => match us, hl with | [_], _ => rfl
theorem h144 : ∀ (kV doc pm : Value) (an : Option Addr) (cdv ct : Value) (us : List Value), us.length = P144.length → bindArgs (PySem.W.fnOf "read_question" "read_question" (defArgs s144) (defBody s144) (defScope s144) .none kV doc pm an cdv ct) ⟨us, []⟩ = pure (P144.zip us) := fun _ _ _ _ _ _ us hl => match us, hl with | [_], _ => rfl
theorem h145 : ∀ (kV doc pm : Value) (an : Option Addr) (cdv ct : Value) (us : List Value), us.length = P145.length → bindArgs (PySem.W.fnOf "is_rank_dict" "is_rank_dict" (defArgs s145) (defBody s145) (defScope s145) .none kV doc pm an cdv ct) ⟨us, []⟩ = pure (P145.zip us) := fun _ _ _ _ _ _ us hl => match us, hl with | [_], _ => rfl
theorem h146 : ∀ (kV doc pm : Value) (an : Option Addr) (cdv ct : Value) (us : List Value), us.length = P146.length → bindArgs (PySem.W.fnOf "write_ranks" "write_ranks" (defArgs s146) (defBody s146) (defScope s146) .none kV doc pm an cdv ct) ⟨us, []⟩ = pure (P146.zip us) := fun _ _ _ _ _ _ us hl => match us, hl with | [_], _ => rfl
theorem h147 : ∀ (kV doc pm : Value) (an : Option Addr) (cdv ct : Value) (us : List Value), us.length = P147.length → bindArgs (PySem.W.fnOf "rank_told" "rank_told" (defArgs s147) (defBody s147) (defScope s147) .none kV doc pm an cdv ct) ⟨us, []⟩ = pure (P147.zip us) := fun _ _ _ _ _ _ us hl => match us, hl with | [_], _ => rfl
theorem h148 : ∀ (kV doc pm : Value) (an : Option Addr) (cdv ct : Value) (us : List Value), us.length = P148.length → bindArgs (PySem.W.fnOf "pairs_told" "pairs_told" (defArgs s148) (defBody s148) (defScope s148) .none kV doc pm an cdv ct) ⟨us, []⟩ = pure (P148.zip us) := fun _ _ _ _ _ _ us hl => match us, hl with | [_, _], _ => rfl
theorem h149 : ∀ (kV doc pm : Value) (an : Option Addr) (cdv ct : Value) (us : List Value), us.length = P149.length → bindArgs (PySem.W.fnOf "read_ranks" "read_ranks" (defArgs s149) (defBody s149) (defScope s149) .none kV doc pm an cdv ct) ⟨us, []⟩ = pure (P149.zip us) := fun _ _ _ _ _ _ us hl => match us, hl with | [_], _ => rfl
theorem h152 : ∀ (kV doc pm : Value) (an : Option Addr) (cdv ct : Value) (us : List Value), us.length = P152.length → bindArgs (PySem.W.fnOf "write_room" "write_room" (defArgs s152) (defBody s152) (defScope s152) .none kV doc pm an cdv ct) ⟨us, []⟩ = pure (P152.zip us) := fun _ _ _ _ _ _ us hl => match us, hl with | [_], _ => rfl
theorem h153 : ∀ (kV doc pm : Value) (an : Option Addr) (cdv ct : Value) (us : List Value), us.length = P153.length → bindArgs (PySem.W.fnOf "read_room" "read_room" (defArgs s153) (defBody s153) (defScope s153) .none kV doc pm an cdv ct) ⟨us, []⟩ = pure (P153.zip us) := fun _ _ _ _ _ _ us hl => match us, hl with | [_], _ => rfl
theorem h154 : ∀ (kV doc pm : Value) (an : Option Addr) (cdv ct : Value) (us : List Value), us.length = P154.length → bindArgs (PySem.W.fnOf "write_puts" "write_puts" (defArgs s154) (defBody s154) (defScope s154) .none kV doc pm an cdv ct) ⟨us, []⟩ = pure (P154.zip us) := fun _ _ _ _ _ _ us hl => match us, hl with | [_], _ => rfl
theorem h156 : ∀ (kV doc pm : Value) (an : Option Addr) (cdv ct : Value) (us : List Value), us.length = P156.length → bindArgs (PySem.W.fnOf "read_puts" "read_puts" (defArgs s156) (defBody s156) (defScope s156) .none kV doc pm an cdv ct) ⟨us, []⟩ = pure (P156.zip us) := fun _ _ _ _ _ _ us hl => match us, hl with | [_], _ => rfl
theorem h157 : ∀ (kV doc pm : Value) (an : Option Addr) (cdv ct : Value) (us : List Value), us.length = P157.length → bindArgs (PySem.W.fnOf "write_library" "write_library" (defArgs s157) (defBody s157) (defScope s157) .none kV doc pm an cdv ct) ⟨us, []⟩ = pure (P157.zip us) := fun _ _ _ _ _ _ us hl => match us, hl with | [_], _ => rfl
theorem h159 : ∀ (kV doc pm : Value) (an : Option Addr) (cdv ct : Value) (us : List Value), us.length = P159.length → bindArgs (PySem.W.fnOf "read_library" "read_library" (defArgs s159) (defBody s159) (defScope s159) .none kV doc pm an cdv ct) ⟨us, []⟩ = pure (P159.zip us) := fun _ _ _ _ _ _ us hl => match us, hl with | [_], _ => rfl
theorem h160 : ∀ (kV doc pm : Value) (an : Option Addr) (cdv ct : Value) (us : List Value), us.length = P160.length → bindArgs (PySem.W.fnOf "_law_dice" "_law_dice" (defArgs s160) (defBody s160) (defScope s160) .none kV doc pm an cdv ct) ⟨us, []⟩ = pure (P160.zip us) := fun _ _ _ _ _ _ us hl => match us, hl with | [_, _], _ => rfl
theorem h161 : ∀ (kV doc pm : Value) (an : Option Addr) (cdv ct : Value) (us : List Value), us.length = P161.length → bindArgs (PySem.W.fnOf "_law_roll" "_law_roll" (defArgs s161) (defBody s161) (defScope s161) .none kV doc pm an cdv ct) ⟨us, []⟩ = pure (P161.zip us) := fun _ _ _ _ _ _ us hl => match us, hl with | [_, _], _ => rfl
theorem h162 : ∀ (kV doc pm : Value) (an : Option Addr) (cdv ct : Value) (us : List Value), us.length = P162.length → bindArgs (PySem.W.fnOf "_law_pick" "_law_pick" (defArgs s162) (defBody s162) (defScope s162) .none kV doc pm an cdv ct) ⟨us, []⟩ = pure (P162.zip us) := fun _ _ _ _ _ _ us hl => match us, hl with | [_, _], _ => rfl
theorem h164 : ∀ (kV doc pm : Value) (an : Option Addr) (cdv ct : Value) (us : List Value), us.length = P164.length → bindArgs (PySem.W.fnOf "_law_right" "_law_right" (defArgs s164) (defBody s164) (defScope s164) .none kV doc pm an cdv ct) ⟨us, []⟩ = pure (P164.zip us) := fun _ _ _ _ _ _ us hl => match us, hl with | [_], _ => rfl
theorem h165 : ∀ (kV doc pm : Value) (an : Option Addr) (cdv ct : Value) (us : List Value), us.length = P165.length → bindArgs (PySem.W.fnOf "law" "law" (defArgs s165) (defBody s165) (defScope s165) .none kV doc pm an cdv ct) ⟨us, []⟩ = pure (P165.zip us) := fun _ _ _ _ _ _ us hl => match us, hl with | [_], _ => rfl
theorem h6 : ∀ (kV doc pm : Value) (an : Option Addr) (cdv ct : Value) (us : List Value), us.length = P6.length → bindArgs (PySem.W.fnOf "__init__" "ParseError.__init__" (defArgs s6) (defBody s6) (defScope s6) .none kV doc pm an cdv ct) ⟨us, []⟩ = pure (P6.zip us) := fun _ _ _ _ _ _ us hl => match us, hl with | [_, _], _ => rfl
theorem h163 : ∀ (kV doc pm : Value) (an : Option Addr) (cdv ct : Value) (us : List Value), us.length = P163.length → bindArgs (PySem.W.fnOf "_law_met" "_law_met" (defArgs s163) (defBody s163) (defScope s163) .none kV doc pm an cdv ct) ⟨us, []⟩ = pure (P163.zip us) := fun _ _ _ _ _ _ us hl => match us, hl with | [_], _ => rfl
theorem h155 : ∀ (kV doc pm : Value) (an : Option Addr) (cdv ct : Value) (us : List Value), us.length = P155.length → bindArgs (PySem.W.fnOf "put_told" "put_told" (defArgs s155) (defBody s155) (defScope s155) .none kV doc pm an cdv ct) ⟨us, []⟩ = pure (P155.zip us) := fun _ _ _ _ _ _ us hl => match us, hl with | [_], _ => rfl
theorem h158 : ∀ (kV doc pm : Value) (an : Option Addr) (cdv ct : Value) (us : List Value), us.length = P158.length → bindArgs (PySem.W.fnOf "line_told" "line_told" (defArgs s158) (defBody s158) (defScope s158) .none kV doc pm an cdv ct) ⟨us, []⟩ = pure (P158.zip us) := fun _ _ _ _ _ _ us hl => match us, hl with | [_], _ => rfl
theorem clsAt {P : Ev.Prog} {p : Nat → Bool} (h : clsAll P (fun c D => D.meths.all fun q => p q.2) = true) {c : Nat} {D : Ev.Cls} {m d : Nat} (e : P.clss[c]? = some D) (hm : (m, d) ∈ D.meths) : p d = true := List.all_eq_true.mp (clsAll_at h e) (m, d) hm
theorem adr_m {K : PySem.W.Frag} {d : Nat} (h : (!cms.contains d) = true) : adrK K d = He.fAd K (dnF d) := by
  unfold adrK
  rw [if_neg (by simpa using h)]
  rfl
theorem fx_of {w : World} {K : PySem.W.Frag} {h : Heap} {mg : Str → Option Value} {base : Heap} (X : K.In h) (G : h.Ns mainGlobals mg) (c : SaysS fds ck tf h K) (TB : ∀ p ∈ tf.map (He.cT K), LamX.TabB base mg p.1 p.2) : Fx w K (TT K) mg base := by
  obtain ⟨hA, q1⟩ := He.ba c.ck
  obtain ⟨hC, q1⟩ := He.ba q1
  obtain ⟨hK, hO⟩ := He.ba q1
  obtain ⟨c1, q2⟩ := He.ba hC
  obtain ⟨c2, q2⟩ := He.ba q2
  obtain ⟨c3, q2⟩ := He.ba q2
  obtain ⟨c4, c5⟩ := He.ba q2
  obtain ⟨o_ri_8, r0⟩ := He.ba hO
  obtain ⟨o_m_16_24, r1⟩ := He.ba r0
  obtain ⟨o_m_12_24, r2⟩ := He.ba r1
  obtain ⟨o_xf_8, r3⟩ := He.ba r2
  obtain ⟨o_tabs, r4⟩ := He.ba r3
  have hc : ∀ c, (EE w K (TT K)).cad c = He.ga K (cnF c) := fun _ => rfl
  exact {
    is := isK_of hc c1
    fl := fldK_of hc c2
    me := metK_of (dn := dnF) hc (fun c D m d e hm => adr_m (clsAt (P := prog) (p := fun d => !cms.contains d) (by decide +kernel) e hm)) (show metS cnF (fnmOf names) dnF prog = true from by decide +kernel) c3
    mkk := mkK_of (dn := dnF) hc (fun c D d e hi => adr_m (by
      have z := clsAll_at (P := prog) (f := fun c D => match D.init with | some d => !cms.contains d | none => true) (by decide +kernel) e
      simp only [hi] at z
      exact z)) (show mkrS cnF dnF prog = true from by decide +kernel) c4
    kC := fun c => by
      have z : cnF c ∈ (("BuildError" : Str) :: cnm) := by
        unfold cnF
        cases q : cnm[c]? with
        | none => exact List.mem_cons_self ..
        | some x => exact List.mem_cons_of_mem _ (List.mem_of_getElem? q)
      exact List.all_eq_true.mp hK _ z
    ex := exmK_of hc c5
    fd_163 := fd_at c 56 rfl
    tb_164 := TB _ (by simp [tf])
    tm_164 := by simp [TT]
    tu_164 := fun p hp e => by
      rcases List.mem_cons.mp hp with rfl | hp
      · rfl
      · rcases List.mem_cons.mp hp with rfl | hp
        · exact absurd e (Ne.symm (of_decide_eq_true o_tabs))
        · cases hp
    tb_165 := TB _ (by simp [tf])
    tm_165 := by simp [TT]
    tu_165 := fun p hp e => by
      rcases List.mem_cons.mp hp with rfl | hp
      · exact absurd e (of_decide_eq_true o_tabs)
      · rcases List.mem_cons.mp hp with rfl | hp
        · rfl
        · cases hp
    g_law := He.glo_ok X G (fa_at hA 0 rfl)
    n_isinstance := He.free_ok X G (fa_at hA 1 rfl)
    n_int := He.free_ok X G (fa_at hA 2 rfl)
    n_bool := He.free_ok X G (fa_at hA 3 rfl)
    i_LONGEST := He.int_ok X G (fa_at hA 4 rfl)
    g_is_integer := He.glo_ok X G (fa_at hA 5 rfl)
    n_str := He.free_ok X G (fa_at hA 6 rfl)
    n_len := He.free_ok X G (fa_at hA 7 rfl)
    i_MAX_LETTERS := He.int_ok X G (fa_at hA 8 rfl)
    s_LETTERS := He.str_ok X G (fa_at hA 9 rfl)
    n_all := He.free_ok X G (fa_at hA 10 rfl)
    s_ARROW := He.str_ok X G (fa_at hA 11 rfl)
    i_MAX_ORDER := He.int_ok X G (fa_at hA 12 rfl)
    g_is_word := He.glo_ok X G (fa_at hA 13 rfl)
    n_tuple := He.free_ok X G (fa_at hA 14 rfl)
    g_signs_of := He.glo_ok X G (fa_at hA 15 rfl)
    i_MAX_PLACES := He.int_ok X G (fa_at hA 16 rfl)
    c_KindReader := He.glo_ok X G (fa_at hA 17 rfl)
    c_Type := He.glo_ok X G (fa_at hA 18 rfl)
    g_order_of := He.glo_ok X G (fa_at hA 19 rfl)
    g_type_of_text := He.glo_ok X G (fa_at hA 20 rfl)
    g_shape_of := He.glo_ok X G (fa_at hA 21 rfl)
    g_kind_in := He.glo_ok X G (fa_at hA 22 rfl)
    c_Library := He.glo_ok X G (fa_at hA 23 rfl)
    r_3 := rzK_of hc (fa_at hA 24 rfl)
    c_InvalidLibrary := He.glo_ok X G (fa_at hA 25 rfl)
    i_MAX_SCOPE := He.int_ok X G (fa_at hA 26 rfl)
    n_list := He.free_ok X G (fa_at hA 27 rfl)
    n_zip := He.free_ok X G (fa_at hA 28 rfl)
    g_is_scope := He.glo_ok X G (fa_at hA 29 rfl)
    i_MAX_COUNT := He.int_ok X G (fa_at hA 30 rfl)
    g_is_within := He.glo_ok X G (fa_at hA 31 rfl)
    n_range := He.free_ok X G (fa_at hA 32 rfl)
    n_enumerate := He.free_ok X G (fa_at hA 33 rfl)
    i_MAX_NODES := He.int_ok X G (fa_at hA 34 rfl)
    g_is_node := He.glo_ok X G (fa_at hA 35 rfl)
    g_kids_of := He.glo_ok X G (fa_at hA 36 rfl)
    g_level_of := He.glo_ok X G (fa_at hA 37 rfl)
    g_bound_of := He.glo_ok X G (fa_at hA 38 rfl)
    i_MAX_LEVEL := He.int_ok X G (fa_at hA 39 rfl)
    s_DIGITS := He.str_ok X G (fa_at hA 40 rfl)
    s_DOT := He.str_ok X G (fa_at hA 41 rfl)
    s_LAMBDA := He.str_ok X G (fa_at hA 42 rfl)
    s_GAP := He.str_ok X G (fa_at hA 43 rfl)
    g_tokens_of := He.glo_ok X G (fa_at hA 44 rfl)
    c_Reader := He.glo_ok X G (fa_at hA 45 rfl)
    g_are_nodes := He.glo_ok X G (fa_at hA 46 rfl)
    c_Nodes := He.glo_ok X G (fa_at hA 47 rfl)
    g_ends_of := He.glo_ok X G (fa_at hA 48 rfl)
    g_nodes_of := He.glo_ok X G (fa_at hA 49 rfl)
    i_MAX_DIGITS := He.int_ok X G (fa_at hA 50 rfl)
    ri_8 := by
      have T : RzI (EE w K (TT K)) K 8 23 (adrK K 6) := rzI_of hc rfl o_ri_8
      obtain ⟨fd, F⟩ := fd_at c 55 rfl
      exact ⟨T, fd, ini_ok F S6 T rfl rfl rfl (Or.inl rfl) (Or.inl rfl), F.bindsN h6⟩
    c_ParseError := He.glo_ok X G (fa_at hA 51 rfl)
    s_NONE := He.str_ok X G (fa_at hA 52 rfl)
    s_BETWEEN := He.str_ok X G (fa_at hA 53 rfl)
    s_TURNSTILE := He.str_ok X G (fa_at hA 54 rfl)
    g_is_question := He.glo_ok X G (fa_at hA 55 rfl)
    r_5 := rzK_of hc (fa_at hA 56 rfl)
    c_InvalidQuestion := He.glo_ok X G (fa_at hA 57 rfl)
    g_question_text := He.glo_ok X G (fa_at hA 58 rfl)
    n_dict := He.free_ok X G (fa_at hA 59 rfl)
    g_is_rank_dict := He.glo_ok X G (fa_at hA 60 rfl)
    r_7 := rzK_of hc (fa_at hA 61 rfl)
    c_InvalidOperation := He.glo_ok X G (fa_at hA 62 rfl)
    n_sorted := He.free_ok X G (fa_at hA 63 rfl)
    g_number_of := He.glo_ok X G (fa_at hA 64 rfl)
    g_question_told := He.glo_ok X G (fa_at hA 65 rfl)
    g_lines_of := He.glo_ok X G (fa_at hA 66 rfl)
    g_rank_told := He.glo_ok X G (fa_at hA 67 rfl)
    g_pairs_told := He.glo_ok X G (fa_at hA 68 rfl)
    c_Room := He.glo_ok X G (fa_at hA 69 rfl)
    r_6 := rzK_of hc (fa_at hA 70 rfl)
    c_InvalidRoom := He.glo_ok X G (fa_at hA 71 rfl)
    c_Program := He.glo_ok X G (fa_at hA 72 rfl)
    g_put_told := He.glo_ok X G (fa_at hA 73 rfl)
    g_require_library := He.glo_ok X G (fa_at hA 74 rfl)
    g_line_told := He.glo_ok X G (fa_at hA 75 rfl)
    n_abs := He.free_ok X G (fa_at hA 76 rfl)
    n_max := He.free_ok X G (fa_at hA 77 rfl)
    g__law_roll := He.glo_ok X G (fa_at hA 78 rfl)
    m_16_24 := cmK_of (x := "Program") (y := "read") rfl rfl rfl o_m_16_24
    m_12_24 := cmK_of (x := "Type") (y := "read") rfl rfl rfl o_m_12_24
    g__law_pick := He.glo_ok X G (fa_at hA 79 rfl)
    g__law_met := He.glo_ok X G (fa_at hA 80 rfl)
    n_repr := He.free_ok X G (fa_at hA 81 rfl)
    g_write_question := He.glo_ok X G (fa_at hA 82 rfl)
    g_write_ranks := He.glo_ok X G (fa_at hA 83 rfl)
    g_write_room := He.glo_ok X G (fa_at hA 84 rfl)
    g_write_puts := He.glo_ok X G (fa_at hA 85 rfl)
    g_write_library := He.glo_ok X G (fa_at hA 86 rfl)
    g_read_question := He.glo_ok X G (fa_at hA 87 rfl)
    g_read_ranks := He.glo_ok X G (fa_at hA 88 rfl)
    g_read_room := He.glo_ok X G (fa_at hA 89 rfl)
    g_read_puts := He.glo_ok X G (fa_at hA 90 rfl)
    g_read_library := He.glo_ok X G (fa_at hA 91 rfl)
    n_min := He.free_ok X G (fa_at hA 92 rfl)
    g__law_dice := He.glo_ok X G (fa_at hA 93 rfl)
    g__law_right := He.glo_ok X G (fa_at hA 94 rfl)
    xf_8 := xfK_of hc o_xf_8 }
theorem code_ref {K : PySem.W.Frag} {p : He.Defn} {cdv : Value} {qq : Str} (h : CodeAt K (He.fAd K p) cdv) (hc : PySem.W.codeIn K cdv qq = true) : cdv = .ref (He.cT K p).1 := by
  obtain ⟨c, rfl⟩ := He.codeIn_ref hc
  obtain ⟨oc, od, fd, osl, lk, e⟩ := h
  exact congrArg Value.ref (He.codeOf_eq lk e).symm
section
variable {w : World} {K : PySem.W.Frag} {h : Heap} {mg : Str → Option Value} {base : Heap}
theorem live_step (F : Fx w K (TT K) mg base) (c : SaysS fds ck tf h K) {k : Nat} (hF : ∀ f, FnK (EE w K (TT K)) PW w K mg base k f) : ∀ f ∈ ([1, 2, 3, 4, 9, 10, 11, 12, 13, 14, 15, 16, 18, 19, 39, 69, 74, 75, 76, 77, 78, 79, 80, 84, 85, 86, 87, 88, 89, 90, 91, 94, 95, 139, 140, 141, 142, 143, 144, 145, 146, 147, 148, 149, 152, 153, 154, 156, 157, 159, 160, 161, 162, 164, 165] : List Nat), FnK (EE w K (TT K)) PW w K mg base (k + 1) f :=
  List.forall_mem_cons.mpr ⟨(fnK_step (fd_at c 0 rfl).choose_spec S1 rfl rfl rfl rfl rfl h1 (fun cdv A outer s H Ex hca hci hr => b1 F hF hr)), List.forall_mem_cons.mpr ⟨(fnK_step (fd_at c 1 rfl).choose_spec S2 rfl rfl rfl rfl rfl h2 (fun cdv A outer s H Ex hca hci hr => b2 F hF hr)), List.forall_mem_cons.mpr ⟨(fnK_step (fd_at c 2 rfl).choose_spec S3 rfl rfl rfl rfl rfl h3 (fun cdv A outer s H Ex hca hci hr => b3 F hF hr)), List.forall_mem_cons.mpr ⟨(fnK_step (fd_at c 3 rfl).choose_spec S4 rfl rfl rfl rfl rfl h4 (fun cdv A outer s H Ex hca hci hr => b4 F hF hr)), List.forall_mem_cons.mpr ⟨(fnK_step (fd_at c 4 rfl).choose_spec S9 rfl rfl rfl rfl rfl h9 (fun cdv A outer s H Ex hca hci hr => b9 F hF hr)), List.forall_mem_cons.mpr ⟨(fnK_step (fd_at c 5 rfl).choose_spec S10 rfl rfl rfl rfl rfl h10 (fun cdv A outer s H Ex hca hci hr => b10 F hF hr)), List.forall_mem_cons.mpr ⟨(fnK_step (fd_at c 6 rfl).choose_spec S11 rfl rfl rfl rfl rfl h11 (fun cdv A outer s H Ex hca hci hr => b11 F hF hr)), List.forall_mem_cons.mpr ⟨(fnK_step (fd_at c 7 rfl).choose_spec S12 rfl rfl rfl rfl rfl h12 (fun cdv A outer s H Ex hca hci hr => b12 F hF hr)), List.forall_mem_cons.mpr ⟨(fnK_step (fd_at c 8 rfl).choose_spec S13 rfl rfl rfl rfl rfl h13 (fun cdv A outer s H Ex hca hci hr => b13 F hF hr)), List.forall_mem_cons.mpr ⟨(fnK_step (fd_at c 9 rfl).choose_spec S14 rfl rfl rfl rfl rfl h14 (fun cdv A outer s H Ex hca hci hr => b14 F hF hr)), List.forall_mem_cons.mpr ⟨(fnK_step (fd_at c 10 rfl).choose_spec S15 rfl rfl rfl rfl rfl h15 (fun cdv A outer s H Ex hca hci hr => b15 F hF hr)), List.forall_mem_cons.mpr ⟨(fnK_step (fd_at c 11 rfl).choose_spec S16 rfl rfl rfl rfl rfl h16 (fun cdv A outer s H Ex hca hci hr => b16 F hF hr)), List.forall_mem_cons.mpr ⟨(fnK_step (fd_at c 12 rfl).choose_spec S18 rfl rfl rfl rfl rfl h18 (fun cdv A outer s H Ex hca hci hr => b18 F hF hr)), List.forall_mem_cons.mpr ⟨(fnK_step (fd_at c 13 rfl).choose_spec S19 rfl rfl rfl rfl rfl h19 (fun cdv A outer s H Ex hca hci hr => b19 F hF hr)), List.forall_mem_cons.mpr ⟨(fnK_step (fd_at c 14 rfl).choose_spec S39 rfl rfl rfl rfl rfl h39 (fun cdv A outer s H Ex hca hci hr => b39 F hF hr)), List.forall_mem_cons.mpr ⟨(fnK_step (fd_at c 15 rfl).choose_spec S69 rfl rfl rfl rfl rfl h69 (fun cdv A outer s H Ex hca hci hr => b69 F hF hr)), List.forall_mem_cons.mpr ⟨(fnK_step (fd_at c 16 rfl).choose_spec S74 rfl rfl rfl rfl rfl h74 (fun cdv A outer s H Ex hca hci hr => b74 F hF hr)), List.forall_mem_cons.mpr ⟨(fnK_step (fd_at c 17 rfl).choose_spec S75 rfl rfl rfl rfl rfl h75 (fun cdv A outer s H Ex hca hci hr => b75 F hF hr)), List.forall_mem_cons.mpr ⟨(fnK_step (fd_at c 18 rfl).choose_spec S76 rfl rfl rfl rfl rfl h76 (fun cdv A outer s H Ex hca hci hr => b76 F hF hr)), List.forall_mem_cons.mpr ⟨(fnK_step (fd_at c 19 rfl).choose_spec S77 rfl rfl rfl rfl rfl h77 (fun cdv A outer s H Ex hca hci hr => b77 F hF hr)), List.forall_mem_cons.mpr ⟨(fnK_step (fd_at c 20 rfl).choose_spec S78 rfl rfl rfl rfl rfl h78 (fun cdv A outer s H Ex hca hci hr => b78 F hF hr)), List.forall_mem_cons.mpr ⟨(fnK_step (fd_at c 21 rfl).choose_spec S79 rfl rfl rfl rfl rfl h79 (fun cdv A outer s H Ex hca hci hr => b79 F hF hr)), List.forall_mem_cons.mpr ⟨(fnK_step (fd_at c 22 rfl).choose_spec S80 rfl rfl rfl rfl rfl h80 (fun cdv A outer s H Ex hca hci hr => b80 F hF hr)), List.forall_mem_cons.mpr ⟨(fnK_step (fd_at c 23 rfl).choose_spec S84 rfl rfl rfl rfl rfl h84 (fun cdv A outer s H Ex hca hci hr => b84 F hF hr)), List.forall_mem_cons.mpr ⟨(fnK_step (fd_at c 24 rfl).choose_spec S85 rfl rfl rfl rfl rfl h85 (fun cdv A outer s H Ex hca hci hr => b85 F hF hr)), List.forall_mem_cons.mpr ⟨(fnK_step (fd_at c 25 rfl).choose_spec S86 rfl rfl rfl rfl rfl h86 (fun cdv A outer s H Ex hca hci hr => b86 F hF hr)), List.forall_mem_cons.mpr ⟨(fnK_step (fd_at c 26 rfl).choose_spec S87 rfl rfl rfl rfl rfl h87 (fun cdv A outer s H Ex hca hci hr => b87 F hF hr)), List.forall_mem_cons.mpr ⟨(fnK_step (fd_at c 27 rfl).choose_spec S88 rfl rfl rfl rfl rfl h88 (fun cdv A outer s H Ex hca hci hr => b88 F hF hr)), List.forall_mem_cons.mpr ⟨(fnK_step (fd_at c 28 rfl).choose_spec S89 rfl rfl rfl rfl rfl h89 (fun cdv A outer s H Ex hca hci hr => b89 F hF hr)), List.forall_mem_cons.mpr ⟨(fnK_step (fd_at c 29 rfl).choose_spec S90 rfl rfl rfl rfl rfl h90 (fun cdv A outer s H Ex hca hci hr => b90 F hF hr)), List.forall_mem_cons.mpr ⟨(fnK_step (fd_at c 30 rfl).choose_spec S91 rfl rfl rfl rfl rfl h91 (fun cdv A outer s H Ex hca hci hr => b91 F hF hr)), List.forall_mem_cons.mpr ⟨(fnK_step (fd_at c 31 rfl).choose_spec S94 rfl rfl rfl rfl rfl h94 (fun cdv A outer s H Ex hca hci hr => b94 F hF hr)), List.forall_mem_cons.mpr ⟨(fnK_step (fd_at c 32 rfl).choose_spec S95 rfl rfl rfl rfl rfl h95 (fun cdv A outer s H Ex hca hci hr => b95 F hF hr)), List.forall_mem_cons.mpr ⟨(fnK_step (fd_at c 33 rfl).choose_spec S139 rfl rfl rfl rfl rfl h139 (fun cdv A outer s H Ex hca hci hr => b139 F hF hr)), List.forall_mem_cons.mpr ⟨(fnK_step (fd_at c 34 rfl).choose_spec S140 rfl rfl rfl rfl rfl h140 (fun cdv A outer s H Ex hca hci hr => b140 F hF hr)), List.forall_mem_cons.mpr ⟨(fnK_step (fd_at c 35 rfl).choose_spec S141 rfl rfl rfl rfl rfl h141 (fun cdv A outer s H Ex hca hci hr => b141 F hF hr)), List.forall_mem_cons.mpr ⟨(fnK_step (fd_at c 36 rfl).choose_spec S142 rfl rfl rfl rfl rfl h142 (fun cdv A outer s H Ex hca hci hr => b142 F hF hr)), List.forall_mem_cons.mpr ⟨(fnK_step (fd_at c 37 rfl).choose_spec S143 rfl rfl rfl rfl rfl h143 (fun cdv A outer s H Ex hca hci hr => b143 F hF hr)), List.forall_mem_cons.mpr ⟨(fnK_step (fd_at c 38 rfl).choose_spec S144 rfl rfl rfl rfl rfl h144 (fun cdv A outer s H Ex hca hci hr => b144 F hF hr)), List.forall_mem_cons.mpr ⟨(fnK_step (fd_at c 39 rfl).choose_spec S145 rfl rfl rfl rfl rfl h145 (fun cdv A outer s H Ex hca hci hr => b145 F hF hr)), List.forall_mem_cons.mpr ⟨(fnK_step (fd_at c 40 rfl).choose_spec S146 rfl rfl rfl rfl rfl h146 (fun cdv A outer s H Ex hca hci hr => b146 F hF hr)), List.forall_mem_cons.mpr ⟨(fnK_step (fd_at c 41 rfl).choose_spec S147 rfl rfl rfl rfl rfl h147 (fun cdv A outer s H Ex hca hci hr => b147 F hF hr)), List.forall_mem_cons.mpr ⟨(fnK_step (fd_at c 42 rfl).choose_spec S148 rfl rfl rfl rfl rfl h148 (fun cdv A outer s H Ex hca hci hr => b148 F hF hr)), List.forall_mem_cons.mpr ⟨(fnK_step (fd_at c 43 rfl).choose_spec S149 rfl rfl rfl rfl rfl h149 (fun cdv A outer s H Ex hca hci hr => b149 F hF hr)), List.forall_mem_cons.mpr ⟨(fnK_step (fd_at c 44 rfl).choose_spec S152 rfl rfl rfl rfl rfl h152 (fun cdv A outer s H Ex hca hci hr => b152 F hF hr)), List.forall_mem_cons.mpr ⟨(fnK_step (fd_at c 45 rfl).choose_spec S153 rfl rfl rfl rfl rfl h153 (fun cdv A outer s H Ex hca hci hr => b153 F hF hr)), List.forall_mem_cons.mpr ⟨(fnK_step (fd_at c 46 rfl).choose_spec S154 rfl rfl rfl rfl rfl h154 (fun cdv A outer s H Ex hca hci hr => b154 F hF hr)), List.forall_mem_cons.mpr ⟨(fnK_step (fd_at c 47 rfl).choose_spec S156 rfl rfl rfl rfl rfl h156 (fun cdv A outer s H Ex hca hci hr => b156 F hF hr)), List.forall_mem_cons.mpr ⟨(fnK_step (fd_at c 48 rfl).choose_spec S157 rfl rfl rfl rfl rfl h157 (fun cdv A outer s H Ex hca hci hr => b157 F hF hr)), List.forall_mem_cons.mpr ⟨(fnK_step (fd_at c 49 rfl).choose_spec S159 rfl rfl rfl rfl rfl h159 (fun cdv A outer s H Ex hca hci hr => b159 F hF hr)), List.forall_mem_cons.mpr ⟨(fnK_step (fd_at c 50 rfl).choose_spec S160 rfl rfl rfl rfl rfl h160 (fun cdv A outer s H Ex hca hci hr => b160 F hF hr)), List.forall_mem_cons.mpr ⟨(fnK_step (fd_at c 51 rfl).choose_spec S161 rfl rfl rfl rfl rfl h161 (fun cdv A outer s H Ex hca hci hr => b161 F hF hr)), List.forall_mem_cons.mpr ⟨(fnK_step (fd_at c 52 rfl).choose_spec S162 rfl rfl rfl rfl rfl h162 (fun cdv A outer s H Ex hca hci hr => b162 F hF hr)), List.forall_mem_cons.mpr ⟨(fnK_step (fd_at c 53 rfl).choose_spec S164 rfl rfl rfl rfl rfl h164 (fun cdv A outer s H Ex hca hci hr => b164 F hF hr (code_ref hca hci))), List.forall_mem_cons.mpr ⟨(fnK_step (fd_at c 54 rfl).choose_spec S165 rfl rfl rfl rfl rfl h165 (fun cdv A outer s H Ex hca hci hr => b165 F hF hr (code_ref hca hci))), List.forall_mem_nil _⟩⟩⟩⟩⟩⟩⟩⟩⟩⟩⟩⟩⟩⟩⟩⟩⟩⟩⟩⟩⟩⟩⟩⟩⟩⟩⟩⟩⟩⟩⟩⟩⟩⟩⟩⟩⟩⟩⟩⟩⟩⟩⟩⟩⟩⟩⟩⟩⟩⟩⟩⟩⟩⟩⟩
theorem dead_named (c : SaysS fds ck tf h K) {k : Nat} : ∀ f ∈ ([1, 2, 3, 4, 9, 10, 11, 12, 13, 14, 15, 16, 18, 19, 39, 69, 74, 75, 76, 77, 78, 79, 80, 84, 85, 86, 87, 88, 89, 90, 91, 94, 95, 139, 140, 141, 142, 143, 144, 145, 146, 147, 148, 149, 152, 153, 154, 156, 157, 159, 160, 161, 162, 164, 165, 6, 163, 155, 158] : List Nat), (∀ as hh, ∃ w1, Ev.callD prog k f as hh = .bad w1) → FnK (EE w K (TT K)) PW w K mg base k f :=
  List.forall_mem_cons.mpr ⟨fun hb => fnK_dead (fd_at c 0 rfl).choose_spec hb h1, List.forall_mem_cons.mpr ⟨fun hb => fnK_dead (fd_at c 1 rfl).choose_spec hb h2, List.forall_mem_cons.mpr ⟨fun hb => fnK_dead (fd_at c 2 rfl).choose_spec hb h3, List.forall_mem_cons.mpr ⟨fun hb => fnK_dead (fd_at c 3 rfl).choose_spec hb h4, List.forall_mem_cons.mpr ⟨fun hb => fnK_dead (fd_at c 4 rfl).choose_spec hb h9, List.forall_mem_cons.mpr ⟨fun hb => fnK_dead (fd_at c 5 rfl).choose_spec hb h10, List.forall_mem_cons.mpr ⟨fun hb => fnK_dead (fd_at c 6 rfl).choose_spec hb h11, List.forall_mem_cons.mpr ⟨fun hb => fnK_dead (fd_at c 7 rfl).choose_spec hb h12, List.forall_mem_cons.mpr ⟨fun hb => fnK_dead (fd_at c 8 rfl).choose_spec hb h13, List.forall_mem_cons.mpr ⟨fun hb => fnK_dead (fd_at c 9 rfl).choose_spec hb h14, List.forall_mem_cons.mpr ⟨fun hb => fnK_dead (fd_at c 10 rfl).choose_spec hb h15, List.forall_mem_cons.mpr ⟨fun hb => fnK_dead (fd_at c 11 rfl).choose_spec hb h16, List.forall_mem_cons.mpr ⟨fun hb => fnK_dead (fd_at c 12 rfl).choose_spec hb h18, List.forall_mem_cons.mpr ⟨fun hb => fnK_dead (fd_at c 13 rfl).choose_spec hb h19, List.forall_mem_cons.mpr ⟨fun hb => fnK_dead (fd_at c 14 rfl).choose_spec hb h39, List.forall_mem_cons.mpr ⟨fun hb => fnK_dead (fd_at c 15 rfl).choose_spec hb h69, List.forall_mem_cons.mpr ⟨fun hb => fnK_dead (fd_at c 16 rfl).choose_spec hb h74, List.forall_mem_cons.mpr ⟨fun hb => fnK_dead (fd_at c 17 rfl).choose_spec hb h75, List.forall_mem_cons.mpr ⟨fun hb => fnK_dead (fd_at c 18 rfl).choose_spec hb h76, List.forall_mem_cons.mpr ⟨fun hb => fnK_dead (fd_at c 19 rfl).choose_spec hb h77, List.forall_mem_cons.mpr ⟨fun hb => fnK_dead (fd_at c 20 rfl).choose_spec hb h78, List.forall_mem_cons.mpr ⟨fun hb => fnK_dead (fd_at c 21 rfl).choose_spec hb h79, List.forall_mem_cons.mpr ⟨fun hb => fnK_dead (fd_at c 22 rfl).choose_spec hb h80, List.forall_mem_cons.mpr ⟨fun hb => fnK_dead (fd_at c 23 rfl).choose_spec hb h84, List.forall_mem_cons.mpr ⟨fun hb => fnK_dead (fd_at c 24 rfl).choose_spec hb h85, List.forall_mem_cons.mpr ⟨fun hb => fnK_dead (fd_at c 25 rfl).choose_spec hb h86, List.forall_mem_cons.mpr ⟨fun hb => fnK_dead (fd_at c 26 rfl).choose_spec hb h87, List.forall_mem_cons.mpr ⟨fun hb => fnK_dead (fd_at c 27 rfl).choose_spec hb h88, List.forall_mem_cons.mpr ⟨fun hb => fnK_dead (fd_at c 28 rfl).choose_spec hb h89, List.forall_mem_cons.mpr ⟨fun hb => fnK_dead (fd_at c 29 rfl).choose_spec hb h90, List.forall_mem_cons.mpr ⟨fun hb => fnK_dead (fd_at c 30 rfl).choose_spec hb h91, List.forall_mem_cons.mpr ⟨fun hb => fnK_dead (fd_at c 31 rfl).choose_spec hb h94, List.forall_mem_cons.mpr ⟨fun hb => fnK_dead (fd_at c 32 rfl).choose_spec hb h95, List.forall_mem_cons.mpr ⟨fun hb => fnK_dead (fd_at c 33 rfl).choose_spec hb h139, List.forall_mem_cons.mpr ⟨fun hb => fnK_dead (fd_at c 34 rfl).choose_spec hb h140, List.forall_mem_cons.mpr ⟨fun hb => fnK_dead (fd_at c 35 rfl).choose_spec hb h141, List.forall_mem_cons.mpr ⟨fun hb => fnK_dead (fd_at c 36 rfl).choose_spec hb h142, List.forall_mem_cons.mpr ⟨fun hb => fnK_dead (fd_at c 37 rfl).choose_spec hb h143, List.forall_mem_cons.mpr ⟨fun hb => fnK_dead (fd_at c 38 rfl).choose_spec hb h144, List.forall_mem_cons.mpr ⟨fun hb => fnK_dead (fd_at c 39 rfl).choose_spec hb h145, List.forall_mem_cons.mpr ⟨fun hb => fnK_dead (fd_at c 40 rfl).choose_spec hb h146, List.forall_mem_cons.mpr ⟨fun hb => fnK_dead (fd_at c 41 rfl).choose_spec hb h147, List.forall_mem_cons.mpr ⟨fun hb => fnK_dead (fd_at c 42 rfl).choose_spec hb h148, List.forall_mem_cons.mpr ⟨fun hb => fnK_dead (fd_at c 43 rfl).choose_spec hb h149, List.forall_mem_cons.mpr ⟨fun hb => fnK_dead (fd_at c 44 rfl).choose_spec hb h152, List.forall_mem_cons.mpr ⟨fun hb => fnK_dead (fd_at c 45 rfl).choose_spec hb h153, List.forall_mem_cons.mpr ⟨fun hb => fnK_dead (fd_at c 46 rfl).choose_spec hb h154, List.forall_mem_cons.mpr ⟨fun hb => fnK_dead (fd_at c 47 rfl).choose_spec hb h156, List.forall_mem_cons.mpr ⟨fun hb => fnK_dead (fd_at c 48 rfl).choose_spec hb h157, List.forall_mem_cons.mpr ⟨fun hb => fnK_dead (fd_at c 49 rfl).choose_spec hb h159, List.forall_mem_cons.mpr ⟨fun hb => fnK_dead (fd_at c 50 rfl).choose_spec hb h160, List.forall_mem_cons.mpr ⟨fun hb => fnK_dead (fd_at c 51 rfl).choose_spec hb h161, List.forall_mem_cons.mpr ⟨fun hb => fnK_dead (fd_at c 52 rfl).choose_spec hb h162, List.forall_mem_cons.mpr ⟨fun hb => fnK_dead (fd_at c 53 rfl).choose_spec hb h164, List.forall_mem_cons.mpr ⟨fun hb => fnK_dead (fd_at c 54 rfl).choose_spec hb h165, List.forall_mem_cons.mpr ⟨fun hb => fnK_dead (fd_at c 55 rfl).choose_spec hb h6, List.forall_mem_cons.mpr ⟨fun hb => fnK_dead (fd_at c 56 rfl).choose_spec hb h163, List.forall_mem_cons.mpr ⟨fun hb => fnK_dead (fd_at c 57 rfl).choose_spec hb h155, List.forall_mem_cons.mpr ⟨fun hb => fnK_dead (fd_at c 58 rfl).choose_spec hb h158, List.forall_mem_nil _⟩⟩⟩⟩⟩⟩⟩⟩⟩⟩⟩⟩⟩⟩⟩⟩⟩⟩⟩⟩⟩⟩⟩⟩⟩⟩⟩⟩⟩⟩⟩⟩⟩⟩⟩⟩⟩⟩⟩⟩⟩⟩⟩⟩⟩⟩⟩⟩⟩⟩⟩⟩⟩⟩⟩⟩⟩⟩⟩
theorem adr_other {f : Nat} (hf : f ∉ ([1, 2, 3, 4, 9, 10, 11, 12, 13, 14, 15, 16, 18, 19, 39, 69, 74, 75, 76, 77, 78, 79, 80, 84, 85, 86, 87, 88, 89, 90, 91, 94, 95, 139, 140, 141, 142, 143, 144, 145, 146, 147, 148, 149, 152, 153, 154, 156, 157, 159, 160, 161, 162, 164, 165, 6, 163, 155, 158] : List Nat)) : adrK K f = adrK K 165 := by
  have st : (List.range 166).all (fun f => ([1, 2, 3, 4, 9, 10, 11, 12, 13, 14, 15, 16, 18, 19, 39, 69, 74, 75, 76, 77, 78, 79, 80, 84, 85, 86, 87, 88, 89, 90, 91, 94, 95, 139, 140, 141, 142, 143, 144, 145, 146, 147, 148, 149, 152, 153, 154, 156, 157, 159, 160, 161, 162, 164, 165, 6, 163, 155, 158] : List Nat).contains f || (decide (dnF f = (("law" : Str), none)) && !cms.contains f)) = true := by decide +kernel
  have e : dnF f = (("law" : Str), none) ∧ cms.contains f = false := by
    by_cases hn : f < 166
    · have z := List.all_eq_true.mp st f (List.mem_range.mpr hn)
      have nf : ([1, 2, 3, 4, 9, 10, 11, 12, 13, 14, 15, 16, 18, 19, 39, 69, 74, 75, 76, 77, 78, 79, 80, 84, 85, 86, 87, 88, 89, 90, 91, 94, 95, 139, 140, 141, 142, 143, 144, 145, 146, 147, 148, 149, 152, 153, 154, 156, 157, 159, 160, 161, 162, 164, 165, 6, 163, 155, 158] : List Nat).contains f = false := by simpa using hf
      rw [nf, Bool.false_or] at z
      obtain ⟨z1, z2⟩ := He.ba z
      exact ⟨of_decide_eq_true z1, by simpa using z2⟩
    · refine ⟨?_, ?_⟩
      · unfold dnF
        rw [List.getElem?_eq_none (show dnm.length ≤ f from Nat.le_trans (by decide) (Nat.le_of_not_lt hn))]
        rfl
      · have all : cms.all (fun d => Nat.blt d 166) = true := by decide
        cases q : cms.contains f with
        | false => rfl
        | true =>
          have := List.all_eq_true.mp all f (by simpa using q)
          exact absurd (blt_t.mp this) hn
  have e2 : adrK K f = He.fAd K (dnF f) := adr_m (by rw [e.2]; rfl)
  rw [e2, e.1]
  rfl
theorem dead_of {k f : Nat} (hf : f ∉ ([1, 2, 3, 4, 9, 10, 11, 12, 13, 14, 15, 16, 18, 19, 39, 69, 74, 75, 76, 77, 78, 79, 80, 84, 85, 86, 87, 88, 89, 90, 91, 94, 95, 139, 140, 141, 142, 143, 144, 145, 146, 147, 148, 149, 152, 153, 154, 156, 157, 159, 160, 161, 162, 164, 165] : List Nat)) (as : List Val) (hh : Hh) : ∃ w, Ev.callD prog k f as hh = .bad w := by
  have st : (List.range 166).all (fun f => ([1, 2, 3, 4, 9, 10, 11, 12, 13, 14, 15, 16, 18, 19, 39, 69, 74, 75, 76, 77, 78, 79, 80, 84, 85, 86, 87, 88, 89, 90, 91, 94, 95, 139, 140, 141, 142, 143, 144, 145, 146, 147, 148, 149, 152, 153, 154, 156, 157, 159, 160, 161, 162, 164, 165] : List Nat).contains f || (match prog.defs[f]? with | some d => isHnil d.body | none => true)) = true := by decide +kernel
  refine callD_dead rfl ?_ as hh
  cases q : prog.defs[f]? with
  | none => exact .inl rfl
  | some d =>
    have hn : f < 166 := (List.getElem?_eq_some_iff.mp q).1
    have z := List.all_eq_true.mp st f (List.mem_range.mpr hn)
    have nf : ([1, 2, 3, 4, 9, 10, 11, 12, 13, 14, 15, 16, 18, 19, 39, 69, 74, 75, 76, 77, 78, 79, 80, 84, 85, 86, 87, 88, 89, 90, 91, 94, 95, 139, 140, 141, 142, 143, 144, 145, 146, 147, 148, 149, 152, 153, 154, 156, 157, 159, 160, 161, 162, 164, 165] : List Nat).contains f = false := by simpa using hf
    rw [nf, Bool.false_or, q] at z
    exact .inr ⟨d, rfl, z⟩
theorem dead_any (c : SaysS fds ck tf h K) {k f : Nat} (hb : ∀ as hh, ∃ w, Ev.callD prog k f as hh = .bad w) : FnK (EE w K (TT K)) PW w K mg base k f := by
  by_cases hf : f ∈ ([1, 2, 3, 4, 9, 10, 11, 12, 13, 14, 15, 16, 18, 19, 39, 69, 74, 75, 76, 77, 78, 79, 80, 84, 85, 86, 87, 88, 89, 90, 91, 94, 95, 139, 140, 141, 142, 143, 144, 145, 146, 147, 148, 149, 152, 153, 154, 156, 157, 159, 160, 161, 162, 164, 165, 6, 163, 155, 158] : List Nat)
  · exact dead_named c f hf hb
  · obtain ⟨fd, F⟩ := fd_at c 54 rfl
    have F : L2.FunD K "law" "law" (defArgs s165) (defBody s165) (defScope s165) [] [] (adrK K f) fd := by
      rw [adr_other hf]
      exact F
    exact fnK_dead F hb h165
theorem fnAll (F : Fx w K (TT K) mg base) (c : SaysS fds ck tf h K) : ∀ k f, FnK (EE w K (TT K)) PW w K mg base k f
  | 0, f => dead_any c fun as hh => ⟨71, rfl⟩
  | k + 1, f => by
    by_cases hf : f ∈ ([1, 2, 3, 4, 9, 10, 11, 12, 13, 14, 15, 16, 18, 19, 39, 69, 74, 75, 76, 77, 78, 79, 80, 84, 85, 86, 87, 88, 89, 90, 91, 94, 95, 139, 140, 141, 142, 143, 144, 145, 146, 147, 148, 149, 152, 153, 154, 156, 157, 159, 160, 161, 162, 164, 165] : List Nat)
    · exact live_step F c (fnAll F c k) f hf
    · exact dead_any c (dead_of hf)
theorem law_ok (F : Fx w K (TT K) mg base) (c : SaysS fds ck tf h K) {k : Nat} {fd : FuncData} (D : L2.FunD K "law" "law" (defArgs s165) (defBody s165) (defScope s165) [] [] (adrK K 165) fd) : L2.FnOk PW w K mg base (L2.CX PW w) (4 * (k + 1)) (adrK K 165) fd P165 (spEv (EE w K (TT K)) (k + 1) 165) :=
  fnOk_step (E := EE w K (TT K)) (f := 165) (k := k) D S165 rfl rfl rfl rfl rfl (fun cdv A outer s H Ex hca hci hr => b165 F (fnAll F c k) hr (code_ref hca hci))
end
end K77
set_option Elab.async false
set_option linter.all false
set_option autoImplicit false
set_option maxRecDepth 100000
set_option maxHeartbeats 0

namespace K77
open PySem PySem.Spec PyProof.Rows Sb
open L2 (V Hp HO VK XK Room SqL defScope defBody defArgs)
open Ev (PV Val MO Hh Sg Exc Res SR)
theorem r_fns (w : World) (os : OsState) : (XX w os).map (fun s => (obsF fds (HandSHeadRun.getT s) s.n, fds.all fun d => d.ok (frR (HandSHeadRun.getT s) s.n))) = some (fds.map FD.val, true) :=
  (map_app (r_fd0 w os) (r_fd1 w os))
theorem r_all (w : World) : HandSHeadRun.RunEq RR VW (hookS fds ck tf) (obT fds ck tf) 100000 loose w := fun os => by
  obtain ⟨h1, h2⟩ := map_two (r_fns w os)
  refine run_parts (r_looks w os) (r_seen w os) (run_two h1 ?_)
  have e : (fun s => obsB fds ck tf (HandSHeadRun.getT s) s.n) = fun s => (fds.all fun d => d.ok (frR (HandSHeadRun.getT s) s.n)) && (ckA (frR (HandSHeadRun.getT s) s.n) && (ckC (frR (HandSHeadRun.getT s) s.n) && ((ckK (frR (HandSHeadRun.getT s) s.n) && ckO (frR (HandSHeadRun.getT s) s.n)) && He.tabsB (HandSHeadRun.getT s) tf (frR (HandSHeadRun.getT s) s.n)))) := by
    funext s
    unfold obsB ck
    simp only [Bool.and_assoc]
  rw [e]
  exact map_and h2 (map_and (r_ckA w os) (map_and (r_ckC w os) (r_ckO w os)))
theorem facts {w : World} {h : Heap} {mg : Str → Option Value} {fa : Addr} (Y : (hookS fds ck tf).says w h) (G : h.Ns mainGlobals mg) (hfa : mg ("law" : Str) = some (.ref fa)) : ∃ K : PySem.W.Frag, K.In h ∧ LamX.LawAtS PySem.Challenge.rw_fromparts_k77_errors_of_written_values w K (L2.CX PW w) (4 * (KK + 1)) 63 "_law_script" mg fa h := by
  obtain ⟨K, hK, c⟩ := Y
  obtain ⟨fd, D⟩ := fd_at c 54 rfl
  obtain ⟨hA, _⟩ := He.ba c.ck
  have e := hfa.symm.trans (He.glo_ok hK G (fa_at hA 0 (f := .glo "law") rfl))
  have ef : fa = adrK K 165 := by
    cases e
    rfl
  subst ef
  have mem : ∀ p ∈ tf.map (He.cT K), ∃ q ∈ tf, He.cT K q = p := fun p hp => List.mem_map.mp hp
  have b := L2.FunD.bindsA D h165
  refine ⟨K, hK, fd, tf.map (He.cT K), spEv (EE w K (TT K)) (KK + 1) 165, fun p hp => ?_, fun p hp => ?_, fun p hp => ?_, fun s u => b s [u] rfl, fun H a ns hl _ hT hS => ?_, fun base _ _ TB => ?_⟩
  · obtain ⟨q, hq, rfl⟩ := mem p hp
    exact c.empty q hq
  · obtain ⟨q, hq, rfl⟩ := mem p hp
    exact c.out q hq
  · obtain ⟨q, hq, rfl⟩ := mem p hp
    exact PySem.W.codeHd_of_K hK (c.hd q hq)
  · refine sp_law (E := EE w K (TT K)) rfl (d := d165) rfl rfl rfl (fun p hp => ?_) hS (plain ns hl)
    have tt : TT K = [((He.cT K ("_law_right", none)).2, (envOfC "_law_right" (defScope s164) 0 0 .none).qual ++ "<lambda>"), ((He.cT K ("law", none)).2, (envOfC "law" (defScope s165) 0 0 .none).qual ++ "<lambda>")] := rfl
    have hp : p ∈ TT K := hp
    rw [tt] at hp
    have : ∃ q ∈ tf, (He.cT K q).2 = p.1 := by
      rcases List.mem_cons.mp hp with rfl | hp
      · exact ⟨_, List.mem_cons_self .., rfl⟩
      · rcases List.mem_cons.mp hp with rfl | hp
        · exact ⟨_, List.mem_cons_of_mem _ (List.mem_cons_self ..), rfl⟩
        · cases hp
    obtain ⟨q, hq, eq⟩ := this
    rw [← eq]
    exact hT _ (List.mem_map_of_mem hq)
  · exact law_ok (fx_of hK G c TB) c D
end K77
open PySem PySem.W PySem.Calls PyProof.Rows
theorem PySem.Challenge.cw_fromparts_k77_errors_of_written_values_holds : PySem.Challenge.rw_fromparts_k77_errors_of_written_values.Holds := by
  w_on; o_law
  refine HandSHeadRun.head_any (r := K77.RR) (q := K77.VW) (H := Sb.hookS K77.fds K77.ck K77.tf) (ob := Sb.obT K77.fds K77.ck K77.tf) (M := 100000) (loose := K77.loose) (d := HandSHeadRun.topDef K77.RR.prog 115) (kwd := []) Sb.obT_eq
    (by kernel_rfl) (fun s => by kernel_rfl) K77.r_all (by kernel_rfl) (by kernel_rfl) (by kernel_rfl) (by rfl) (by first | assumption | decide +kernel) (by decide +kernel) ⟨rfl, rfl, rfl, rfl, rfl, by decide +kernel⟩ ?hw ?hc
  case hw => w_witness2
  case hc =>
    refine LamX.walk_ofTsE (l := PySem.Challenge.rw_fromparts_k77_errors_of_written_values) (n := 63) (k := 4 * (K77.KK + 1)) (x := "_law_script") (CX := fun w => L2.CX K77.PW w) rfl (by decide) (by kernel_rfl) ⟨rfl, by decide, by decide⟩ ?F (fun w H s e s' z => ?cx)
    case F =>
      intro w mg fa h Y G hmg0
      have hmg : mg ("law" : PySem.Str) = some (.ref fa) := by
        have e : (HandSHeadRun.topDef K77.RR.prog 115).name = ("law" : PySem.Str) := by kernel_rfl
        rw [← e]
        exact hmg0
      exact K77.facts Y G hmg
    case cx =>
      obtain ⟨_, _, _, _, _, _, _, _, _, _, _, _, z⟩ := z
      exact z
