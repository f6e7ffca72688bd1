import PyProof.Rows.All
import Wide.All
import OpenK.AllK
import Wide.FinOn
import HandS.ForMost
import KE.SortData
import KE.KDictKeyed
import HandS.TupAny
import HandS.Deep
import HandS.Style
import HandS.Wide
import HandS.IsInst
import HandS.Conv
import HandS.List
import HandS.SortOrd
import HandS.Zip
import HandS.Iter
import KE.GoesEnum
import KE.GoesMore
import PyProof.Draws
import HandS.Words
import HandS.WordsExc
import HandS.Defaults
import HandS.Codes
import HandS.Exc
import HandS.Call
import HandS.Ends
import KE.KStateDown
import HandS.Base
import HandS.More
import HandS.Head0
import HandS.Head1
import HandS.Head2
import HandS.HeadEnd
import HandS.HeadHook1
import HandS.HeadHook2
import PySem.Challenge.RW_turnedtrees_k01_whole_shapes
section
set_option Elab.async false
/-! PvD: plain data, the intermediate form, its evaluator. -/
namespace PV
open PySem (Str)

/-- plain data: what a Python value is, without the heap; rf: a changing object of the store -/
inductive D where
  | non | bl (b : Bool) | int (i : Int) | str (x : Str)
  | tup (ds : List D) | lst (ds : List D) | dic (ks vs : List D) | rf (n : Nat)
  /-- a list that is only read (the script) -/
  | scr (ds : List D)

namespace D
mutual
def beq : D → D → Bool
  | .non, .non => true
  | .bl a, .bl b => a == b
  | .int a, .int b => decide (a = b)
  | .str a, .str b => decide (a = b)
  | .tup a, .tup b => beqs a b
  | .lst a, .lst b => beqs a b
  | .scr a, .scr b => beqs a b
  | .dic a b, .dic c d => beqs a c && beqs b d
  | .rf a, .rf b => a == b
  | _, _ => false
def beqs : List D → List D → Bool
  | [], [] => true
  | a :: as, b :: bs => beq a b && beqs as bs
  | _, _ => false
end
mutual
theorem beq_self : ∀ a : D, beq a a = true
  | .non => rfl
  | .bl a => by simp [beq]
  | .int a => by simp [beq]
  | .str a => by simp [beq]
  | .tup a => by rw [beq]; exact beqs_self a
  | .lst a => by rw [beq]; exact beqs_self a
  | .scr a => by rw [beq]; exact beqs_self a
  | .dic a b => by rw [beq, beqs_self a, beqs_self b]; rfl
  | .rf a => by simp [beq]
theorem beqs_self : ∀ a : List D, beqs a a = true
  | [] => rfl
  | a :: as => by rw [beqs, beq_self a, beqs_self as]; rfl
end
mutual
theorem eq_of_beq : ∀ a b : D, beq a b = true → a = b
  | .non, b, h => by cases b <;> simp_all [beq]
  | .bl _, b, h => by cases b <;> simp_all [beq]
  | .int _, b, h => by cases b <;> simp_all [beq]
  | .str _, b, h => by cases b <;> simp_all [beq]
  | .tup x, b, h => by
    cases b with
    | tup y => rw [beq] at h; rw [eq_of_beqs x y h]
    | _ => simp [beq] at h
  | .lst x, b, h => by
    cases b with
    | lst y => rw [beq] at h; rw [eq_of_beqs x y h]
    | _ => simp [beq] at h
  | .scr x, b, h => by
    cases b with
    | scr y => rw [beq] at h; rw [eq_of_beqs x y h]
    | _ => simp [beq] at h
  | .dic x y, b, h => by
    cases b with
    | dic z w => rw [beq, Bool.and_eq_true] at h; rw [eq_of_beqs x z h.1, eq_of_beqs y w h.2]
    | _ => simp [beq] at h
  | .rf _, b, h => by cases b <;> simp_all [beq]
theorem eq_of_beqs : ∀ a b : List D, beqs a b = true → a = b
  | [], [], _ => rfl
  | a :: as, b :: bs, h => by
    rw [beqs, Bool.and_eq_true] at h
    rw [eq_of_beq a b h.1, eq_of_beqs as bs h.2]
  | [], _ :: _, h => by simp [beqs] at h
  | _ :: _, [], h => by simp [beqs] at h
end
instance : DecidableEq D := fun a b => if h : beq a b = true then .isTrue (eq_of_beq a b h) else .isFalse fun e => h (e ▸ beq_self a)
theorem decide_eq (a b : D) : decide (a = b) = beq a b := by
  cases h : beq a b with
  | true => exact decide_eq_true (eq_of_beq a b h)
  | false => exact decide_eq_false fun e => by rw [e, beq_self] at h; cases h

mutual
/-- Python's == -/
def eqv : D → D → Bool
  | .non, .non => true
  | .bl a, .bl b => a == b
  | .bl a, .int j => (if a then 1 else 0) == j
  | .int i, .bl b => i == (if b then 1 else 0)
  | .int i, .int j => i == j
  | .str x, .str y => x == y
  | .lst xs, .lst ys => eqvs xs ys
  | .tup xs, .tup ys => eqvs xs ys
  | _, _ => false
def eqvs : List D → List D → Bool
  | [], [] => true
  | x :: xs, y :: ys => eqv x y && eqvs xs ys
  | _, _ => false
end
mutual
/-- data without dicts and changing objects, at most so deep -/
def plain : Nat → D → Bool
  | _, .non => true
  | _, .bl _ => true
  | _, .int _ => true
  | _, .str x => PySem.PyData.strOk x
  | 0, .tup _ => false
  | n + 1, .tup ds => plains n ds
  | 0, .lst _ => false
  | n + 1, .lst ds => plains n ds
  | _, .dic _ _ => false
  | _, .rf _ => false
  | _, .scr _ => false
def plains : Nat → List D → Bool
  | _, [] => true
  | n, d :: ds => plain n d && plains n ds
end
mutual
/-- comparable place by place -/
def alk : D → D → Bool
  | .non, .non => true
  | .bl _, .bl _ => true
  | .int _, .int _ => true
  | .str _, .str _ => true
  | .lst xs, .lst ys => alks xs ys
  | .tup xs, .tup ys => alks xs ys
  | _, _ => false
def alks : List D → List D → Bool
  | x :: xs, y :: ys => alk x y && alks xs ys
  | [], _ => true
  | _ :: _, [] => true
end
def ltNs : List Nat → List Nat → Bool
  | [], [] => false
  | [], _ :: _ => true
  | _ :: _, [] => false
  | x :: xs, y :: ys => if Nat.beq x y then ltNs xs ys else Nat.blt x y
mutual
/-- Python's < of alike data -/
def lt : D → D → Bool
  | .bl a, .bl b => !a && b
  | .int a, .int b => decide (a < b)
  | .str a, .str b => ltNs a.cps.toList b.cps.toList
  | .lst xs, .lst ys => lts xs ys
  | .tup xs, .tup ys => lts xs ys
  | _, _ => false
def lts : List D → List D → Bool
  | [], [] => false
  | [], _ :: _ => true
  | _ :: _, [] => false
  | x :: xs, y :: ys => if eqv x y then lts xs ys else lt x y
end
mutual
/-- d lies within the skeleton j -/
def emb : D → D → Bool
  | .non, .non => true
  | .bl _, .bl _ => true
  | .int _, .int _ => true
  | .str _, .str _ => true
  | .lst js, .lst ds => embs js ds
  | .tup js, .tup ds => embs js ds
  | _, _ => false
def embs : List D → List D → Bool
  | _, [] => true
  | [], _ :: _ => false
  | j :: js, d :: ds => emb j d && embs js ds
end
mutual
/-- a skeleton for both, if there is one -/
def mrg : D → D → D
  | .lst xs, .lst ys => .lst (mrgs xs ys)
  | .tup xs, .tup ys => .tup (mrgs xs ys)
  | x, _ => x
def mrgs : List D → List D → List D
  | [], ys => ys
  | xs, [] => xs
  | x :: xs, y :: ys => mrg x y :: mrgs xs ys
end
def skel : List D → D
  | [] => .non
  | [d] => d
  | d :: ds => mrg d (skel ds)
/-- all are comparable with one another -/
def sortable (ds : List D) : Bool := let j := skel ds; ds.all fun d => emb j d
mutual
/-- data of ints, tuples, lists -/
def srt : D → Bool
  | .non => true
  | .int _ => true
  | .tup ds => srts ds
  | .lst ds => srts ds
  | _ => false
def srts : List D → Bool
  | [] => true
  | d :: ds => srt d && srts ds
end
def ins (x : D) : List D → List D
  | [] => [x]
  | y :: ys => if lt y x then y :: ins x ys else x :: y :: ys
/-- sorted -/
def isort : List D → List D
  | [] => []
  | x :: xs => ins x (isort xs)
mutual
/-- what a dict's key may be -/
def kok : Nat → D → Bool
  | _, .non => true
  | _, .int _ => true
  | _, .str _ => true
  | 0, .tup _ => false
  | n + 1, .tup ds => koks n ds
  | _, _ => false
def koks : Nat → List D → Bool
  | _, [] => true
  | n, d :: ds => kok n d && koks n ds
end
/-- 1: an int, 2: a text, 3: a tuple that may be a key, 0: none of these -/
def kkind : D → Nat
  | .int _ => 1
  | .str _ => 2
  | .tup ds => if kok 8 (.tup ds) then 3 else 0
  | _ => 0
def kof : D → Nat
  | .int _ => 1
  | .str _ => 2
  | .tup _ => 3
  | _ => 0
/-- k may be asked of a dict with the keys ks -/
def kfits (k : D) (ks : List D) : Bool := let n := kkind k; !(Nat.beq n 0) && ks.all fun d => Nat.beq (kof d) n
def look (k : D) : List D → List D → Option D
  | q :: ks, v :: vs => if beq q k then some v else look k ks vs
  | _, _ => none
def stoV (k v : D) : List D → List D → List D
  | q :: ks, u :: vs => if beq q k then v :: vs else u :: stoV k v ks vs
  | _, _ => [v]
def stoK (k : D) : List D → List D
  | [] => [k]
  | q :: ks => if beq q k then q :: ks else q :: stoK k ks
end D

/-- what a slot holds: val: shared from now on; own: a list or dict that nothing else knows -/
inductive W where
  | val (d : D) | own (d : D)
abbrev Sg := List (Option W)
abbrev ST := List D
inductive R (α : Type) where
  | ok (a : α) (s : ST) | exc (c : Nat) (s : ST) | bad
def R.bind {α β : Type} (r : R α) (k : α → ST → R β) : R β := match r with
  | .ok a s => k a s
  | .exc c s => .exc c s
  | .bad => .bad
def R.of {α : Type} (o : Option α) (s : ST) : R α := match o with
  | some a => .ok a s
  | none => .bad

inductive Op where | add | sub | mul | fdiv | mod | pow
inductive Cp where | eq | ne | lt | le | gt | ge | isin | notin | is_ | isnot
inductive Tg where | one (i : Nat) | many (is : List Nat)
inductive Bf where
  | len | all | any | sorted | list | tuple | max1 | min1 | max2 | min2 | sum | abs | str | int
  | isInt | isBool | isTup | isLst | isStr
inductive E where
  | cst (d : D) | var (i : Nat) | glc (d : D)
  | bin (o : Op) (a b : E) | neg (a : E)
  | cmp (o : Cp) (a b : E) | chn (o p : Cp) (a b c : E)
  | ands (es : List E) | ors (es : List E) | nt (a : E)
  | ite (c a b : E)
  | tup (es : List E) | lst (es : List E) | dc0 | dc1 (k v : E)
  | idx (a i : E) | sl (a lo hi : E) | rev (a : E)
  | call (f : Nat) (es : List E)
  | blt (b : Bf) (es : List E)
  | get1 (o k : E) | get2 (o k d : E)
  | comp (e : E) (t : Tg) (it c : E) (own : List Nat)
  | dcmp (k v : E) (t : Tg) (it : E) (own : List Nat)
  | rng1 (a : E) | rng2 (a b : E) | rngd (a b : E) | enm (a : E) | zp (a b : E) | itv (a : E)
  | nrf (a : E)

def lim : Nat := 1000000
def small {α : Type} (xs : List α) : Bool := Nat.ble xs.length lim
def big64 : Int := 18446744073709551616
def fits64 (i : Int) : Bool := decide (-big64 < i) && decide (i < big64)
def wide (i : Int) : Bool := decide (i.natAbs < 2 ^ 1000)
def lstOf (ds : List D) : Option D := if small ds then some (.lst ds) else none
def tupOf (ds : List D) : Option D := if small ds then some (.tup ds) else none
def rep (ds : List D) : Nat → List D
  | 0 => []
  | n + 1 => ds ++ rep ds n

def opD : Op → D → D → Option D
  | .add, .int i, .int j => some (.int (i + j))
  | .add, .int i, .bl b => some (.int (i + (if b then 1 else 0)))
  | .add, .lst xs, .lst ys => lstOf (xs ++ ys)
  | .add, .tup xs, .tup ys => tupOf (xs ++ ys)
  | .add, .str x, .str y => if Nat.ble (x.length + y.length) lim then some (.str (x ++ y)) else none
  | .sub, .int i, .int j => some (.int (i - j))
  | .mul, .int i, .int j => if fits64 i || fits64 j || (wide i && wide j) then some (.int (i * j)) else none
  | .mul, .lst xs, .int n => if decide (-100000 < n) && decide (n < 100000) && Nat.ble (xs.length * n.toNat) lim then some (.lst (rep xs n.toNat)) else none
  | .fdiv, .int i, .int j => if decide (0 < j) && decide (j < 1073741824) then some (.int (i / j)) else none
  | .mod, .int i, .int j => if decide (0 < j) then some (.int (i % j)) else none
  | .pow, .int i, .int j => if decide (0 ≤ j) && decide (j ≤ 1000) && fits64 i then some (.int (i ^ j.toNat)) else none
  | _, _, _ => none

def eqD (x y : D) : Option Bool := match x, y with
  | .scr xs, .lst [] => if D.plains 60 xs then some xs.isEmpty else none
  | x, y => if D.plain 60 x && D.plain 60 y then some (D.eqv x y) else none
def ltD (x y : D) : Option Bool := match x, y with
  | .int i, .int j => some (decide (i < j))
  | _, _ => none
def flatD : D → Bool
  | .non => true
  | .bl _ => true
  | .int _ => true
  | .str _ => true
  | _ => false
def inD (x : D) : D → Option Bool
  | .lst ds => if D.plain 60 x && D.plains 60 ds then some (ds.any fun d => D.eqv d x) else none
  | .tup ds => if flatD x && ds.all flatD then some (ds.any fun d => D.eqv d x) else none
  | .dic ks vs => none
  | _ => none
def isN : D → Bool
  | .non => true
  | _ => false
def isD : D → D → Option Bool
  | x, .non => some (isN x)
  | .bl a, .bl b => some (decide (a = b))
  | _, _ => none
def cpD : Cp → D → D → Option Bool
  | .eq, x, y => eqD x y
  | .ne, x, y => (eqD x y).map not
  | .lt, x, y => ltD x y
  | .gt, .int i, .int j => some (decide (j < i))
  | .le, .int i, .int j => some (decide (i ≤ j))
  | .ge, .int i, .int j => some (decide (j ≤ i))
  | .isin, x, y => inD x y
  | .notin, x, y => (inD x y).map not
  | .is_, x, y => isD x y
  | .isnot, x, y => (isD x y).map not
  | _, _, _ => none

/-- an index that may count from the end -/
def atD (ds : List D) (i : Int) : Option D := L2.atI ds i
def deref (st : ST) : D → Option D
  | .rf n => st[n]?
  | d => some d
def idxD : D → D → Option D
  | .lst ds, .int i => atD ds i
  | .scr ds, .int i => atD ds i
  | .tup ds, .int i => atD ds i
  | .dic ks vs, k => none
  | _, _ => none
/-- a slice's bound: left out, or an int -/
def bnd : E → D → Option (Option Int)
  | .cst .non, _ => some none
  | _, .int v => some (some v)
  | _, _ => none
def cutD (ds : List D) (lo hi : Option Int) : List D := (ds.drop (HT.sIx ds.length 0 lo)).take (HT.sIx ds.length ds.length hi - HT.sIx ds.length 0 lo)
def slD : D → Option Int → Option Int → Option D
  | .lst ds, lo, hi => some (.lst (cutD ds lo hi))
  | .tup ds, lo, hi => some (.tup (cutD ds lo hi))
  | _, _, _ => none

def boolsOf : List D → Option (List Bool)
  | [] => some []
  | .bl b :: ds => (boolsOf ds).map (b :: ·)
  | _ :: _ => none
def intsOf : List D → Option (List Int)
  | [] => some []
  | .int b :: ds => (intsOf ds).map (b :: ·)
  | _ :: _ => none
def itemsOf : D → Option (List D)
  | .lst ds => some ds
  | .tup ds => some ds
  | .dic ks _ => none
  | _ => none
def maxI : Int → List Int → Int
  | m, [] => m
  | m, x :: xs => maxI (if m < x then x else m) xs
def minI : Int → List Int → Int
  | m, [] => m
  | m, x :: xs => minI (if x < m then x else m) xs
def minT : D → List D → D
  | m, [] => m
  | m, x :: xs => minT (if D.lt x m then x else m) xs

def lenD : List D → Option D
  | [.lst ds] => some (.int ds.length)
  | [.tup ds] => some (.int ds.length)
  | [.scr ds] => some (.int ds.length)
  | [.dic ks _] => none
  | [.str x] => if Nat.ble x.length lim then some (.int x.length) else none
  | _ => none
def allD : List D → Option D
  | [.lst ds] => (boolsOf ds).map fun bs => .bl (bs.all id)
  | _ => none
def anyD : List D → Option D
  | [.lst ds] => (boolsOf ds).map fun bs => .bl (bs.any id)
  | _ => none
def netB : D → Bool
  | .tup (_ :: _) => true
  | _ => false
def othB : D → Bool
  | .int _ => true
  | .lst _ => true
  | _ => false
/-- the lists that are sorted: at most one item, or alike ones of ints, tuples, lists -/
def sortC (ds : List D) : Bool := Nat.ble ds.length 1 || (D.srts ds && D.sortable ds && (ds.all netB || ds.all othB))
def sortedD : List D → Option D
  | [.lst ds] => if D.plains 60 ds && small ds && sortC ds then some (.lst (D.isort ds)) else none
  | _ => none
def listD : List D → Option D
  | [.lst ds] => some (.lst ds)
  | [.tup ds] => some (.lst ds)
  | _ => none
def tupleD : List D → Option D
  | [.lst ds] => some (.tup ds)
  | [.tup ds] => some (.tup ds)
  | _ => none
def max1D : List D → Option D
  | [.lst ds] => match intsOf ds with
    | some (i :: is) => some (.int (maxI i is))
    | _ => none
  | _ => none
def min1D : List D → Option D
  | [.lst ds] => match intsOf ds with
    | some (i :: is) => some (.int (minI i is))
    | _ => none
  | _ => none
def max2D : List D → Option D
  | [.int i, .int j] => some (.int (if j > i then j else i))
  | _ => none
def min2D : List D → Option D
  | [.int i, .int j] => some (.int (if j < i then j else i))
  | _ => none
def sumD : List D → Option D
  | [.lst ds] => (intsOf ds).map fun is => .int is.sum
  | _ => none
def absD : List D → Option D
  | [.int i] => some (.int (if i < 0 then -i else i))
  | _ => none
def isIntD : D → Option Bool
  | .non => some false | .bl _ => some true | .int _ => some true | .str _ => some false | .tup _ => some false | .lst _ => some false | _ => none
def isBoolD : D → Option Bool
  | .non => some false | .bl _ => some true | .int _ => some false | .str _ => some false | .tup _ => some false | .lst _ => some false | _ => none
def isTupD : D → Option Bool
  | .non => some false | .bl _ => some false | .int _ => some false | .str _ => some false | .tup _ => some true | .lst _ => some false | _ => none
def isLstD : D → Option Bool
  | .non => some false | .bl _ => some false | .int _ => some false | .str _ => some false | .tup _ => some false | .lst _ => some true | _ => none
def isStrD : D → Option Bool
  | .non => some false | .bl _ => some false | .int _ => some false | .str _ => some true | .tup _ => some false | .lst _ => some false | _ => none
def one1 (f : D → Option Bool) : List D → Option D
  | [d] => (f d).map .bl
  | _ => none
def bfD : Bf → List D → Option D
  | .len, ds => lenD ds
  | .all, ds => allD ds
  | .any, ds => anyD ds
  | .sorted, ds => sortedD ds
  | .list, ds => listD ds
  | .tuple, ds => tupleD ds
  | .max1, ds => max1D ds
  | .min1, ds => min1D ds
  | .max2, ds => max2D ds
  | .min2, ds => min2D ds
  | .sum, ds => sumD ds
  | .abs, ds => absD ds
  | .isInt, ds => one1 isIntD ds
  | .isBool, ds => one1 isBoolD ds
  | .isTup, ds => one1 isTupD ds
  | .isLst, ds => one1 isLstD ds
  | .isStr, ds => one1 isStrD ds
  | _, _ => none

def getW : Sg → Nat → Option D
  | [], _ => none
  | w :: _, 0 => match w with
    | some (.val d) => some d
    | some (.own d) => some d
    | none => none
  | _ :: σ, i + 1 => getW σ i
def setW : Sg → Nat → W → Sg
  | [], _, _ => []
  | _ :: σ, 0, w => some w :: σ
  | x :: σ, i + 1, w => x :: setW σ i w
def wipeW (σ : Sg) : List Nat → Sg
  | [] => σ
  | v :: vs => (wipeW σ vs).set v none
def setMany : Sg → List Nat → List D → Option Sg
  | σ, [], [] => some σ
  | σ, i :: is, d :: ds => setMany (setW σ i (.val d)) is ds
  | _, _, _ => none
def bindT : Tg → D → Sg → Option Sg
  | .one i, d, σ => some (setW σ i (.val d))
  | .many is, .tup ds, σ => setMany σ is ds
  | _, _, _ => none
def rngUp (lo : Int) : Nat → List D
  | 0 => []
  | n + 1 => .int lo :: rngUp (lo + 1) n
def rngDn (hi : Int) : Nat → List D
  | 0 => []
  | n + 1 => .int hi :: rngDn (hi - 1) n
def enumD (k : Int) : List D → List D
  | [] => []
  | d :: ds => .tup [.int k, d] :: enumD (k + 1) ds
def zipD : List D → List D → List D
  | x :: xs, y :: ys => .tup [x, y] :: zipD xs ys
  | _, _ => []
def okRng (i : Int) : Bool := decide (-1000000 ≤ i) && decide (i ≤ 1000000)

/-- a comprehension's turns -/
def compL (tg : Tg) (σ : Sg) (fc fe : Sg → ST → R D) : List D → List D → ST → R (List D)
  | [], acc, st => .ok acc st
  | d :: ds, acc, st => match bindT tg d σ with
    | none => .bad
    | some σ' => (fc σ' st).bind fun b s1 => match b with
      | .bl true => (fe σ' s1).bind fun v s2 => if small acc then compL tg σ fc fe ds (acc ++ [v]) s2 else .bad
      | .bl false => compL tg σ fc fe ds acc s1
      | _ => .bad
def dcmpL (tg : Tg) (σ : Sg) (fk fv : Sg → ST → R D) : List D → List D → List D → ST → R (List D × List D)
  | [], ks, vs, st => .ok (ks, vs) st
  | d :: ds, ks, vs, st => match bindT tg d σ with
    | none => .bad
    | some σ' => (fk σ' st).bind fun k s1 => (fv σ' s1).bind fun v s2 =>
      if D.kfits k ks && small ks then dcmpL tg σ fk fv ds (D.stoK k ks) (D.stoV k v ks vs) s2 else .bad

abbrev CF := Nat → List D → ST → R D
mutual
def evE (cf : CF) : E → Sg → ST → R D
  | .cst d, _, st => .ok d st
  | .var i, σ, st => R.of (getW σ i) st
  | .glc d, _, st => .ok d st
  | .bin o a b, σ, st => (evE cf a σ st).bind fun x s1 => (evE cf b σ s1).bind fun y s2 => R.of (opD o x y) s2
  | .neg a, σ, st => (evE cf a σ st).bind fun x s1 => match x with
    | .int i => .ok (.int (-i)) s1
    | _ => .bad
  | .cmp o a b, σ, st => (evE cf a σ st).bind fun x s1 => (evE cf b σ s1).bind fun y s2 => match deref s2 x, deref s2 y with
    | some x', some y' => R.of ((cpD o x' y').map D.bl) s2
    | _, _ => .bad
  | .chn o p a b c, σ, st => (evE cf a σ st).bind fun x s1 => (evE cf b σ s1).bind fun y s2 => match cpD o x y with
    | some true => (evE cf c σ s2).bind fun z s3 => R.of ((cpD p y z).map D.bl) s3
    | some false => .ok (.bl false) s2
    | none => .bad
  | .ands es, σ, st => evAnds cf es σ st
  | .ors es, σ, st => evOrs cf es σ st
  | .nt a, σ, st => (evE cf a σ st).bind fun x s1 => match x with
    | .bl b => .ok (.bl (!b)) s1
    | _ => .bad
  | .ite c a b, σ, st => (evE cf c σ st).bind fun x s1 => match x with
    | .bl true => evE cf a σ s1
    | .bl false => evE cf b σ s1
    | _ => .bad
  | .tup es, σ, st => (evEs cf es σ st).bind fun ds s1 => R.of (tupOf ds) s1
  | .lst es, σ, st => (evEs cf es σ st).bind fun ds s1 => R.of (lstOf ds) s1
  | .dc0, _, st => .ok (.dic [] []) st
  | .dc1 k v, σ, st => (evE cf k σ st).bind fun x s1 => (evE cf v σ s1).bind fun y s2 => if D.kfits x [] then .ok (.dic [x] [y]) s2 else .bad
  | .idx a i, σ, st => (evE cf a σ st).bind fun x s1 => (evE cf i σ s1).bind fun y s2 => match deref s2 x with
    | some x' => R.of (idxD x' y) s2
    | none => .bad
  | .sl a lo hi, σ, st => (evE cf a σ st).bind fun x s1 => (evE cf lo σ s1).bind fun y s2 => (evE cf hi σ s2).bind fun z s3 => match bnd lo y, bnd hi z with
    | some l, some h => R.of (slD x l h) s3
    | _, _ => .bad
  | .rev a, σ, st => (evE cf a σ st).bind fun x s1 => match x with
    | .lst ds => .ok (.lst ds.reverse) s1
    | _ => .bad
  | .call f es, σ, st => (evEs cf es σ st).bind fun ds s1 => cf f ds s1
  | .blt b es, σ, st => (evEs cf es σ st).bind fun ds s1 => R.of (bfD b ds) s1
  | .get1 o k, σ, st => (evE cf o σ st).bind fun x s1 => (evE cf k σ s1).bind fun y s2 => match x with
    | .dic ks vs => if D.kfits y ks then .ok ((D.look y ks vs).getD .non) s2 else .bad
    | _ => .bad
  | .get2 o k d, σ, st => (evE cf o σ st).bind fun x s1 => (evE cf k σ s1).bind fun y s2 => (evE cf d σ s2).bind fun z s3 => match x with
    | .dic ks vs => if D.kfits y ks then .ok ((D.look y ks vs).getD z) s3 else .bad
    | _ => .bad
  | .comp e t it c own, σ, st => (evE cf it σ st).bind fun x s1 => match x with
    | .lst ds => (compL t (wipeW σ own) (fun σ' s => evE cf c σ' s) (fun σ' s => evE cf e σ' s) ds [] s1).bind fun r s2 => .ok (.lst r) s2
    | _ => .bad
  | .dcmp k v t it own, σ, st => (evE cf it σ st).bind fun x s1 => match x with
    | .lst ds => (dcmpL t (wipeW σ own) (fun σ' s => evE cf k σ' s) (fun σ' s => evE cf v σ' s) ds [] [] s1).bind fun r s2 => .ok (.dic r.1 r.2) s2
    | _ => .bad
  | .rng1 a, σ, st => (evE cf a σ st).bind fun x s1 => match x with
    | .int j => if okRng j then .ok (.lst (rngUp 0 j.toNat)) s1 else .bad
    | _ => .bad
  | .rng2 a b, σ, st => (evE cf a σ st).bind fun x s1 => (evE cf b σ s1).bind fun y s2 => match x, y with
    | .int i, .int j => if okRng i && okRng j then .ok (.lst (rngUp i (j - i).toNat)) s2 else .bad
    | _, _ => .bad
  | .rngd a b, σ, st => (evE cf a σ st).bind fun x s1 => (evE cf b σ s1).bind fun y s2 => match x, y with
    | .int i, .int j => if okRng i && okRng j then .ok (.lst (rngDn i (i - j).toNat)) s2 else .bad
    | _, _ => .bad
  | .enm a, σ, st => (evE cf a σ st).bind fun x s1 => match x with
    | .lst ds => .ok (.lst (enumD 0 ds)) s1
    | .tup ds => .ok (.lst (enumD 0 ds)) s1
    | _ => .bad
  | .zp a b, σ, st => (evE cf a σ st).bind fun x s1 => (evE cf b σ s1).bind fun y s2 => match x, y with
    | .lst xs, .lst ys => .ok (.lst (zipD xs ys)) s2
    | .tup xs, .tup ys => .ok (.lst (zipD xs ys)) s2
    | _, _ => .bad
  | .itv a, σ, st => (evE cf a σ st).bind fun x s1 => R.of ((itemsOf x).map D.lst) s1
  | .nrf a, σ, st => (evE cf a σ st).bind fun x s1 => match x with
    | .lst ds => .ok (.rf s1.length) (s1 ++ [.lst ds])
    | .dic ks vs => .ok (.rf s1.length) (s1 ++ [.dic ks vs])
    | _ => .bad
def evEs (cf : CF) : List E → Sg → ST → R (List D)
  | [], _, st => .ok [] st
  | e :: es, σ, st => (evE cf e σ st).bind fun d s1 => (evEs cf es σ s1).bind fun ds s2 => .ok (d :: ds) s2
def evAnds (cf : CF) : List E → Sg → ST → R D
  | [], _, _ => .bad
  | e :: es, σ, st => match es with
    | [] => evE cf e σ st
    | _ :: _ => (evE cf e σ st).bind fun x s1 => match x with
      | .bl true => evAnds cf es σ s1
      | .bl false => .ok (.bl false) s1
      | _ => .bad
def evOrs (cf : CF) : List E → Sg → ST → R D
  | [], _, _ => .bad
  | e :: es, σ, st => match es with
    | [] => evE cf e σ st
    | _ :: _ => (evE cf e σ st).bind fun x s1 => match x with
      | .bl false => evOrs cf es σ s1
      | .bl true => .ok (.bl true) s1
      | _ => .bad
end

/-- does it make a list or dict that nothing else knows -/
def frsh : E → Bool
  | .lst _ => true
  | .dc0 => true
  | .dc1 _ _ => true
  | .comp _ _ _ _ _ => true
  | .dcmp _ _ _ _ _ => true
  | .ite _ a b => frsh a && frsh b
  | _ => false
def wrap (e : E) (d : D) : W := if frsh e then .own d else .val d
def frz1 : Option W → Option W
  | some (.own d) => some (.val d)
  | w => w
/-- the slots at z become shared -/
def frz : Sg → List Nat → Sg
  | σ, [] => σ
  | σ, i :: is => frz (match σ[i]? with
    | some (some (.own d)) => setW σ i (.val d)
    | _ => σ) is

inductive C where
  | skip
  | seq (a b : C)
  | asg (i : Nat) (e : E) (z : List Nat)
  | unp (is : List Nat) (e : E) (z : List Nat)
  | par (is : List Nat) (es : List E) (z : List Nat)
  | sidx (o i v : E) (z : List Nat)
  | aidx (o i : E) (op : Op) (v : E) (z : List Nat)
  | aug (i : Nat) (op : Op) (v : E) (z : List Nat)
  | app (o v : E) (z : List Nat)
  | ext (o v : E) (z : List Nat)
  | popA (i : Nat) (o ix : E) (z : List Nat)
  | popP (dst : Nat) (w : D) (o ix : E) (z : List Nat)
  | ret (e : E)
  | ite (c : E) (z : List Nat) (a b : C)
  | whl (c : E) (z : List Nat) (b : C)
  | for_ (t : Tg) (it : E) (z : List Nat) (b : C)
  | brk | cnt
  | exs (e : E) (z : List Nat)
  | rse (c : Nat)

inductive RC where
  | nx (σ : Sg) (s : ST) | brk (σ : Sg) (s : ST) | cnt (σ : Sg) (s : ST) | ret (d : D) (s : ST) | exc (c : Nat) (s : ST) | bad
def R.thn {α : Type} (r : R α) (k : α → ST → RC) : RC := match r with
  | .ok a s => k a s
  | .exc c s => .exc c s
  | .bad => .bad
def whileL (fc : Sg → ST → R D) (fz : Sg → Sg) (fb : Sg → ST → RC) : Nat → Sg → ST → RC
  | 0, _, _ => .bad
  | n + 1, σ, st => (fc σ st).thn fun b s1 => match b with
    | .bl true => match fb (fz σ) s1 with
      | .nx σ' s' => whileL fc fz fb n σ' s'
      | .cnt σ' s' => whileL fc fz fb n σ' s'
      | .brk σ' s' => .nx σ' s'
      | r => r
    | .bl false => .nx (fz σ) s1
    | _ => .bad
def forL (tg : Tg) (fb : Sg → ST → RC) : List D → Sg → ST → RC
  | [], σ, st => .nx σ st
  | d :: ds, σ, st => match bindT tg d σ with
    | none => .bad
    | some σ' => match fb σ' st with
      | .nx σ2 s2 => forL tg fb ds σ2 s2
      | .cnt σ2 s2 => forL tg fb ds σ2 s2
      | .brk σ2 s2 => .nx σ2 s2
      | r => r
/-- the slot that an own list or dict stands in, or the place in the store -/
inductive Pl where | slot (i : Nat) (d : D) | cell (n : Nat) (d : D)
def place (o : E) (x : D) (σ : Sg) (st : ST) : Option Pl := match x with
  | .rf n => (st[n]?).map (Pl.cell n)
  | _ => match o with
    | .var i => match σ[i]? with
      | some (some (.own d)) => some (.slot i d)
      | _ => none
    | _ => none
def putAt (p : Pl) (d : D) (σ : Sg) (st : ST) : Sg × ST := match p with
  | .slot i _ => (setW σ i (.own d), st)
  | .cell n _ => (σ, st.set n d)
def Pl.d : Pl → D
  | .slot _ d => d
  | .cell _ d => d
def Pl.isnt (j : Nat) : Pl → Bool
  | .slot i _ => !(Nat.beq i j)
  | .cell _ _ => false
def Pl.isCell : Pl → Bool
  | .slot _ _ => false
  | .cell _ _ => true
/-- o[i] = v -/
def stoD : D → D → D → Option D
  | .lst ds, .int i, v => if 0 ≤ i then (if i < (ds.length : Int) then some (.lst (ds.set i.toNat v)) else none) else none
  | _, _, _ => none
def isRf : D → Bool
  | .rf _ => true
  | _ => false
def lsP : Option Pl → Bool
  | some (.slot _ (.lst _)) => true
  | some (.cell _ (.lst _)) => true
  | _ => false
def idx0 : D → D → Option D
  | .lst ds, .int i => if 0 ≤ i then ds[i.toNat]? else none
  | _, _ => none
def popD : D → D → Option (D × D)
  | .lst ds, .non => match ds.getLast? with
    | some d => some (d, .lst ds.dropLast)
    | none => none
  | .lst ds, .int i => if 0 ≤ i && decide (i < (ds.length : Int)) then (match ds[i.toNat]? with
    | some d => some (d, .lst (ds.eraseIdx i.toNat))
    | none => none) else none
  | _, _ => none
def setMW : Sg → List Nat → List W → Option Sg
  | σ, [], [] => some σ
  | σ, i :: is, d :: ds => setMW (setW σ i d) is ds
  | _, _, _ => none
def wraps : List E → List D → List W
  | e :: es, d :: ds => wrap e d :: wraps es ds
  | _, _ => []

def evC (lf : Nat) (cf : CF) : C → Sg → ST → RC
  | .skip, σ, st => .nx σ st
  | .seq a b, σ, st => match evC lf cf a σ st with
    | .nx σ' s' => evC lf cf b σ' s'
    | r => r
  | .asg i e z, σ, st => (evE cf e σ st).thn fun d s1 => .nx (setW (frz σ z) i (wrap e d)) s1
  | .unp is e z, σ, st => (evE cf e σ st).thn fun d s1 => match d with
    | .tup ds => match setMany (frz σ z) is ds with
      | some σ' => .nx σ' s1
      | none => .bad
    | _ => .bad
  | .par is es z, σ, st => (evEs cf es σ st).thn fun ds s1 => match setMW (frz σ z) is (wraps es ds) with
    | some σ' => .nx σ' s1
    | none => .bad
  | .sidx o i v z, σ, st => (evE cf v σ st).thn fun dv s1 => (evE cf o σ s1).thn fun x s2 => (evE cf i σ s2).thn fun k s3 =>
    match place o x (frz σ z) s3 with
    | some p => match stoD p.d k dv with
      | some d' => if isRf dv && !p.isCell then .bad else let r := putAt p d' (frz σ z) s3; .nx r.1 r.2
      | none => .bad
    | none => .bad
  | .aidx o i op v z, σ, st => (evE cf o σ st).thn fun x s1 => (evE cf i σ s1).thn fun k s2 => match (place o x σ s2).map Pl.d with
    | none => .bad
    | some x2 => match op, idx0 x2 k with
      | .add, some (.int a) => (evE cf v σ s2).thn fun dv s3 => match dv with
        | .int b => match place o x (frz σ z) s3 with
          | some p => match stoD p.d k (.int (a + b)) with
            | some d' => let r := putAt p d' (frz σ z) s3; .nx r.1 r.2
            | none => .bad
          | none => .bad
        | _ => .bad
      | _, _ => .bad
  | .aug i op v z, σ, st => match getW σ i with
    | some (.int a) => (evE cf v σ st).thn fun y s1 => match op, y with
      | .add, .int b => .nx (setW (frz σ z) i (.val (.int (a + b)))) s1
      | _, _ => .bad
    | _ => .bad
  | .app o v z, σ, st => (evE cf o σ st).thn fun x s1 => if lsP (place o x σ s1) = false then .bad else (evE cf v σ s1).thn fun dv s2 => match place o x (frz σ z) s2 with
    | some p => match p.d with
      | .lst ds => if small ds && !(isRf dv && !p.isCell) then (let r := putAt p (.lst (ds ++ [dv])) (frz σ z) s2; .nx r.1 r.2) else .bad
      | _ => .bad
    | none => .bad
  | .ext o v z, σ, st => (evE cf o σ st).thn fun x s1 => if lsP (place o x σ s1) = false then .bad else (evE cf v σ s1).thn fun dv s2 => match place o x (frz σ z) s2, dv with
    | some p, .lst vs => match p.d with
      | .lst ds => if small (ds ++ vs) then (let r := putAt p (.lst (ds ++ vs)) (frz σ z) s2; .nx r.1 r.2) else .bad
      | _ => .bad
    | _, _ => .bad
  | .popA i o ix z, σ, st => (evE cf o σ st).thn fun x s1 => (evE cf ix σ s1).thn fun k s2 => match place o x (frz σ z) s2 with
    | some p => match popD p.d k with
      | some (d, d') => let r := putAt p d' (frz σ z) s2; .nx (setW r.1 i (.val d)) r.2
      | none => .bad
    | none => .bad
  | .popP j w o ix z, σ, st => (evE cf o σ st).thn fun x s1 => (evE cf ix σ s1).thn fun k s2 => match place o x (frz σ z) s2 with
    | some p => match popD p.d k with
      | some (d, d') => let r := putAt p d' (frz σ z) s2
        match (frz σ z)[j]? with
        | some (some (.own (.lst ds))) => if small ds && p.isnt j then .nx (setW r.1 j (.own (.lst (ds ++ [match w with
          | .non => d
          | w => .tup [w, d]])))) r.2 else .bad
        | _ => .bad
      | none => .bad
    | none => .bad
  | .ret e, σ, st => (evE cf e σ st).thn fun d s1 => .ret d s1
  | .ite c z a b, σ, st => (evE cf c σ st).thn fun x s1 => match x with
    | .bl true => evC lf cf a (frz σ z) s1
    | .bl false => evC lf cf b (frz σ z) s1
    | _ => .bad
  | .whl c z b, σ, st => whileL (fun σ' s => evE cf c σ' s) (fun σ' => frz σ' z) (fun σ' s => evC lf cf b σ' s) lf σ st
  | .for_ t it z b, σ, st => (evE cf it σ st).thn fun x s1 => match x with
    | .lst ds => forL t (fun σ' s => evC lf cf b σ' s) ds (frz σ z) s1
    | _ => .bad
  | .brk, σ, st => .brk σ st
  | .cnt, σ, st => .cnt σ st
  | .exs e z, σ, st => (evE cf e σ st).thn fun _ s1 => .nx (frz σ z) s1
  | .rse c, _, st => .exc c st

structure Fn where
  np : Nat
  ns : Nat
  body : C
def startW (n : Nat) (ds : List D) : Sg := ds.map (fun d => some (.val d)) ++ List.replicate (n - ds.length) none
def callF (tbl : List Fn) (lf : Nat) : Nat → CF
  | 0, _, _, _ => .bad
  | n + 1, f, ds, st => match tbl[f]? with
    | none => .bad
    | some fn => if Nat.beq ds.length fn.np then (match evC lf (callF tbl lf n) fn.body (startW fn.ns ds) st with
      | .ret d s => .ok d s
      | .nx _ s => .ok .non s
      | .exc c s => .exc c s
      | _ => .bad) else .bad
end PV
end
section
set_option Elab.async false
set_option linter.all false
set_option maxRecDepth 100000
/-! PvS1: how plain data lie in the abstract heap; states; steps. -/
namespace PV
open PySem PySem.Spec PyProof.Rows L2

mutual
def D.nkey : D → NestedKey
  | .non => .none
  | .bl b => .num (if b then 1 else 0)
  | .int i => .num i
  | .str x => .text x
  | .tup ds => .tup (D.nkeys ds)
  | .lst _ => .none
  | .dic _ _ => .none
  | .rf _ => .none
  | .scr _ => .none
def D.nkeys : List D → List NestedKey
  | [] => []
  | d :: ds => D.nkey d :: D.nkeys ds
end
/-- a dict whose keys are tuples, by its one object -/
def dxO (P : Program) (w : World) (a : Addr) (xs : List (NestedKey × Addr × Value)) : HO := .ext fun h =>
  (a == sysModules) = false ∧ xs.length ≤ sizeLine ∧ ∃ o es ep, h.get? a = some o ∧ o.ExactDict ∧ o.data = .dict es ep ∧ es.toList = xs.map (entryOfKey (nestedKind P w)) ∧ (xs.map (·.1)).Nodup
def keyD : Key → D
  | .inl i => .int i
  | .inr x => .str x
/-- o, at a, is a dict with the keys' values kv, the values vv; its keys as data: ks -/
def IsDic (P : Program) (w : World) (a : Addr) (o : HO) (kv vv : List V) (ks : List D) : Prop :=
  (∃ kvs : List (Key × V), o = .dK kvs ∧ kv = kvs.map (fun q => kV q.1) ∧ vv = kvs.map (·.2) ∧ ks = kvs.map (fun q => keyD q.1)) ∨
  (∃ xs : List (NestedKey × Addr × Value), o = dxO P w a xs ∧ kv = xs.map (fun q => V.ref q.2.1) ∧ Vals vv (xs.map (·.2.2)) ∧ xs.map (·.1) = D.nkeys ks ∧ ∀ k ∈ ks, D.kkind k = 3)

section
variable (P : Program) (w : World) (K : PySem.W.Frag) (F : Hp) (ρ : List Addr)
mutual
/-- the value v, in what is shared (F), is the datum d -/
inductive Rep : V → D → Prop
  | non : Rep .non .non
  | bl (b : Bool) : Rep (.bl b) (.bl b)
  | int (i : Int) : Rep (.int i) (.int i)
  | str (x : Str) : Rep (.str x) (.str x)
  | tup {a : Addr} {vs : List V} {ds : List D} : SqT K F a vs → Reps vs ds → Rep (.ref a) (.tup ds)
  | lst {a : Addr} {vs : List V} {ds : List D} : F a = some (.lst vs) → Reps vs ds → Rep (.ref a) (.lst ds)
  | scr {a : Addr} {vs : List V} {ds : List D} : SqL K F a vs → Reps vs ds → Rep (.ref a) (.scr ds)
  | dic {a : Addr} {o : HO} {kv vv : List V} {ks vs : List D} : F a = some o → IsDic P w a o kv vv ks → Reps kv ks → Reps vv vs → Rep (.ref a) (.dic ks vs)
  | rf {a : Addr} {n : Nat} : ρ[n]? = some a → Rep (.ref a) (.rf n)
inductive Reps : List V → List D → Prop
  | nil : Reps [] []
  | cons {v : V} {vs : List V} {d : D} {ds : List D} : Rep v d → Reps vs ds → Reps (v :: vs) (d :: ds)
end
/-- what stands at a, in H, is the list or dict d; what is in it is shared -/
def Top (H : Hp) (a : Addr) : D → Prop
  | .lst ds => ∃ vs, H a = some (.lst vs) ∧ Reps P w K F ρ vs ds
  | .dic ks us => ∃ o kv vv, H a = some o ∧ IsDic P w a o kv vv ks ∧ Reps P w K F ρ kv ks ∧ Reps P w K F ρ vv us
  | _ => False
end

def Fsub (F F' : Hp) : Prop := ∀ a o, F a = some o → F' a = some o
theorem Fsub.refl (F : Hp) : Fsub F F := fun _ _ h => h
theorem Fsub.trans {A B C : Hp} (h : Fsub A B) (h' : Fsub B C) : Fsub A C := fun a o q => h' a o (h a o q)
theorem Fsub.sqL {K : PySem.W.Frag} {F F' : Hp} {a : Addr} {xs : List V} (h : Fsub F F') (q : SqL K F a xs) : SqL K F' a xs := by
  rcases q with (q | ⟨o, q⟩) | q
  · exact .inl (.inl (h _ _ q))
  · exact .inl (.inr ⟨o, h _ _ q⟩)
  · exact .inr q
theorem Fsub.sqT {K : PySem.W.Frag} {F F' : Hp} {a : Addr} {xs : List V} (h : Fsub F F') (q : SqT K F a xs) : SqT K F' a xs := by
  rcases q with (q | ⟨o, q⟩) | q
  · exact .inl (.inl (h _ _ q))
  · exact .inl (.inr ⟨o, h _ _ q⟩)
  · exact .inr q
def Pre (ρ ρ' : List Addr) : Prop := ∀ (n : Nat) (a : Addr), ρ[n]? = some a → ρ'[n]? = some a
theorem Pre.refl (ρ : List Addr) : Pre ρ ρ := fun _ _ h => h
theorem Pre.trans {a b c : List Addr} (h : Pre a b) (h' : Pre b c) : Pre a c := fun n x q => h' n x (h n x q)

section
variable {P : Program} {w : World} {K : PySem.W.Frag} {F F' H H' : Hp} {ρ ρ' : List Addr}
mutual
theorem Rep.mono (hf : Fsub F F') (hr : Pre ρ ρ') : ∀ {v : V} {d : D}, Rep P w K F ρ v d → Rep P w K F' ρ' v d
  | _, _, .non => .non
  | _, _, .bl b => .bl b
  | _, _, .int i => .int i
  | _, _, .str x => .str x
  | _, _, .tup h t => .tup (hf.sqT h) (Reps.mono hf hr t)
  | _, _, .lst h t => .lst (hf _ _ h) (Reps.mono hf hr t)
  | _, _, .scr h t => .scr (hf.sqL h) (Reps.mono hf hr t)
  | _, _, .dic h i t u => .dic (hf _ _ h) i (Reps.mono hf hr t) (Reps.mono hf hr u)
  | _, _, .rf h => .rf (hr _ _ h)
theorem Reps.mono (hf : Fsub F F') (hr : Pre ρ ρ') : ∀ {vs : List V} {ds : List D}, Reps P w K F ρ vs ds → Reps P w K F' ρ' vs ds
  | _, _, .nil => .nil
  | _, _, .cons h t => .cons (Rep.mono hf hr h) (Reps.mono hf hr t)
end
theorem Top.mono {a : Addr} {d : D} (h : Top P w K F ρ H a d) (hf : Fsub F F') (hr : Pre ρ ρ') (e : ∀ o, H a = some o → H' a = some o) : Top P w K F' ρ' H' a d := by
  cases d with
  | lst ds => obtain ⟨vs, q, t⟩ := h; exact ⟨vs, e _ q, t.mono hf hr⟩
  | dic ks us => obtain ⟨o, kv, vv, q, i, t, u⟩ := h; exact ⟨o, kv, vv, e _ q, i, t.mono hf hr, u.mono hf hr⟩
  | _ => exact False.elim h
theorem Top.some {a : Addr} {d : D} (h : Top P w K F ρ H a d) : ∃ o, H a = some o := by
  cases d with
  | lst ds => obtain ⟨vs, q, _⟩ := h; exact ⟨_, q⟩
  | dic ks us => obtain ⟨o, _, _, q, _⟩ := h; exact ⟨_, q⟩
  | _ => exact False.elim h
/-- a list or dict that is frozen -/
theorem Top.rep {a : Addr} {d : D} (h : Top P w K F ρ H a d) (e : ∀ o, H a = .some o → F a = .some o) : Rep P w K F ρ (.ref a) d := by
  cases d with
  | lst ds => obtain ⟨vs, q, t⟩ := h; exact .lst (e _ q) t
  | dic ks us => obtain ⟨o, kv, vv, q, i, t, u⟩ := h; exact .dic (e _ q) i t u
  | _ => exact False.elim h
theorem Reps.length : ∀ {vs : List V} {ds : List D}, Reps P w K F ρ vs ds → vs.length = ds.length
  | _, _, .nil => rfl
  | _, _, .cons _ t => congrArg (· + 1) (Reps.length t)
theorem Reps.get : ∀ {vs : List V} {ds : List D} {i : Nat} {d : D}, Reps P w K F ρ vs ds → ds[i]? = some d → ∃ v, vs[i]? = some v ∧ Rep P w K F ρ v d
  | _, _, _, _, .nil, e => by simp at e
  | _, _, 0, _, .cons r _, e => by simp at e; subst e; exact ⟨_, rfl, r⟩
  | _, _, i + 1, d, .cons _ t, e => by
    obtain ⟨u, h1, h2⟩ := Reps.get (i := i) (d := d) t (by simpa using e)
    exact ⟨u, by simpa using h1, h2⟩
theorem Reps.append : ∀ {vs us : List V} {ds es : List D}, Reps P w K F ρ vs ds → Reps P w K F ρ us es → Reps P w K F ρ (vs ++ us) (ds ++ es)
  | _, _, _, _, .nil, s => s
  | _, _, _, _, .cons r t, s => .cons r (Reps.append t s)
theorem Reps.drop : ∀ {vs : List V} {ds : List D} (n : Nat), Reps P w K F ρ vs ds → Reps P w K F ρ (vs.drop n) (ds.drop n)
  | _, _, 0, r => r
  | _, _, _ + 1, .nil => .nil
  | _, _, n + 1, .cons _ t => Reps.drop n t
theorem Reps.take : ∀ {vs : List V} {ds : List D} (n : Nat), Reps P w K F ρ vs ds → Reps P w K F ρ (vs.take n) (ds.take n)
  | _, _, 0, _ => .nil
  | _, _, _ + 1, .nil => .nil
  | _, _, n + 1, .cons r t => .cons r (Reps.take n t)
theorem Reps.reverse : ∀ {vs : List V} {ds : List D}, Reps P w K F ρ vs ds → Reps P w K F ρ vs.reverse ds.reverse
  | _, _, .nil => .nil
  | _, _, .cons r t => by
    rw [List.reverse_cons, List.reverse_cons]
    exact Reps.append (Reps.reverse t) (.cons r .nil)
theorem Reps.set : ∀ {vs : List V} {ds : List D} {v : V} {d : D} (i : Nat), Reps P w K F ρ vs ds → Rep P w K F ρ v d → Reps P w K F ρ (vs.set i v) (ds.set i d)
  | _, _, _, _, _, .nil, _ => .nil
  | _, _, _, _, 0, .cons _ t, q => .cons q t
  | _, _, _, _, i + 1, .cons r t, q => .cons r (Reps.set i t q)
theorem Reps.dropLast {vs : List V} {ds : List D} (h : Reps P w K F ρ vs ds) : Reps P w K F ρ vs.dropLast ds.dropLast := by
  rw [List.dropLast_eq_take, List.dropLast_eq_take, h.length]
  exact h.take _
theorem Reps.eraseIdx : ∀ {vs : List V} {ds : List D} (i : Nat), Reps P w K F ρ vs ds → Reps P w K F ρ (vs.eraseIdx i) (ds.eraseIdx i)
  | _, _, _, .nil => .nil
  | _, _, 0, .cons _ t => t
  | _, _, i + 1, .cons r t => .cons r (Reps.eraseIdx i t)
theorem Reps.rep {vs : List V} {ds : List D} (h : Reps P w K F ρ vs ds) : ∀ n : Nat, Reps P w K F ρ (List.replicate n vs).flatten (PV.rep ds n)
  | 0 => .nil
  | n + 1 => by
    rw [List.replicate_succ, List.flatten_cons]
    exact Reps.append h (Reps.rep h n)
theorem Reps.bools : ∀ {vs : List V} {ds : List D} {bs : List Bool}, Reps P w K F ρ vs ds → boolsOf ds = some bs → vs = bs.map V.bl
  | _, _, _, .nil, e => by simp [boolsOf] at e; subst e; rfl
  | _, _, _, .cons (d := .bl b) r t, e => by
    cases r
    simp only [boolsOf, Option.map_eq_some_iff] at e
    obtain ⟨bs', e1, e2⟩ := e
    subst e2
    rw [List.map_cons, Reps.bools t e1]
  | _, _, _, .cons (d := .non) _ _, e => by simp [boolsOf] at e
  | _, _, _, .cons (d := .int _) _ _, e => by simp [boolsOf] at e
  | _, _, _, .cons (d := .str _) _ _, e => by simp [boolsOf] at e
  | _, _, _, .cons (d := .tup _) _ _, e => by simp [boolsOf] at e
  | _, _, _, .cons (d := .lst _) _ _, e => by simp [boolsOf] at e
  | _, _, _, .cons (d := .dic _ _) _ _, e => by simp [boolsOf] at e
  | _, _, _, .cons (d := .rf _) _ _, e => by simp [boolsOf] at e
  | _, _, _, .cons (d := .scr _) _ _, e => by simp [boolsOf] at e
theorem Reps.ints : ∀ {vs : List V} {ds : List D} {bs : List Int}, Reps P w K F ρ vs ds → intsOf ds = some bs → vs = bs.map V.int
  | _, _, _, .nil, e => by simp [intsOf] at e; subst e; rfl
  | _, _, _, .cons (d := .int b) r t, e => by
    cases r
    simp only [intsOf, Option.map_eq_some_iff] at e
    obtain ⟨bs', e1, e2⟩ := e
    subst e2
    rw [List.map_cons, Reps.ints t e1]
  | _, _, _, .cons (d := .non) _ _, e => by simp [intsOf] at e
  | _, _, _, .cons (d := .bl _) _ _, e => by simp [intsOf] at e
  | _, _, _, .cons (d := .str _) _ _, e => by simp [intsOf] at e
  | _, _, _, .cons (d := .tup _) _ _, e => by simp [intsOf] at e
  | _, _, _, .cons (d := .lst _) _ _, e => by simp [intsOf] at e
  | _, _, _, .cons (d := .dic _ _) _ _, e => by simp [intsOf] at e
  | _, _, _, .cons (d := .rf _) _ _, e => by simp [intsOf] at e
  | _, _, _, .cons (d := .scr _) _ _, e => by simp [intsOf] at e
end

/-! ### plain data as the library's data -/
mutual
def D.py : D → PyData
  | .non => .none
  | .bl b => .bool b
  | .int i => .int i
  | .str x => .str x
  | .tup ds => .tuple (D.pys ds)
  | .lst ds => .list (D.pys ds)
  | .dic _ _ => .none
  | .rf _ => .none
  | .scr ds => .list (D.pys ds)
def D.pys : List D → List PyData
  | [] => []
  | d :: ds => D.py d :: D.pys ds
end
mutual
theorem eqv_py : ∀ (a b : D) (n m : Nat), D.plain n a = true → D.plain m b = true → PyData.eqv a.py b.py = D.eqv a b
  | .tup xs, .tup ys, 0, _, h, _ => by simp [D.plain] at h
  | .tup xs, .tup ys, _ + 1, 0, _, h => by simp [D.plain] at h
  | .tup xs, .tup ys, n + 1, m + 1, h, h' => by
    rw [D.py, D.py, PyData.eqv, D.eqv]
    exact eqv_pys xs ys n m (by simpa [D.plain] using h) (by simpa [D.plain] using h')
  | .lst xs, .lst ys, 0, _, h, _ => by simp [D.plain] at h
  | .lst xs, .lst ys, _ + 1, 0, _, h => by simp [D.plain] at h
  | .lst xs, .lst ys, n + 1, m + 1, h, h' => by
    rw [D.py, D.py, PyData.eqv, D.eqv]
    exact eqv_pys xs ys n m (by simpa [D.plain] using h) (by simpa [D.plain] using h')
  | .non, b, n, m, _, h => by cases b <;> cases m <;> first | rfl | (simp [D.plain] at h; done)
  | .bl _, b, n, m, _, h => by cases b <;> cases m <;> first | rfl | (simp [D.plain] at h; done)
  | .int _, b, n, m, _, h => by cases b <;> cases m <;> first | rfl | (simp [D.plain] at h; done)
  | .str _, b, n, m, _, h => by cases b <;> cases m <;> first | rfl | (simp [D.plain] at h; done)
  | .tup _, .non, _, _, _, _ => rfl
  | .tup _, .bl _, _, _, _, _ => rfl
  | .tup _, .int _, _, _, _, _ => rfl
  | .tup _, .str _, _, _, _, _ => rfl
  | .tup _, .lst _, _, _, _, _ => rfl
  | .lst _, .non, _, _, _, _ => rfl
  | .lst _, .bl _, _, _, _, _ => rfl
  | .lst _, .int _, _, _, _, _ => rfl
  | .lst _, .str _, _, _, _, _ => rfl
  | .lst _, .tup _, _, _, _, _ => rfl
  | .dic _ _, _, n, _, h, _ => by cases n <;> simp [D.plain] at h
  | .rf _, _, n, _, h, _ => by cases n <;> simp [D.plain] at h
  | .scr _, _, n, _, h, _ => by cases n <;> simp [D.plain] at h
  | .tup _, .scr _, _, m, _, h => by cases m <;> simp [D.plain] at h
  | .lst _, .scr _, _, m, _, h => by cases m <;> simp [D.plain] at h
  | .tup _, .dic _ _, _, m, _, h => by cases m <;> simp [D.plain] at h
  | .tup _, .rf _, _, m, _, h => by cases m <;> simp [D.plain] at h
  | .lst _, .dic _ _, _, m, _, h => by cases m <;> simp [D.plain] at h
  | .lst _, .rf _, _, m, _, h => by cases m <;> simp [D.plain] at h
theorem eqv_pys : ∀ (a b : List D) (n m : Nat), D.plains n a = true → D.plains m b = true → PyData.eqvAll (D.pys a) (D.pys b) = D.eqvs a b
  | [], [], _, _, _, _ => rfl
  | [], _ :: _, _, _, _, _ => rfl
  | _ :: _, [], _, _, _, _ => rfl
  | a :: as, b :: bs, n, m, h, h' => by
    rw [D.pys, D.pys, PyData.eqvAll, D.eqvs]
    rw [D.plains, Bool.and_eq_true] at h h'
    rw [eqv_py a b n m h.1 h'.1, eqv_pys as bs n m h.2 h'.2]
end
mutual
theorem canLay_py : ∀ (a : D) (n : Nat), D.plain n a = true → a.py.canLay0 = true ∧ a.py.depth ≤ n
  | .non, _, _ => ⟨rfl, Nat.zero_le _⟩
  | .bl _, _, _ => ⟨rfl, Nat.zero_le _⟩
  | .int _, _, _ => ⟨rfl, Nat.zero_le _⟩
  | .str x, n, h => ⟨by cases n <;> (rw [D.plain] at h; rw [D.py, PyData.canLay0]; exact h), Nat.zero_le _⟩
  | .tup ds, 0, h => by simp [D.plain] at h
  | .lst ds, 0, h => by simp [D.plain] at h
  | .tup ds, n + 1, h => by
    have z := canLay_pys ds n (by simpa [D.plain] using h)
    rw [D.py, PyData.canLay0, PyData.depth]
    exact ⟨z.1, Nat.succ_le_succ z.2⟩
  | .lst ds, n + 1, h => by
    have z := canLay_pys ds n (by simpa [D.plain] using h)
    rw [D.py, PyData.canLay0, PyData.depth]
    exact ⟨z.1, Nat.succ_le_succ z.2⟩
  | .dic _ _, n, h => by cases n <;> simp [D.plain] at h
  | .rf _, n, h => by cases n <;> simp [D.plain] at h
  | .scr _, n, h => by cases n <;> simp [D.plain] at h
theorem canLay_pys : ∀ (a : List D) (n : Nat), D.plains n a = true → PyData.canLayAll0 (D.pys a) = true ∧ PyData.depthAll (D.pys a) ≤ n
  | [], _, _ => ⟨rfl, Nat.zero_le _⟩
  | d :: ds, n, h => by
    rw [D.plains, Bool.and_eq_true] at h
    have z := canLay_py d n h.1
    have y := canLay_pys ds n h.2
    rw [D.pys, PyData.canLayAll0, PyData.depthAll]
    exact ⟨by rw [z.1, y.1]; rfl, Nat.max_le.mpr ⟨z.2, y.2⟩⟩
end
end PV
end
section
set_option Elab.async false
set_option linter.all false
set_option maxRecDepth 100000
/-! PvS2: states (Sm), steps (Stp), freezing, new objects. -/
namespace PV
open PySem PySem.Spec PyProof.Rows L2

/-- what is shared stands in H; the changing objects -/
structure Rf (P : Program) (w : World) (K : PySem.W.Frag) (H F : Hp) (ρ : List Addr) (st : ST) : Prop where
  fs : Fsub F H
  rl : ρ.length = st.length
  nd : ρ.Nodup
  at_ : ∀ (n : Nat) (d : D), st[n]? = some d → ∃ a, ρ[n]? = some a ∧ F a = none ∧ Top P w K F ρ H a d
/-- what a step leaves -/
structure Stp (own : Addr → Prop) (H F : Hp) (ρ : List Addr) (H' F' : Hp) (ρ' : List Addr) : Prop where
  h : ∀ a o, H a = some o → a ∉ ρ → H' a = some o
  f : Fsub F F'
  n : ∀ a, F' a ≠ none → F a ≠ none ∨ H a = none ∨ own a
  r : Pre ρ ρ'
  q : ∀ a, a ∈ ρ' → a ∈ ρ ∨ H a = none
  d : ∀ a, H a ≠ none → H' a ≠ none
/-- an own slot's address -/
def Ow (σ : L2.St) (dσ : Sg) (a : Addr) : Prop := ∃ (i : Nat) (d : D), dσ[i]? = some (some (W.own d)) ∧ σ[i]? = some (some (V.ref a))
structure Sm (P : Program) (w : World) (K : PySem.W.Frag) (H F : Hp) (ρ : List Addr) (Z : Nat → Prop) (σ : L2.St) (dσ : Sg) (st : ST) : Prop where
  rf : Rf P w K H F ρ st
  len : dσ.length = σ.length
  val : ∀ (i : Nat) (d : D), dσ[i]? = some (some (W.val d)) → ∃ v, σ[i]? = some (some v) ∧ Rep P w K F ρ v d
  own : ∀ (i : Nat) (d : D), dσ[i]? = some (some (W.own d)) → ∃ a, σ[i]? = some (some (V.ref a)) ∧ Top P w K F ρ H a d ∧ a ∉ ρ ∧ (Z i ∨ F a = none)
  sep : ∀ (i j : Nat) (a : Addr) (d e : D), dσ[i]? = some (some (W.own d)) → dσ[j]? = some (some (W.own e)) → σ[i]? = some (some (V.ref a)) → σ[j]? = some (some (V.ref a)) → i = j

section
variable {P : Program} {w : World} {K : PySem.W.Frag} {H F H' F' H'' F'' : Hp} {ρ ρ' ρ'' : List Addr} {Z Z' : Nat → Prop} {σ : L2.St} {dσ : Sg} {st st' : ST} {own own' : Addr → Prop} {a p : Addr} {o : HO} {d : D}

theorem Stp.refl : Stp own H F ρ H F ρ := ⟨fun _ _ h _ => h, Fsub.refl F, fun _ h => .inl h, Pre.refl ρ, fun _ h => .inl h, fun _ h => h⟩
theorem Stp.trans (x : Stp own H F ρ H' F' ρ') (y : Stp own H' F' ρ' H'' F'' ρ'') : Stp own H F ρ H'' F'' ρ'' where
  h a o e n := y.h a o (x.h a o e n) fun z => by
    rcases x.q a z with z | z
    · exact n z
    · rw [e] at z; cases z
  f := x.f.trans y.f
  n a e := by
    rcases y.n a e with z | z | z
    · exact x.n a z
    · refine .inr (.inl ?_)
      cases q : H a with
      | none => rfl
      | some o => exact absurd z (x.d a (by rw [q]; simp))
    · exact .inr (.inr z)
  r := x.r.trans y.r
  q a e := by
    rcases y.q a e with z | z
    · exact x.q a z
    · refine .inr ?_
      cases q : H a with
      | none => rfl
      | some o => exact absurd z (x.d a (by rw [q]; simp))
  d a e := y.d a (x.d a e)
theorem Stp.wk (x : Stp own H F ρ H' F' ρ') (h : ∀ a, own a → own' a) : Stp own' H F ρ H' F' ρ' :=
  ⟨x.h, x.f, fun a e => (x.n a e).imp id (Or.imp id (h a)), x.r, x.q, x.d⟩
theorem Stp.none_ (x : Stp own H F ρ H' F' ρ') (h : H' a = none) : H a = none := by
  cases q : H a with
  | none => rfl
  | some o => exact absurd h (x.d a (by rw [q]; simp))

theorem Rf.notin (x : Rf P w K H F ρ st) (e : H a = none) : a ∉ ρ := fun h => by
  obtain ⟨n, hn⟩ := List.mem_iff_getElem?.mp h
  have hl : n < st.length := by rw [← x.rl]; exact (List.getElem?_eq_some_iff.mp hn).1
  obtain ⟨b, h1, _, h3⟩ := x.at_ n _ (List.getElem?_eq_getElem hl)
  rw [hn] at h1; cases h1
  obtain ⟨o, q⟩ := h3.some
  rw [q] at e; cases e
theorem Rf.fnone (x : Rf P w K H F ρ st) (e : H a = none) : F a = none := by
  cases q : F a with
  | none => rfl
  | some o => rw [x.fs a o q] at e; cases e
theorem Rf.free (x : Rf P w K H F ρ st) (e : a ∈ ρ) : F a = none := by
  obtain ⟨n, hn⟩ := List.mem_iff_getElem?.mp e
  have hl : n < st.length := by rw [← x.rl]; exact (List.getElem?_eq_some_iff.mp hn).1
  obtain ⟨b, h1, h2, _⟩ := x.at_ n _ (List.getElem?_eq_getElem hl)
  rw [hn] at h1; cases h1
  exact h2
theorem Rf.some (x : Rf P w K H F ρ st) (e : a ∈ ρ) : ∃ o, H a = .some o := by
  cases q : H a with
  | none => exact absurd e (x.notin q)
  | some o => exact ⟨o, rfl⟩
/-- a new object -/
theorem Rf.alloc (x : Rf P w K H F ρ st) (hp : H p = none) : Rf P w K (upd H p o) F ρ st := by
  have hs : ∀ a u, H a = .some u → upd H p o a = .some u := fun a u e => by rw [upd_ne (ne_of_none e hp)]; exact e
  refine ⟨fun a u e => hs a u (x.fs a u e), x.rl, x.nd, fun n d e => ?_⟩
  obtain ⟨a, h1, h2, h3⟩ := x.at_ n d e
  exact ⟨a, h1, h2, h3.mono (Fsub.refl F) (Pre.refl ρ) (hs a)⟩
theorem fsub_upd (h : F p = none) : Fsub F (upd F p o) := fun a u e => by rw [upd_ne (ne_of_none e h)]; exact e
theorem hsub_upd (h : H p = none) : ∀ a u, H a = .some u → upd H p o a = .some u := fun a u e => by rw [upd_ne (ne_of_none e h)]; exact e
/-- an object that nothing else knows is shared -/
theorem Rf.share (x : Rf P w K H F ρ st) (hp : H p = .some o) (hn : F p = none) (hr : p ∉ ρ) : Rf P w K H (upd F p o) ρ st := by
  have hf : Fsub F (upd F p o) := fsub_upd hn
  refine ⟨fun a u e => ?_, x.rl, x.nd, fun n d e => ?_⟩
  · by_cases ha : a = p
    · subst ha; rw [upd_same] at e; cases e; exact hp
    · rw [upd_ne ha] at e; exact x.fs a u e
  · obtain ⟨a, h1, h2, h3⟩ := x.at_ n d e
    have ha : a ≠ p := fun z => hr (by rw [← z]; exact List.mem_of_getElem? h1)
    exact ⟨a, h1, by rw [upd_ne ha]; exact h2, h3.mono hf (Pre.refl ρ) fun _ q => q⟩
theorem pre_snoc (ρ : List Addr) (p : Addr) : Pre ρ (ρ ++ [p]) := fun n a e => by
  have hl := (List.getElem?_eq_some_iff.mp e).1
  rw [List.getElem?_append_left hl]; exact e
/-- .. becomes a changing object -/
theorem Rf.newref (x : Rf P w K H F ρ st) (ht : Top P w K F ρ H p d) (hn : F p = none) (hr : p ∉ ρ) : Rf P w K H F (ρ ++ [p]) (st ++ [d]) := by
  refine ⟨x.fs, by simp [x.rl], ?_, fun n e he => ?_⟩
  · rw [List.nodup_append]
    refine ⟨x.nd, by simp, fun a ha b hb => ?_⟩
    have : b = p := by simpa using hb
    subst this
    exact fun z => hr (z ▸ ha)
  · by_cases hl : n < st.length
    · rw [List.getElem?_append_left hl] at he
      obtain ⟨a, h1, h2, h3⟩ := x.at_ n e he
      exact ⟨a, pre_snoc _ _ _ _ h1, h2, h3.mono (Fsub.refl F) (pre_snoc _ _) fun _ q => q⟩
    · have hl2 := (List.getElem?_eq_some_iff.mp he).1
      rw [List.length_append, List.length_singleton] at hl2
      have e0 : n = st.length := by omega
      subst e0
      rw [List.getElem?_append_right (Nat.le_refl _), Nat.sub_self] at he
      have : d = e := by simpa using he
      subst this
      refine ⟨p, ?_, hn, ht.mono (Fsub.refl F) (pre_snoc _ _) fun _ q => q⟩
      rw [← x.rl, List.getElem?_append_right (Nat.le_refl _), Nat.sub_self]
      rfl

theorem Stp.alloc (hp : H p = none) : Stp own H F ρ (upd H p o) F ρ :=
  ⟨fun a u e _ => hsub_upd hp a u e, Fsub.refl F, fun _ h => .inl h, Pre.refl ρ, fun _ h => .inl h, fun a e => by
    by_cases ha : a = p
    · subst ha; rw [upd_same]; simp
    · rw [upd_ne ha]; exact e⟩
/-- a new object, shared at once -/
theorem Stp.allocS (hp : H p = none) (hf : F p = none) : Stp own H F ρ (upd H p o) (upd F p o) ρ :=
  ⟨fun a u e _ => hsub_upd hp a u e, fsub_upd hf, fun a h => by
    by_cases ha : a = p
    · subst ha; exact .inr (.inl hp)
    · rw [upd_ne ha] at h; exact .inl h, Pre.refl ρ, fun _ h => .inl h, fun a e => by
    by_cases ha : a = p
    · subst ha; rw [upd_same]; simp
    · rw [upd_ne ha]; exact e⟩
theorem Stp.share (hf : F p = none) (ho : own p ∨ H p = none) : Stp own H F ρ H (upd F p o) ρ :=
  ⟨fun a u e _ => e, fsub_upd hf, fun a h => by
    by_cases ha : a = p
    · subst ha; exact .inr ho.symm
    · rw [upd_ne ha] at h; exact .inl h, Pre.refl ρ, fun _ h => .inl h, fun a e => e⟩

theorem Sm.wkZ (x : Sm P w K H F ρ Z σ dσ st) (h : ∀ i, Z i → Z' i) : Sm P w K H F ρ Z' σ dσ st :=
  ⟨x.rf, x.len, x.val, fun i d e => let ⟨a, h1, h2, h3, h4⟩ := x.own i d e; ⟨a, h1, h2, h3, h4.imp (h i) id⟩, x.sep⟩
/-- the state behind a step that is not the frame's own -/
theorem Sm.step (x : Sm P w K H F ρ Z σ dσ st) (s : Stp (fun _ => False) H F ρ H' F' ρ') (r : Rf P w K H' F' ρ' st') : Sm P w K H' F' ρ' Z σ dσ st' := by
  refine ⟨r, x.len, fun i d e => ?_, fun i d e => ?_, x.sep⟩
  · obtain ⟨v, h1, h2⟩ := x.val i d e
    exact ⟨v, h1, h2.mono s.f s.r⟩
  · obtain ⟨a, h1, h2, h3, h4⟩ := x.own i d e
    obtain ⟨u, q⟩ := h2.some
    refine ⟨a, h1, h2.mono s.f s.r fun o e => s.h a o e h3, fun z => ?_, h4.imp id fun z => ?_⟩
    · rcases s.q a z with z | z
      · exact h3 z
      · rw [q] at z; cases z
    · cases e' : F' a with
      | none => rfl
      | some o =>
        rcases s.n a (by rw [e']; simp) with z' | z' | z'
        · exact absurd z z'
        · rw [q] at z'; cases z'
        · exact z'.elim
theorem Sm.alloc (x : Sm P w K H F ρ Z σ dσ st) (hp : H p = none) : Sm P w K (upd H p o) F ρ Z σ dσ st :=
  x.step (Stp.alloc hp) (x.rf.alloc hp)
theorem Sm.allocS (x : Sm P w K H F ρ Z σ dσ st) (hp : H p = none) : Sm P w K (upd H p o) (upd F p o) ρ Z σ dσ st :=
  x.step (Stp.allocS hp (x.rf.fnone hp)) ((x.rf.alloc hp).share upd_same (x.rf.fnone hp) (x.rf.notin hp))
theorem Sm.notow (x : Sm P w K H F ρ Z σ dσ st) (hp : H p = none) : ¬ Ow σ dσ p := fun ⟨i, d, h1, h2⟩ => by
  obtain ⟨a, h3, h4, _⟩ := x.own i d h1
  rw [h2] at h3; cases h3
  obtain ⟨o, q⟩ := h4.some
  rw [q] at hp; cases hp
/-- an object that nothing else knows is shared -/
theorem Sm.share (x : Sm P w K H F ρ Z σ dσ st) (hp : H p = some o) (hn : F p = none) (hr : p ∉ ρ) (ho : ¬ Ow σ dσ p) : Sm P w K H (upd F p o) ρ Z σ dσ st := by
  refine ⟨x.rf.share hp hn hr, x.len, fun i d e => ?_, fun i d e => ?_, x.sep⟩
  · obtain ⟨v, h1, h2⟩ := x.val i d e
    exact ⟨v, h1, h2.mono (fsub_upd hn) (Pre.refl ρ)⟩
  · obtain ⟨a, h1, h2, h3, h4⟩ := x.own i d e
    have ha : a ≠ p := fun z => ho ⟨i, d, e, by rw [← z]; exact h1⟩
    exact ⟨a, h1, h2.mono (fsub_upd hn) (Pre.refl ρ) fun _ q => q, h3, h4.imp id fun z => by rw [upd_ne ha]; exact z⟩
/-- an own slot's object is shared (the slot is told by Z) -/
theorem Sm.freeze1 (x : Sm P w K H F ρ Z σ dσ st) {i : Nat} (e : dσ[i]? = some (some (W.own d))) :
    ∃ (a : Addr) (F' : Hp), σ[i]? = some (some (V.ref a)) ∧ Sm P w K H F' ρ (fun j => Z j ∨ j = i) σ dσ st ∧ Rep P w K F' ρ (.ref a) d ∧ Stp (Ow σ dσ) H F ρ H F' ρ := by
  obtain ⟨a, h1, h2, h3, h4⟩ := x.own i d e
  obtain ⟨o, q⟩ := h2.some
  cases hF : F a with
  | some u =>
    have hu := x.rf.fs a u hF
    exact ⟨a, F, h1, x.wkZ fun _ => .inl, h2.rep fun o' q' => by rw [hu] at q'; cases q'; exact hF, Stp.refl⟩
  | none =>
    refine ⟨a, upd F a o, h1, ⟨x.rf.share q hF h3, x.len, fun j d' e' => ?_, fun j d' e' => ?_, x.sep⟩, ?_, Stp.share hF (.inl ⟨i, d, e, h1⟩)⟩
    · obtain ⟨v, g1, g2⟩ := x.val j d' e'
      exact ⟨v, g1, g2.mono (fsub_upd hF) (Pre.refl ρ)⟩
    · obtain ⟨b, g1, g2, g3, g4⟩ := x.own j d' e'
      refine ⟨b, g1, g2.mono (fsub_upd hF) (Pre.refl ρ) fun _ q => q, g3, ?_⟩
      by_cases hj : j = i
      · exact .inl (.inr hj)
      · have hb : b ≠ a := fun z => hj (x.sep j i a d' d e' e (by rw [← z]; exact g1) h1)
        exact g4.imp .inl fun z => by rw [upd_ne hb]; exact z
    · exact (h2.mono (fsub_upd hF) (Pre.refl ρ) fun _ q => q).rep fun o' q' => by rw [q] at q'; cases q'; exact upd_same

/-! ### slots -/
theorem getW_eq : ∀ {dσ : Sg} {i : Nat} {d : D}, getW dσ i = some d → dσ[i]? = some (some (W.val d)) ∨ dσ[i]? = some (some (W.own d))
  | [], _, _, h => by simp [getW] at h
  | w :: _, 0, d, h => by
    cases w with
    | none => simp [getW] at h
    | some u =>
      cases u with
      | val x => simp only [getW, Option.some.injEq] at h; subst h; exact .inl rfl
      | own x => simp only [getW, Option.some.injEq] at h; subst h; exact .inr rfl
  | _ :: σ, i + 1, d, h => by
    simp only [List.getElem?_cons_succ]
    exact getW_eq (dσ := σ) (by simpa [getW] using h)
theorem setW_eq : ∀ (dσ : Sg) (i : Nat) (w : W), setW dσ i w = dσ.set i (some w)
  | [], _, _ => rfl
  | _ :: _, 0, _ => rfl
  | _ :: σ, i + 1, w => by rw [setW, List.set_cons_succ, setW_eq σ i w]
theorem wipeW_eq (dσ : Sg) : ∀ vs : List Nat, (wipeW dσ vs).length = dσ.length
  | [] => rfl
  | v :: vs => by unfold wipeW; rw [List.length_set, wipeW_eq dσ vs]
/-- what a slot is: shared, or an own one's address -/
def Pk (P : Program) (w : World) (K : PySem.W.Frag) (F : Hp) (ρ : List Addr) (σ : L2.St) (dσ : Sg) (v : V) (d : D) : Prop :=
  Rep P w K F ρ v d ∨ ∃ (i : Nat) (a : Addr), dσ[i]? = some (some (W.own d)) ∧ σ[i]? = some (some (V.ref a)) ∧ v = .ref a
theorem Sm.peek (x : Sm P w K H F ρ Z σ dσ st) {i : Nat} (h : getW dσ i = some d) : ∃ v, σ[i]? = some (some v) ∧ Pk P w K F ρ σ dσ v d := by
  rcases getW_eq h with e | e
  · obtain ⟨v, h1, h2⟩ := x.val i d e
    exact ⟨v, h1, .inl h2⟩
  · obtain ⟨a, h1, _⟩ := x.own i d e
    exact ⟨.ref a, h1, .inr ⟨i, a, e, h1, rfl⟩⟩
theorem Pk.mono {v : V} (h : Pk P w K F ρ σ dσ v d) (s : Stp own H F ρ H' F' ρ') : Pk P w K F' ρ' σ dσ v d := h.imp (fun q => q.mono s.f s.r) id
theorem Sm.get (x : Sm P w K H F ρ Z σ dσ st) {i : Nat} (h : getW dσ i = some d) :
    ∃ (v : V) (F' : Hp), σ[i]? = some (some v) ∧ Sm P w K H F' ρ (fun j => Z j ∨ j = i) σ dσ st ∧ Rep P w K F' ρ v d ∧ Stp (Ow σ dσ) H F ρ H F' ρ := by
  rcases getW_eq h with e | e
  · obtain ⟨v, h1, h2⟩ := x.val i d e
    exact ⟨v, F, h1, x.wkZ fun _ => .inl, h2, Stp.refl⟩
  · obtain ⟨a, F', h1, h2, h3, h4⟩ := x.freeze1 e
    exact ⟨.ref a, F', h1, h2, h3, h4⟩

/-! ### what is read: a list, a tuple, by its items -/
theorem Pk.lst {v : V} {ds : List D} (x : Sm P w K H F ρ Z σ dσ st) (h : Pk P w K F ρ σ dσ v (.lst ds)) : ∃ a vs, v = .ref a ∧ H a = some (.lst vs) ∧ Reps P w K F ρ vs ds := by
  rcases h with h | ⟨i, a, e, h1, rfl⟩
  · cases h with
    | lst q t => exact ⟨_, _, rfl, x.rf.fs _ _ q, t⟩
  · obtain ⟨b, g1, ⟨vs, g2, g3⟩, _⟩ := x.own i _ e
    rw [h1] at g1; cases g1
    exact ⟨a, vs, rfl, g2, g3⟩
theorem Pk.scr {v : V} {ds : List D} (x : Sm P w K H F ρ Z σ dσ st) (h : Pk P w K F ρ σ dσ v (.scr ds)) : ∃ a vs, v = .ref a ∧ SqL K H a vs ∧ Reps P w K F ρ vs ds := by
  rcases h with h | ⟨i, a, e, h1, rfl⟩
  · cases h with
    | scr q t => exact ⟨_, _, rfl, x.rf.fs.sqL q, t⟩
  · obtain ⟨b, _, g2, _⟩ := x.own i _ e
    exact g2.elim
theorem Pk.dic {v : V} {ks us : List D} (x : Sm P w K H F ρ Z σ dσ st) (h : Pk P w K F ρ σ dσ v (.dic ks us)) : ∃ a o kv vv, v = .ref a ∧ H a = some o ∧ IsDic P w a o kv vv ks ∧ Reps P w K F ρ kv ks ∧ Reps P w K F ρ vv us := by
  rcases h with h | ⟨i, a, e, h1, rfl⟩
  · cases h with
    | dic q i t u => exact ⟨_, _, _, _, rfl, x.rf.fs _ _ q, i, t, u⟩
  · obtain ⟨b, g1, ⟨o, kv, vv, g2, g3, g4, g5⟩, _⟩ := x.own i _ e
    rw [h1] at g1; cases g1
    exact ⟨a, o, kv, vv, rfl, g2, g3, g4, g5⟩
theorem Rep.lst_ {v : V} {ds : List D} (h : Rep P w K F ρ v (.lst ds)) : ∃ a vs, v = .ref a ∧ F a = some (.lst vs) ∧ Reps P w K F ρ vs ds := by
  cases h with
  | lst q t => exact ⟨_, _, rfl, q, t⟩
theorem Rep.tup_ {v : V} {ds : List D} (h : Rep P w K F ρ v (.tup ds)) : ∃ a vs, v = .ref a ∧ SqT K F a vs ∧ Reps P w K F ρ vs ds := by
  cases h with
  | tup q t => exact ⟨_, _, rfl, q, t⟩
theorem Pk.tup {v : V} {ds : List D} (x : Sm P w K H F ρ Z σ dσ st) (h : Pk P w K F ρ σ dσ v (.tup ds)) : ∃ a vs, v = .ref a ∧ SqT K H a vs ∧ Reps P w K F ρ vs ds := by
  rcases h with h | ⟨i, a, e, h1, rfl⟩
  · cases h with
    | tup q t => exact ⟨_, _, rfl, x.rf.fs.sqT q, t⟩
  · obtain ⟨b, _, g2, _⟩ := x.own i _ e
    exact g2.elim
theorem Pk.int {v : V} {i : Int} (x : Sm P w K H F ρ Z σ dσ st) (h : Pk P w K F ρ σ dσ v (.int i)) : v = .int i := by
  rcases h with h | ⟨i, a, e, h1, rfl⟩
  · cases h; rfl
  · obtain ⟨b, _, g2, _⟩ := x.own i _ e
    exact g2.elim
theorem Pk.rfv {v : V} {n : Nat} (x : Sm P w K H F ρ Z σ dσ st) (h : Pk P w K F ρ σ dσ v (.rf n)) : ∃ a, v = .ref a ∧ ρ[n]? = some a := by
  rcases h with h | ⟨i, a, e, h1, rfl⟩
  · cases h with
    | rf q => exact ⟨_, rfl, q⟩
  · obtain ⟨b, _, g2, _⟩ := x.own i _ e
    exact g2.elim
mutual
theorem Rep.dp (hf : Fsub F H) : ∀ (d : D) (v : V) (n : Nat), D.plain n d = true → Rep P w K F ρ v d → Dp K H v d.py
  | .non, _, _, _, h => by cases h; exact .non
  | .bl _, _, _, _, h => by cases h; exact .bl _
  | .int _, _, _, _, h => by cases h; exact .int _
  | .str _, _, _, _, h => by cases h; exact .str _
  | .tup ds, _, 0, hp, h => by simp [D.plain] at hp
  | .lst ds, _, 0, hp, h => by simp [D.plain] at hp
  | .tup ds, _, n + 1, hp, h => by
    cases h with
    | tup q t => exact .tup (hf.sqT q) (Reps.dp hf ds _ n (by simpa [D.plain] using hp) t)
  | .lst ds, _, n + 1, hp, h => by
    cases h with
    | lst q t => exact .lst (SqL.of (hf _ _ q)) (Reps.dp hf ds _ n (by simpa [D.plain] using hp) t)
  | .scr _, _, n, hp, h => by cases n <;> simp [D.plain] at hp
  | .dic _ _, _, n, hp, h => by cases n <;> simp [D.plain] at hp
  | .rf _, _, n, hp, h => by cases n <;> simp [D.plain] at hp
theorem Reps.dp (hf : Fsub F H) : ∀ (ds : List D) (vs : List V) (n : Nat), D.plains n ds = true → Reps P w K F ρ vs ds → DpAll K H vs (D.pys ds)
  | [], _, _, _, h => by cases h; exact .nil
  | d :: ds, _, n, hp, h => by
    rw [D.plains, Bool.and_eq_true] at hp
    cases h with
    | cons r t => exact .cons (Rep.dp hf d _ n hp.1 r) (Reps.dp hf ds _ n hp.2 t)
end
theorem Pk.dp {v : V} {n : Nat} (x : Sm P w K H F ρ Z σ dσ st) (hp : D.plain n d = true) (h : Pk P w K F ρ σ dσ v d) : Dp K H v d.py := by
  rcases h with h | ⟨i, a, e, h1, rfl⟩
  · exact h.dp x.rf.fs _ _ n hp
  · obtain ⟨b, g1, g2, _⟩ := x.own i _ e
    rw [h1] at g1; cases g1
    cases d with
    | lst ds =>
      cases n with
      | zero => simp [D.plain] at hp
      | succ n =>
        obtain ⟨vs, q, t⟩ := g2
        exact .lst (SqL.of q) (Reps.dp x.rf.fs ds vs n (by simpa [D.plain] using hp) t)
    | dic ks us => cases n <;> simp [D.plain] at hp
    | _ => exact g2.elim
end
end PV
end
section
set_option Elab.async false
set_option linter.all false
set_option maxRecDepth 100000
set_option maxHeartbeats 2000000
/-! PvS3: operators on plain data. -/
namespace PV
open PySem PySem.Spec PyProof.Rows L2

def opOf : Op → Operator
  | .add => .Add | .sub => .Sub | .mul => .Mult | .fdiv => .FloorDiv | .mod => .Mod | .pow => .Pow
def rBin (K : PySem.W.Frag) : Op → R2
  | .add => fun x y H Q => rI0 (fun i j => .int (i + j)) x y H Q ∨ (∃ i k, x = .int i ∧ y = .bl k ∧ Q (.int (i + b2i k)) H) ∨ rCat x y H Q ∨ rCatA K x y H Q ∨
      (∃ i j, x = .str i ∧ y = .str j ∧ i.length + j.length ≤ sizeLine ∧ Q (.str (i ++ j)) H)
  | .sub => rI0 fun i j => .int (i - j)
  | .mul => fun x y H Q => rI CMul (fun i j => .int (i * j)) x y H Q ∨ rI CMulW (fun i j => .int (i * j)) x y H Q ∨ rRep x y H Q
  | .fdiv => rI CDiv fun i j => .int (i / j)
  | .mod => rI (fun _ j => 0 < j) fun i j => .int (i % j)
  | .pow => rI CPow fun i j => .int (i ^ j.toNat)
theorem op_bin {X : Cx} : ∀ o, OpR X (binaryOp (opOf o)) (rBin X.K o)
  | .add => op_add.or (op_add_ib.or (op_cat.or (op_catA.or op_add_str)))
  | .sub => op_sub
  | .mul => op_mul.or (op_mulW.or op_rep)
  | .fdiv => op_fdiv
  | .mod => op_mod
  | .pow => op_pow

/-- what a result asks: for any value of the datum, at any later state -/
def Res (P : Program) (w : World) (K : PySem.W.Frag) (H F : Hp) (ρ : List Addr) (Z : Nat → Prop) (σ : L2.St) (dσ : Sg) (st : ST) (d : D) (Q : VK) : Prop :=
  ∀ v H' F', Sm P w K H' F' ρ Z σ dσ st → Stp (Ow σ dσ) H F ρ H' F' ρ → Rep P w K F' ρ v d → Q v H'

section
variable {P : Program} {w : World} {K : PySem.W.Frag} {H F : Hp} {ρ : List Addr} {Z : Nat → Prop} {σ : L2.St} {dσ : Sg} {st : ST} {d x y z : D} {v u : V} {Q : VK}

theorem Res.now (h : Res P w K H F ρ Z σ dσ st d Q) (s : Sm P w K H F ρ Z σ dσ st) (r : Rep P w K F ρ v d) : Q v H := h v H F s Stp.refl r
/-- a new tuple or list -/
theorem Res.lst {vs : List V} {ds : List D} (h : Res P w K H F ρ Z σ dσ st (.lst ds) Q) (s : Sm P w K H F ρ Z σ dσ st) (r : Reps P w K F ρ vs ds) :
    ∀ p, H p = none → Q (.ref p) (upd H p (.lst vs)) := fun p hp =>
  h _ _ _ (s.allocS hp) (Stp.allocS hp (s.rf.fnone hp)) (.lst upd_same (r.mono (fsub_upd (s.rf.fnone hp)) (Pre.refl ρ)))
theorem Res.tup {vs : List V} {ds : List D} (h : Res P w K H F ρ Z σ dσ st (.tup ds) Q) (s : Sm P w K H F ρ Z σ dσ st) (r : Reps P w K F ρ vs ds) :
    ∀ p, H p = none → Q (.ref p) (upd H p (.tup vs)) := fun p hp =>
  h _ _ _ (s.allocS hp) (Stp.allocS hp (s.rf.fnone hp)) (.tup (SqT.of upd_same) (r.mono (fsub_upd (s.rf.fnone hp)) (Pre.refl ρ)))

theorem small_le {α : Type} {xs : List α} (h : small xs = true) : xs.length ≤ sizeLine := by
  have h1 : xs.length ≤ lim := Nat.le_of_ble_eq_true h
  have h2 : lim ≤ sizeLine := by rw [sizeLine_eq]; decide
  omega
theorem lim_lt : lim < sizeLine := by rw [sizeLine_eq]; decide
theorem small_lt {α : Type} {xs : List α} (h : small xs = true) : xs.length < sizeLine := by
  have h1 : xs.length ≤ lim := Nat.le_of_ble_eq_true h
  have h2 := lim_lt
  omega
theorem log2_lt {n k : Nat} (h : n < 2 ^ k) (hk : 0 < k) : n.log2 < k := by
  by_cases h0 : n = 0
  · subst h0; simpa using hk
  · exact (Nat.log2_lt h0).mpr h
theorem lstOf_eq {ds : List D} (h : lstOf ds = some d) : d = .lst ds ∧ small ds = true := by
  unfold lstOf at h
  split at h
  · rename_i q; cases h; exact ⟨rfl, q⟩
  · cases h
theorem tupOf_eq {ds : List D} (h : tupOf ds = some d) : d = .tup ds ∧ small ds = true := by
  unfold tupOf at h
  split at h
  · rename_i q; cases h; exact ⟨rfl, q⟩
  · cases h

theorem bin_ok (o : Op) (e : opD o x y = some d) (s : Sm P w K H F ρ Z σ dσ st) (rx : Rep P w K F ρ v x) (ry : Rep P w K F ρ u y) (h : Res P w K H F ρ Z σ dσ st d Q) : rBin K o v u H Q := by
  unfold opD at e
  split at e
  · cases rx; cases ry; cases e
    exact .inl ⟨_, _, rfl, rfl, h.now s (.int _)⟩
  · cases rx; cases ry; cases e
    rename_i i b
    exact .inr (.inl ⟨_, _, rfl, rfl, h.now s (by cases b <;> exact .int _)⟩)
  · cases rx with
    | lst qx tx =>
      cases ry with
      | lst qy ty =>
        obtain ⟨rfl, hs⟩ := lstOf_eq e
        have z := (tx.append ty).length
        have z2 := small_le hs
        refine .inr (.inr (.inl ⟨_, _, _, _, rfl, rfl, s.rf.fs _ _ qx, s.rf.fs _ _ qy, ?_, h.lst s (tx.append ty)⟩))
        rw [List.length_append] at z
        omega
  · cases rx with
    | tup qx tx =>
      cases ry with
      | tup qy ty =>
        obtain ⟨rfl, hs⟩ := tupOf_eq e
        have z := (tx.append ty).length
        have z2 := small_le hs
        rw [List.length_append] at z
        refine .inr (.inr (.inr (.inl ⟨_, _, _, _, rfl, rfl, s.rf.fs.sqT qx, s.rf.fs.sqT qy, by omega, fun e0 => ?_, fun _ e0 => ?_, fun _ _ => h.tup s (tx.append ty)⟩)))
        · subst e0
          cases tx
          exact h.now s (.tup qy ty)
        · subst e0
          cases ty
          exact h.now s (by rw [List.append_nil]; exact .tup qx tx)
  · cases rx; cases ry
    split at e
    · rename_i q
      cases e
      have h1 := Nat.le_of_ble_eq_true q
      have h2 := lim_lt
      exact .inr (.inr (.inr (.inr ⟨_, _, rfl, rfl, by omega, h.now s (.str _)⟩)))
    · cases e
  · cases rx; cases ry; cases e
    exact ⟨_, _, rfl, rfl, h.now s (.int _)⟩
  · cases rx; cases ry
    split at e
    · rename_i i j q
      cases e
      simp only [Bool.or_eq_true, Bool.and_eq_true] at q
      have b64 : big64 = 2 ^ 64 := by decide
      rcases q with (q | q) | q
      · simp only [fits64, Bool.and_eq_true, decide_eq_true_eq, b64] at q
        exact .inl ⟨_, _, rfl, rfl, .inl q, h.now s (.int _)⟩
      · simp only [fits64, Bool.and_eq_true, decide_eq_true_eq, b64] at q
        exact .inl ⟨_, _, rfl, rfl, .inr q, h.now s (.int _)⟩
      · simp only [wide, decide_eq_true_eq] at q
        refine .inr (.inl ⟨_, _, rfl, rfl, ?_, h.now s (.int _)⟩)
        have h1 := log2_lt q.1 (by decide)
        have h2 := log2_lt q.2 (by decide)
        show i.natAbs.log2 + j.natAbs.log2 < 1000000
        omega
    · cases e
  · cases rx with
    | lst qx tx =>
      cases ry
      split at e
      · rename_i n q
        cases e
        simp only [Bool.and_eq_true, decide_eq_true_eq] at q
        obtain ⟨⟨q1, q2⟩, q3⟩ := q
        have h1 := Nat.le_of_ble_eq_true q3
        have h2 := lim_lt
        have z := tx.length
        refine .inr (.inr ⟨_, _, _, rfl, rfl, s.rf.fs _ _ qx, by omega, by omega, by rw [z]; omega, h.lst s (tx.rep _)⟩)
      · cases e
  · cases rx; cases ry
    split at e
    · rename_i q
      cases e
      simp only [Bool.and_eq_true, decide_eq_true_eq] at q
      exact ⟨_, _, rfl, rfl, q, h.now s (.int _)⟩
    · cases e
  · cases rx; cases ry
    split at e
    · rename_i q
      cases e
      simp only [decide_eq_true_eq] at q
      exact ⟨_, _, rfl, rfl, q, h.now s (.int _)⟩
    · cases e
  · cases rx; cases ry
    split at e
    · rename_i q
      cases e
      simp only [fits64, Bool.and_eq_true, decide_eq_true_eq] at q
      have b64 : big64 = 2 ^ 64 := by decide
      rw [b64] at q
      obtain ⟨⟨q1, q2⟩, q3⟩ := q
      exact ⟨_, _, rfl, rfl, ⟨q1, by omega, by omega⟩, h.now s (.int _)⟩
    · cases e
  · cases e
end
end PV
end
section
set_option Elab.async false
set_option linter.all false
set_option maxRecDepth 100000
set_option maxHeartbeats 2000000
/-! PvS3b: comparisons, subscripts, built-ins on plain data. -/
namespace PV
open PySem PySem.Spec PyProof.Rows L2

/-- v is to be read as d: it is shared, or the list or dict d stands there -/
def Sees (P : Program) (w : World) (K : PySem.W.Frag) (H F : Hp) (ρ : List Addr) (v : V) (d : D) : Prop := Rep P w K F ρ v d ∨ ∃ a, v = .ref a ∧ Top P w K F ρ H a d
section
variable {P : Program} {w : World} {K : PySem.W.Frag} {H F : Hp} {ρ : List Addr} {Z : Nat → Prop} {σ : L2.St} {dσ : Sg} {st : ST} {d x y z : D} {v u : V} {Q : VK}
theorem Pk.sees (s : Sm P w K H F ρ Z σ dσ st) (h : Pk P w K F ρ σ dσ v d) : Sees P w K H F ρ v d := by
  rcases h with h | ⟨i, a, e, h1, rfl⟩
  · exact .inl h
  · obtain ⟨b, g1, g2, _⟩ := s.own i _ e
    rw [h1] at g1; cases g1
    exact .inr ⟨a, rfl, g2⟩
theorem Pk.deref (s : Sm P w K H F ρ Z σ dσ st) (h : Pk P w K F ρ σ dσ v x) (e : deref st x = some d) : Sees P w K H F ρ v d := by
  cases x with
  | rf n =>
    obtain ⟨a, rfl, h1⟩ := h.rfv s
    obtain ⟨b, h2, _, h3⟩ := s.rf.at_ n d e
    rw [h1] at h2; cases h2
    exact .inr ⟨a, rfl, h3⟩
  | _ => cases e; exact h.sees s
theorem Sees.lst {ds : List D} (hf : Fsub F H) (h : Sees P w K H F ρ v (.lst ds)) : ∃ a vs, v = .ref a ∧ H a = some (.lst vs) ∧ Reps P w K F ρ vs ds := by
  rcases h with h | ⟨a, rfl, vs, h1, h2⟩
  · cases h with
    | lst q t => exact ⟨_, _, rfl, hf _ _ q, t⟩
  · exact ⟨a, vs, rfl, h1, h2⟩
theorem Sees.tup {ds : List D} (hf : Fsub F H) (h : Sees P w K H F ρ v (.tup ds)) : ∃ a vs, v = .ref a ∧ SqT K H a vs ∧ Reps P w K F ρ vs ds := by
  rcases h with h | ⟨a, _, h⟩
  · cases h with
    | tup q t => exact ⟨_, _, rfl, hf.sqT q, t⟩
  · exact h.elim
theorem Sees.scr {ds : List D} (hf : Fsub F H) (h : Sees P w K H F ρ v (.scr ds)) : ∃ a vs, v = .ref a ∧ SqL K H a vs ∧ Reps P w K F ρ vs ds := by
  rcases h with h | ⟨a, _, h⟩
  · cases h with
    | scr q t => exact ⟨_, _, rfl, hf.sqL q, t⟩
  · exact h.elim
theorem Sees.dic {ks us : List D} (hf : Fsub F H) (h : Sees P w K H F ρ v (.dic ks us)) : ∃ a o kv vv, v = .ref a ∧ H a = some o ∧ IsDic P w a o kv vv ks ∧ Reps P w K F ρ kv ks ∧ Reps P w K F ρ vv us := by
  rcases h with h | ⟨a, rfl, o, kv, vv, g2, g3, g4, g5⟩
  · cases h with
    | dic q i t u => exact ⟨_, _, _, _, rfl, hf _ _ q, i, t, u⟩
  · exact ⟨a, o, kv, vv, rfl, g2, g3, g4, g5⟩
theorem Sees.rep (h : Sees P w K H F ρ v d) (n : ∀ ds, d ≠ .lst ds) (m : ∀ ks us, d ≠ .dic ks us) : Rep P w K F ρ v d := by
  rcases h with h | ⟨a, rfl, h⟩
  · exact h
  · cases d with
    | lst ds => exact absurd rfl (n ds)
    | dic ks us => exact absurd rfl (m ks us)
    | _ => exact h.elim
theorem Sees.dp {n : Nat} (hf : Fsub F H) (hp : D.plain n d = true) (h : Sees P w K H F ρ v d) : Dp K H v d.py := by
  rcases h with h | ⟨a, rfl, g2⟩
  · exact h.dp hf _ _ n hp
  · cases d with
    | lst ds =>
      cases n with
      | zero => simp [D.plain] at hp
      | succ n =>
        obtain ⟨vs, q, t⟩ := g2
        exact .lst (SqL.of q) (Reps.dp hf ds vs n (by simpa [D.plain] using hp) t)
    | dic ks us => cases n <;> simp [D.plain] at hp
    | _ => exact g2.elim
theorem shaped_py {n : Nat} (hn : n ≤ 64) (h : D.plain n d = true) : SeqAt.shaped d.py = true := by
  have z := canLay_py d n h
  unfold SeqAt.shaped
  rw [Bool.and_eq_true]
  exact ⟨z.1, decide_eq_true (Nat.le_trans z.2 hn)⟩
theorem shaped_pys {n : Nat} {ds : List D} (hn : n + 1 ≤ 64) (h : D.plains n ds = true) : SeqAt.shaped (.list (D.pys ds)) = true := by
  have z := canLay_pys ds n h
  unfold SeqAt.shaped
  rw [Bool.and_eq_true, PyData.canLay0, PyData.depth]
  exact ⟨z.1, decide_eq_true (Nat.le_trans (Nat.succ_le_succ z.2) hn)⟩

def cpOf : Cp → CmpOp
  | .eq => .Eq | .ne => .NotEq | .lt => .Lt | .le => .LtE | .gt => .Gt | .ge => .GtE | .isin => .In | .notin => .NotIn | .is_ => .Is | .isnot => .IsNot
def rIs : R2 := fun x y H Q => y = .non ∧ Q (.bl (decide (x = .non))) H
def rIsnt : R2 := fun x y H Q => y = .non ∧ Q (.bl (!decide (x = .non))) H
def rCmp (K : PySem.W.Frag) : Cp → R2
  | .eq => rEqD K
  | .ne => rNeD K
  | .lt => rI0 fun i j => .bl (decide (i < j))
  | .le => rI0 fun i j => .bl (decide (i ≤ j))
  | .gt => rI0 fun i j => .bl (decide (j < i))
  | .ge => rI0 fun i j => .bl (decide (j ≤ i))
  | .isin => fun x y H Q => rInD K x y H Q ∨ rIn K false x y H Q
  | .notin => fun x y H Q => rNotInD K x y H Q ∨ rIn K true x y H Q
  | .is_ => fun x y H Q => rIs x y H Q ∨ rIsB x y H Q
  | .isnot => fun x y H Q => rIsnt x y H Q ∨ rNotB x y H Q
theorem op_cmp {X : Cx} (hu : X.A.units + 65 < cLine) : ∀ o, OpR X (compareOp (cpOf o)) (rCmp X.K o)
  | .eq => op_eqD (by omega)
  | .ne => op_neD (by omega)
  | .lt => op_lt
  | .le => op_le
  | .gt => op_gt
  | .ge => op_ge
  | .isin => (op_inD hu).or op_in_seq
  | .notin => (op_notInD hu).or op_notIn_seq
  | .is_ => op_isN.or op_isBl
  | .isnot => op_notN.or op_notBl

theorem eqD_eq {b : Bool} (e : eqD x y = some b) : (∃ xs, x = .scr xs ∧ y = .lst [] ∧ D.plains 60 xs = true ∧ b = xs.isEmpty) ∨ (D.plain 60 x = true ∧ D.plain 60 y = true ∧ b = D.eqv x y) := by
  unfold eqD at e
  split at e
  · split at e
    · rename_i xs q; cases e; exact .inl ⟨xs, rfl, rfl, q, rfl⟩
    · cases e
  · split at e
    · rename_i q
      cases e
      rw [Bool.and_eq_true] at q
      exact .inr ⟨q.1, q.2, rfl⟩
    · cases e
theorem eq_ok {b : Bool} (e : eqD x y = some b) (hf : Fsub F H) (rx : Sees P w K H F ρ v x) (ry : Sees P w K H F ρ u y) : ∃ p q, Dp K H v p ∧ Dp K H u q ∧ SeqAt.shaped p = true ∧ SeqAt.shaped q = true ∧ PyData.eqv p q = b := by
  rcases eqD_eq e with ⟨xs, rfl, rfl, hp, rfl⟩ | ⟨h1, h2, rfl⟩
  · obtain ⟨a, vs, rfl, h1, h2⟩ := rx.scr hf
    obtain ⟨c, us, rfl, g1, g2⟩ := ry.lst hf
    cases g2
    refine ⟨.list (D.pys xs), .list [], .lst h1 (Reps.dp hf xs vs 60 hp h2), .lst (SqL.of g1) .nil, shaped_pys (by decide) hp, by decide, ?_⟩
    cases xs <;> rfl
  · exact ⟨_, _, rx.dp hf h1, ry.dp hf h2, shaped_py (by decide) h1, shaped_py (by decide) h2, eqv_py x y 60 60 h1 h2⟩
theorem any_py : ∀ {ds : List D} {n : Nat}, D.plains n ds = true → D.plain n x = true → ((D.pys ds).any fun z => PyData.eqv z x.py) = ds.any fun d => D.eqv d x
  | [], _, _, _ => rfl
  | d :: ds, n, h, h' => by
    rw [D.plains, Bool.and_eq_true] at h
    rw [D.pys, List.any_cons, List.any_cons, eqv_py d x n n h.1 h', any_py h.2 h']
theorem flat_v (r : Rep P w K F ρ v d) (h : flatD d = true) : flatV v = true ∧ ∀ e u, Rep P w K F ρ u e → flatD e = true → eqV v u = D.eqv d e := by
  cases r with
  | non => exact ⟨rfl, fun e u r' h' => by cases r' <;> first | rfl | cases h'⟩
  | bl b => exact ⟨rfl, fun e u r' h' => by cases r' <;> first | rfl | cases h'⟩
  | int i => exact ⟨rfl, fun e u r' h' => by cases r' <;> first | rfl | cases h'⟩
  | str i => exact ⟨rfl, fun e u r' h' => by cases r' <;> first | rfl | cases h'⟩
  | _ => cases h
theorem flat_vs (rx : Rep P w K F ρ v x) (hx : flatD x = true) : ∀ {vs : List V} {ds : List D}, Reps P w K F ρ vs ds → ds.all flatD = true → vs.all flatV = true ∧ inV v vs = ds.any fun d => D.eqv d x
  | _, _, .nil, _ => ⟨rfl, rfl⟩
  | _, _, .cons r t, h => by
    rw [List.all_cons, Bool.and_eq_true] at h
    obtain ⟨h1, h2⟩ := flat_v r h.1
    obtain ⟨h3, h4⟩ := flat_vs rx hx t h.2
    unfold inV at h4 ⊢
    rw [List.all_cons, List.any_cons, List.any_cons, h1, h3, h4, h2 _ _ rx hx]
    exact ⟨rfl, rfl⟩
theorem cmp_ok (o : Cp) {b : Bool} (e : cpD o x y = some b) (hf : Fsub F H) (rx : Sees P w K H F ρ v x) (ry : Sees P w K H F ρ u y) (h : Q (.bl b) H) : rCmp K o v u H Q := by
  have inok : ∀ {b : Bool}, inD x y = some b → (∃ p ds, Dp K H v p ∧ Dp K H u (.list ds) ∧ SeqAt.shaped p = true ∧ SeqAt.shaped (.list ds) = true ∧ (ds.any fun z => PyData.eqv z p) = b) ∨
      (∃ p xs, u = .ref p ∧ (SqL K H p xs ∨ SqT K H p xs) ∧ flatV v = true ∧ xs.all flatV = true ∧ inV v xs = b) := fun {b} e => by
    cases y with
    | lst ds =>
      simp only [inD] at e
      split at e
      · rename_i q
        cases e
        rw [Bool.and_eq_true] at q
        obtain ⟨c, us, rfl, g1, g2⟩ := ry.lst hf
        exact .inl ⟨_, _, rx.dp hf q.1, .lst (SqL.of g1) (Reps.dp hf ds us 60 q.2 g2), shaped_py (by decide) q.1, shaped_pys (by decide) q.2, any_py q.2 q.1⟩
      · cases e
    | tup ds =>
      simp only [inD] at e
      split at e
      · rename_i q
        cases e
        rw [Bool.and_eq_true] at q
        obtain ⟨c, us, rfl, g1, g2⟩ := ry.tup hf
        have rx' : Rep P w K F ρ v x := rx.rep (fun ds z => by subst z; cases q.1) (fun ks us z => by subst z; cases q.1)
        obtain ⟨h1, h2⟩ := flat_vs rx' q.1 g2 q.2
        exact .inr ⟨c, us, rfl, .inr g1, (flat_v rx' q.1).1, h1, h2⟩
      · cases e
    | dic ks us => cases e
    | _ => cases e
  cases o with
  | eq =>
    obtain ⟨p, q, h1, h2, h3, h4, h5⟩ := eq_ok e hf rx ry
    exact ⟨p, q, h1, h2, h3, h4, by rw [h5]; exact h⟩
  | ne =>
    simp only [cpD, Option.map_eq_some_iff] at e
    obtain ⟨c, e, rfl⟩ := e
    obtain ⟨p, q, h1, h2, h3, h4, h5⟩ := eq_ok e hf rx ry
    exact ⟨p, q, h1, h2, h3, h4, by rw [h5]; exact h⟩
  | lt =>
    simp only [cpD] at e
    unfold ltD at e
    split at e
    · cases e
      have r1 := rx.rep (by intro _ z; cases z) (by intro _ _ z; cases z)
      have r2 := ry.rep (by intro _ z; cases z) (by intro _ _ z; cases z)
      cases r1; cases r2
      exact ⟨_, _, rfl, rfl, h⟩
    · cases e
  | le =>
    unfold cpD at e
    split at e <;> first
      | (rename_i z; cases z; done)
      | (cases e
         have r1 := rx.rep (by intro _ z; cases z) (by intro _ _ z; cases z)
         have r2 := ry.rep (by intro _ z; cases z) (by intro _ _ z; cases z)
         cases r1; cases r2
         exact ⟨_, _, rfl, rfl, h⟩)
      | (simp_all; done)
  | gt =>
    unfold cpD at e
    split at e <;> first
      | (rename_i z; cases z; done)
      | (cases e
         have r1 := rx.rep (by intro _ z; cases z) (by intro _ _ z; cases z)
         have r2 := ry.rep (by intro _ z; cases z) (by intro _ _ z; cases z)
         cases r1; cases r2
         exact ⟨_, _, rfl, rfl, h⟩)
      | (simp_all; done)
  | ge =>
    unfold cpD at e
    split at e <;> first
      | (rename_i z; cases z; done)
      | (cases e
         have r1 := rx.rep (by intro _ z; cases z) (by intro _ _ z; cases z)
         have r2 := ry.rep (by intro _ z; cases z) (by intro _ _ z; cases z)
         cases r1; cases r2
         exact ⟨_, _, rfl, rfl, h⟩)
      | (simp_all; done)
  | isin =>
    rcases inok e with ⟨p, ds, h1, h2, h3, h4, h5⟩ | ⟨p, xs, h1, h2, h3, h4, h5⟩
    · exact .inl ⟨p, ds, h1, h2, h3, h4, by rw [h5]; exact h⟩
    · exact .inr ⟨p, xs, h1, h2, h3, h4, by rw [if_neg Bool.false_ne_true, h5]; exact h⟩
  | notin =>
    simp only [cpD, Option.map_eq_some_iff] at e
    obtain ⟨c, e, rfl⟩ := e
    rcases inok e with ⟨p, ds, h1, h2, h3, h4, h5⟩ | ⟨p, xs, h1, h2, h3, h4, h5⟩
    · exact .inl ⟨p, ds, h1, h2, h3, h4, by rw [h5]; exact h⟩
    · exact .inr ⟨p, xs, h1, h2, h3, h4, by rw [if_pos rfl, h5]; exact h⟩
  | is_ =>
    have isok : ∀ {b : Bool}, isD x y = some b → (u = .non ∧ decide (v = .non) = b) ∨ ∃ i j : Bool, v = .bl i ∧ u = .bl j ∧ decide (i = j) = b := fun {b} e => by
      unfold isD at e
      split at e
      · cases e
        have r2 := ry.rep (by intro _ z; cases z) (by intro _ _ z; cases z)
        cases r2
        refine .inl ⟨rfl, ?_⟩
        rcases rx with r | ⟨a, rfl, t⟩
        · cases r <;> rfl
        · cases x <;> first | rfl | exact t.elim
      · cases e
        have r1 := rx.rep (by intro _ z; cases z) (by intro _ _ z; cases z)
        have r2 := ry.rep (by intro _ z; cases z) (by intro _ _ z; cases z)
        cases r1; cases r2
        exact .inr ⟨_, _, rfl, rfl, rfl⟩
      · cases e
    rcases isok e with ⟨h1, h2⟩ | ⟨i, j, h1, h2, h3⟩
    · exact .inl ⟨h1, by rw [h2]; exact h⟩
    · exact .inr ⟨i, j, h1, h2, by rw [h3]; exact h⟩
  | isnot =>
    have isok : ∀ {b : Bool}, isD x y = some b → (u = .non ∧ decide (v = .non) = b) ∨ ∃ i j : Bool, v = .bl i ∧ u = .bl j ∧ decide (i = j) = b := fun {b} e => by
      unfold isD at e
      split at e
      · cases e
        have r2 := ry.rep (by intro _ z; cases z) (by intro _ _ z; cases z)
        cases r2
        refine .inl ⟨rfl, ?_⟩
        rcases rx with r | ⟨a, rfl, t⟩
        · cases r <;> rfl
        · cases x <;> first | rfl | exact t.elim
      · cases e
        have r1 := rx.rep (by intro _ z; cases z) (by intro _ _ z; cases z)
        have r2 := ry.rep (by intro _ z; cases z) (by intro _ _ z; cases z)
        cases r1; cases r2
        exact .inr ⟨_, _, rfl, rfl, rfl⟩
      · cases e
    simp only [cpD, Option.map_eq_some_iff] at e
    obtain ⟨c, e, rfl⟩ := e
    rcases isok e with ⟨h1, h2⟩ | ⟨i, j, h1, h2, h3⟩
    · exact .inl ⟨h1, by rw [h2]; exact h⟩
    · exact .inr ⟨i, j, h1, h2, by rw [h3]; exact h⟩

/-! ### subscripts -/
theorem Reps.atI : ∀ {vs : List V} {ds : List D} {i : Int}, Reps P w K F ρ vs ds → atD ds i = some d → ∃ v, L2.atI vs i = some v ∧ Rep P w K F ρ v d := fun {vs ds i} r e => by
  unfold atD L2.atI at e
  unfold L2.atI
  rw [r.length]
  cases q : ixN ds.length i with
  | none => rw [q] at e; cases e
  | some j =>
    rw [q] at e
    obtain ⟨v, h1, h2⟩ := r.get (i := j) e
    exact ⟨v, h1, h2⟩
theorem idx_ok (e : idxD x y = some d) (hf : Fsub F H) (rx : Sees P w K H F ρ v x) (ry : Rep P w K F ρ u y) (h : ∀ v, Rep P w K F ρ v d → Q v H) : rIx K v u H Q := by
  unfold idxD at e
  split at e
  · obtain ⟨a, vs, rfl, h1, h2⟩ := rx.lst hf
    cases ry
    obtain ⟨v, h3, h4⟩ := h2.atI e
    exact .inl ⟨_, _, _, _, rfl, rfl, SqL.of h1, h3, h v h4⟩
  · obtain ⟨a, vs, rfl, h1, h2⟩ := rx.scr hf
    cases ry
    obtain ⟨v, h3, h4⟩ := h2.atI e
    exact .inl ⟨_, _, _, _, rfl, rfl, h1, h3, h v h4⟩
  · obtain ⟨a, vs, rfl, h1, h2⟩ := rx.tup hf
    cases ry
    obtain ⟨v, h3, h4⟩ := h2.atI e
    exact .inr (.inl ⟨_, _, _, _, rfl, rfl, h1, h3, h v h4⟩)
  · cases e
  · cases e
def rSl (K : PySem.W.Frag) : V → Option Int → Option Int → Hp → VK → Prop := fun x lo hi H Q => rSlL K x lo hi H Q ∨ rSlA K x lo hi H Q
theorem sl_all {X : Cx} : SlR X (rSl X.K) := sl_list.or sl_tupA
theorem Reps.cut {vs : List V} {ds : List D} (lo hi : Option Int) (r : Reps P w K F ρ vs ds) : Reps P w K F ρ (cutV vs lo hi) (cutD ds lo hi) := by
  unfold cutV cutD
  rw [r.length]
  exact (r.drop _).take _
theorem sl_ok {lo hi : Option Int} (e : slD x lo hi = some d) (s : Sm P w K H F ρ Z σ dσ st) (rx : Sees P w K H F ρ v x) (h : Res P w K H F ρ Z σ dσ st d Q) : rSl K v lo hi H Q := by
  cases x with
  | lst ds =>
    simp only [slD, Option.some.injEq] at e
    subst e
    obtain ⟨a, vs, rfl, h1, h2⟩ := rx.lst s.rf.fs
    exact .inl ⟨a, vs, rfl, SqL.of h1, h.lst s (h2.cut lo hi)⟩
  | tup ds =>
    simp only [slD, Option.some.injEq] at e
    subst e
    rcases rx with rx | ⟨_, _, t⟩
    · cases rx with
      | @tup a vs _ q t =>
        refine .inr ⟨a, vs, rfl, s.rf.fs.sqT q, fun z => h.now s ?_, fun z => h.tup s (t.cut lo hi)⟩
        have c := t.cut lo hi
        have e1 : cutV vs lo hi = vs := by
          unfold cutV
          rw [z.1, z.2]
          simp
        rw [e1] at c
        exact .tup q c
    · exact t.elim
  | _ => simp [slD] at e
end
end PV
end
section
set_option Elab.async false
set_option linter.all false
set_option maxRecDepth 100000
set_option maxHeartbeats 2000000
/-! PvS3s: sorted(..): insertion sort, the library's order. -/
namespace PV
open PySem PySem.Spec PyProof.Rows L2
def insB {β : Type} (le : β → β → Bool) (x : β) : List β → List β
  | [] => [x]
  | y :: ys => if le x y then x :: y :: ys else y :: insB le x ys
def isortB {β : Type} (le : β → β → Bool) : List β → List β
  | [] => []
  | x :: xs => insB le x (isortB le xs)
section
variable {β γ : Type} {le le' : β → β → Bool}
theorem insB_mem {x a : β} : ∀ {l : List β}, a ∈ insB le x l → a = x ∨ a ∈ l
  | [], h => by
    rw [insB] at h
    exact .inl (by simpa using h)
  | y :: ys, h => by
    rw [insB] at h
    split at h
    · exact List.mem_cons.mp h
    · rcases List.mem_cons.mp h with h | h
      · exact .inr (h ▸ List.mem_cons_self ..)
      · exact (insB_mem h).imp id fun z => List.mem_cons_of_mem _ z
theorem isortB_mem {a : β} : ∀ {l : List β}, a ∈ isortB le l → a ∈ l
  | [], h => h
  | x :: xs, h => by
    rcases insB_mem h with h | h
    · exact h ▸ List.mem_cons_self ..
    · exact List.mem_cons_of_mem _ (isortB_mem h)
theorem insB_congr {x : β} : ∀ {l : List β}, (∀ b ∈ l, le x b = le' x b) → insB le x l = insB le' x l
  | [], _ => rfl
  | y :: ys, h => by
    rw [insB, insB, h y (List.mem_cons_self ..), insB_congr fun b hb => h b (List.mem_cons_of_mem _ hb)]
theorem isortB_congr : ∀ {l : List β}, (∀ a ∈ l, ∀ b ∈ l, le a b = le' a b) → isortB le l = isortB le' l
  | [], _ => rfl
  | x :: xs, h => by
    rw [isortB, isortB, isortB_congr fun a ha b hb => h a (List.mem_cons_of_mem _ ha) b (List.mem_cons_of_mem _ hb)]
    exact insB_congr fun b hb => h x (List.mem_cons_self ..) b (List.mem_cons_of_mem _ (isortB_mem hb))
theorem insB_sorted (T : PySem.W.TotalLe le) {x : β} : ∀ {l : List β}, l.Pairwise (fun a b => le a b = true) → (insB le x l).Pairwise (fun a b => le a b = true)
  | [], _ => by rw [insB]; exact List.pairwise_singleton _ _
  | y :: ys, h => by
    rw [insB]
    cases e : le x y with
    | true =>
      rw [if_pos rfl]
      refine List.pairwise_cons.mpr ⟨fun b hb => ?_, h⟩
      rcases List.mem_cons.mp hb with rfl | hb
      · exact e
      · exact T.trans _ _ _ e ((List.pairwise_cons.mp h).1 b hb)
    | false =>
      rw [if_neg (by simp)]
      refine List.pairwise_cons.mpr ⟨fun b hb => ?_, insB_sorted T (List.pairwise_cons.mp h).2⟩
      rcases insB_mem hb with rfl | hb
      · rcases T.total b y with z | z
        · rw [e] at z; cases z
        · exact z
      · exact (List.pairwise_cons.mp h).1 b hb
theorem insB_filter (T : PySem.W.TotalLe le) {x c : β} : ∀ {l : List β}, (insB le x l).filter (PySem.W.sameRank le c) = (x :: l).filter (PySem.W.sameRank le c)
  | [] => by rw [insB]
  | y :: ys => by
    rw [insB]
    cases e : le x y with
    | true => rw [if_pos rfl]
    | false =>
      rw [if_neg (by simp)]
      rw [List.filter_cons, insB_filter T, List.filter_cons, List.filter_cons, List.filter_cons]
      -- x and y are not both of c's rank
      cases hx : PySem.W.sameRank le c x with
      | false => simp
      | true =>
        cases hy : PySem.W.sameRank le c y with
        | false => simp
        | true =>
          exfalso
          unfold PySem.W.sameRank at hx hy
          rw [Bool.and_eq_true] at hx hy
          rw [T.trans _ _ _ hx.2 hy.1] at e
          cases e
theorem isortB_sorted (T : PySem.W.TotalLe le) : ∀ l : List β, (isortB le l).Pairwise (fun a b => le a b = true)
  | [] => List.Pairwise.nil
  | x :: xs => insB_sorted T (isortB_sorted T xs)
theorem isortB_filter (T : PySem.W.TotalLe le) (c : β) : ∀ l : List β, (isortB le l).filter (PySem.W.sameRank le c) = l.filter (PySem.W.sameRank le c)
  | [] => rfl
  | x :: xs => by rw [isortB, insB_filter T, List.filter_cons, List.filter_cons, isortB_filter T c xs]
theorem isortB_eq (T : PySem.W.TotalLe le) (l : List β) : isortB le l = l.mergeSort le := PySem.W.sort_unique T (isortB_sorted T l) fun c => isortB_filter T c l
theorem insB_map (f : γ → β) (x : γ) : ∀ l : List γ, (insB (fun a b => le (f a) (f b)) x l).map f = insB le (f x) (l.map f)
  | [] => rfl
  | y :: ys => by
    rw [List.map_cons, insB, insB]
    split
    · rfl
    · rw [List.map_cons, insB_map f x ys]
theorem isortB_map (f : γ → β) : ∀ l : List γ, (isortB (fun a b => le (f a) (f b)) l).map f = isortB le (l.map f)
  | [] => rfl
  | x :: xs => by rw [List.map_cons, isortB, isortB, insB_map, isortB_map f xs]
theorem insB_length {x : β} : ∀ l : List β, (insB le x l).length = l.length + 1
  | [] => rfl
  | y :: ys => by
    rw [insB]
    split
    · rfl
    · rw [List.length_cons, insB_length ys, List.length_cons]
theorem isortB_length : ∀ l : List β, (isortB le l).length = l.length
  | [] => rfl
  | x :: xs => by rw [isortB, insB_length, isortB_length xs, List.length_cons]
end
theorem ins_eq (x : D) : ∀ l : List D, D.ins x l = insB (fun a b => !D.lt b a) x l
  | [] => rfl
  | y :: ys => by
    rw [D.ins, insB, ins_eq x ys]
    cases D.lt y x <;> rfl
theorem dsort_eq : ∀ l : List D, D.isort l = isortB (fun a b => !D.lt b a) l
  | [] => rfl
  | x :: xs => by rw [D.isort, isortB, dsort_eq xs, ins_eq]

/-! ### the order of data -/
mutual
theorem emb_alike : ∀ (j a b : D), D.srt a = true → D.srt b = true → D.emb j a = true → D.emb j b = true → PySem.W.alike a.py b.py = true
  | j, .non, b, ha, hb, h1, h2 => by
    cases j <;> first | (cases h1; done) | skip
    cases b <;> first | rfl | (cases h2; done)
  | j, .int _, b, ha, hb, h1, h2 => by
    cases j <;> first | (cases h1; done) | skip
    cases b <;> first | rfl | (cases h2; done)
  | j, .tup xs, b, ha, hb, h1, h2 => by
    cases j <;> first | (cases h1; done) | skip
    rename_i js
    cases b <;> first | (cases h2; done) | skip
    rename_i ys
    rw [D.py, D.py, PySem.W.alike]
    exact embs_alike js xs ys (by simpa [D.srt] using ha) (by simpa [D.srt] using hb) (by simpa [D.emb] using h1) (by simpa [D.emb] using h2)
  | j, .lst xs, b, ha, hb, h1, h2 => by
    cases j <;> first | (cases h1; done) | skip
    rename_i js
    cases b <;> first | (cases h2; done) | skip
    rename_i ys
    rw [D.py, D.py, PySem.W.alike]
    exact embs_alike js xs ys (by simpa [D.srt] using ha) (by simpa [D.srt] using hb) (by simpa [D.emb] using h1) (by simpa [D.emb] using h2)
  | j, .bl _, b, ha, _, _, _ => by cases ha
  | j, .str _, b, ha, _, _, _ => by cases ha
  | j, .dic _ _, b, ha, _, _, _ => by cases ha
  | j, .rf _, b, ha, _, _, _ => by cases ha
  | j, .scr _, b, ha, _, _, _ => by cases ha
theorem embs_alike : ∀ (js xs ys : List D), D.srts xs = true → D.srts ys = true → D.embs js xs = true → D.embs js ys = true → PySem.W.alikeAll (D.pys xs) (D.pys ys) = true
  | js, [], ys, _, _, _, _ => by rw [D.pys, PySem.W.alikeAll]
  | js, x :: xs, [], _, _, _, _ => by
    rw [D.pys, D.pys]
    simp [PySem.W.alikeAll]
  | [], x :: xs, y :: ys, _, _, h, _ => by simp [D.embs] at h
  | j :: js, x :: xs, y :: ys, ha, hb, h1, h2 => by
    rw [D.srts, Bool.and_eq_true] at ha hb
    rw [D.embs, Bool.and_eq_true] at h1 h2
    rw [D.pys, D.pys, PySem.W.alikeAll, emb_alike j x y ha.1 hb.1 h1.1 h2.1, embs_alike js xs ys ha.2 hb.2 h1.2 h2.2]
    rfl
end
mutual
theorem lt_py : ∀ (a b : D) (n : Nat), D.srt a = true → D.srt b = true → D.plain n a = true → D.plain n b = true → PySem.W.alike a.py b.py = true → D.lt a b = PySem.W.dataLt a.py b.py
  | .int x, b, n, ha, hb, pa, pb, h => by
    cases b <;> first | (simp [D.py, PySem.W.alike] at h; done) | (cases hb; done) | skip
    rename_i y
    rw [D.py, D.py, PySem.W.dataLt_int, D.lt]
  | .non, b, n, ha, hb, pa, pb, h => by
    cases b <;> first | (simp [D.py, PySem.W.alike] at h; done) | (cases hb; done) | skip
    show false = PySem.W.dataLt .none .none
    exact (PyProof.Rows.lex_irrefl _).symm
  | .tup xs, b, n, ha, hb, pa, pb, h => by
    cases b <;> first | (simp [D.py, PySem.W.alike] at h; done) | (cases hb; done) | skip
    rename_i ys
    rw [D.py, D.py, PySem.W.dataLt_tuple, D.lt]
    cases n with
    | zero => simp [D.plain] at pa
    | succ n => exact lts_py xs ys n (by simpa [D.srt] using ha) (by simpa [D.srt] using hb) (by simpa [D.plain] using pa) (by simpa [D.plain] using pb) (by rw [D.py, D.py, PySem.W.alike] at h; exact h)
  | .lst xs, b, n, ha, hb, pa, pb, h => by
    cases b <;> first | (simp [D.py, PySem.W.alike] at h; done) | (cases hb; done) | skip
    rename_i ys
    rw [D.py, D.py, PySem.W.dataLt_list, D.lt]
    cases n with
    | zero => simp [D.plain] at pa
    | succ n => exact lts_py xs ys n (by simpa [D.srt] using ha) (by simpa [D.srt] using hb) (by simpa [D.plain] using pa) (by simpa [D.plain] using pb) (by rw [D.py, D.py, PySem.W.alike] at h; exact h)
  | .bl _, b, _, ha, _, _, _, _ => by cases ha
  | .str _, b, _, ha, _, _, _, _ => by cases ha
  | .dic _ _, b, _, ha, _, _, _, _ => by cases ha
  | .rf _, b, _, ha, _, _, _, _ => by cases ha
  | .scr _, b, _, ha, _, _, _, _ => by cases ha
theorem lts_py : ∀ (xs ys : List D) (n : Nat), D.srts xs = true → D.srts ys = true → D.plains n xs = true → D.plains n ys = true → PySem.W.alikeAll (D.pys xs) (D.pys ys) = true → D.lts xs ys = PyProof.Rows.lexLt PyProof.Rows.itemOrd (PySem.W.keyToksAll (D.pys xs)) (PySem.W.keyToksAll (D.pys ys))
  | [], [], n, _, _, _, _, _ => by
    rw [D.pys]
    exact (PyProof.Rows.lex_irrefl _).symm
  | [], y :: ys, n, _, _, _, _, _ => by
    rw [D.pys, D.pys, PySem.W.toks_all_cons]
    simp only [PySem.W.keyToksAll]
    rw [PyProof.Rows.lex_diff (O := PyProof.Rows.itemOrd) (by simp)]
    rfl
  | x :: xs, [], n, _, _, _, _, _ => by
    rw [D.pys, D.pys, PySem.W.toks_all_cons]
    simp only [PySem.W.keyToksAll]
    rw [PyProof.Rows.lex_diff (O := PyProof.Rows.itemOrd) (by simp)]
    rfl
  | x :: xs, y :: ys, n, ha, hb, pa, pb, h => by
    rw [D.srts, Bool.and_eq_true] at ha hb
    rw [D.plains, Bool.and_eq_true] at pa pb
    rw [D.pys, D.pys] at h ⊢
    obtain ⟨h1, h2⟩ := PySem.W.alike_all_cons h
    rw [D.lts]
    cases e : D.eqv x y with
    | true =>
      rw [if_pos rfl, PySem.W.dataLt_all_yes h1 (by rw [eqv_py x y n n pa.1 pb.1]; exact e)]
      exact lts_py xs ys n ha.2 hb.2 pa.2 pb.2 h2
    | false =>
      rw [if_neg (by simp), PySem.W.dataLt_all_no h1 (by rw [eqv_py x y n n pa.1 pb.1]; exact e)]
      exact lt_py x y n ha.1 hb.1 pa.1 pb.1 h1
end

/-! ### the built-in -/
def sortP (us : List V) (ds : List D) : List (V × D) := isortB (fun x y => !D.lt y.2 x.2) (us.zip ds)
def rSortD (K : PySem.W.Frag) : List V → Hp → VK → Prop := fun vs H Q => ∃ a us ds, vs = [V.ref a] ∧ SqL K H a us ∧ DpAll K H us (D.pys ds) ∧ D.plains 60 ds = true ∧ ds.length ≤ sizeLine ∧ sortC ds = true ∧
  ∀ p, H p = none → Q (.ref p) (upd H p (.lst ((sortP us ds).map (·.1))))
theorem dpAll_length {K : PySem.W.Frag} {H : Hp} : ∀ {us : List V} {ds : List D}, DpAll K H us (D.pys ds) → us.length = ds.length
  | [], [], _ => rfl
  | [], _ :: _, h => by rw [D.pys] at h; cases h
  | _ :: _, [], h => by rw [D.pys] at h; cases h
  | u :: us, d :: ds, h => by
    rw [D.pys] at h
    cases h with
    | cons _ t => exact congrArg (· + 1) (dpAll_length t)
theorem zip_each {X : Cx} {pins : List (Addr × Obj)} {σ : L2.St} {H : Hp} {s : Shared} (I : Inv X pins σ H s) : ∀ {us : List V} {ds : List D} {its : List Value}, DpAll X.K H us (D.pys ds) → Vals us its →
    PySem.W.EachIs (fun v (b : V × D) => RelV b.1 v) its (us.zip ds) ∧ PySem.W.EachIs (fun v (b : V × D) => ∃ as, Reads s.heap v b.2.py as) its (us.zip ds)
  | [], [], _, _, .nil => ⟨.nil, .nil⟩
  | [], _ :: _, _, h, _ => by rw [D.pys] at h; cases h
  | _ :: _, [], _, h, _ => by rw [D.pys] at h; cases h
  | u :: us, d :: ds, _, h, .cons r t => by
    rw [D.pys] at h
    cases h with
    | cons h1 h2 =>
      obtain ⟨g1, g2⟩ := zip_each I h2 t
      exact ⟨.cons r g1, .cons (Dp.reads I _ _ _ h1 r) g2⟩
theorem each_vals : ∀ {out : List Value} {bs : List (V × D)}, PySem.W.EachIs (fun v (b : V × D) => RelV b.1 v) out bs → Vals (bs.map (·.1)) out
  | _, _, .nil => .nil
  | _, _, .cons r t => .cons r (each_vals t)
theorem plain_mem {n : Nat} : ∀ {ds : List D} {d : D}, D.plains n ds = true → d ∈ ds → D.plain n d = true
  | d :: ds, e, h, hm => by
    rw [D.plains, Bool.and_eq_true] at h
    rcases List.mem_cons.mp hm with rfl | hm
    · exact h.1
    · exact plain_mem h.2 hm
theorem srt_mem : ∀ {ds : List D} {d : D}, D.srts ds = true → d ∈ ds → D.srt d = true
  | d :: ds, e, h, hm => by
    rw [D.srts, Bool.and_eq_true] at h
    rcases List.mem_cons.mp hm with rfl | hm
    · exact h.1
    · exact srt_mem h.2 hm
theorem isortB_one {β : Type} (le : β → β → Bool) {l : List β} (h : l.length ≤ 1) : isortB le l = l := by
  cases l with
  | nil => rfl
  | cons x xs =>
    cases xs with
    | nil => rfl
    | cons _ _ => simp at h
theorem cr_sortD {X : Cx} (hu : X.A.units + 65 < cLine) : CallR X (.builtin "sorted") (rSortD X.K) := by
  intro pins s σ H vs us0 Q I r h
  obtain ⟨a, us, ds, rfl, hs, hdp, hp, hz, hc, q⟩ := h
  obtain ⟨its, rv, hl, hz2⟩ := I.list hs
  rw [Vals.ref1 r]
  have hlen := dpAll_length hdp
  obtain ⟨e1, e2⟩ := zip_each I hdp rv
  have fin : ∀ out : List Value, PySem.W.EachIs (fun v (b : V × D) => RelV b.1 v) out (sortP us ds) → EP X pins σ Q (.ref (s.heap.objs.size + 1)) { s with heap := sortedAll s.heap its out.toArray } := fun out he => by
    obtain ⟨ep, he'⟩ := PyProof.Rows.sortedAll_at s.heap its out.toArray
    have hl2 : ((sortP us ds).map (·.1)).length ≤ sizeLine := by
      rw [List.length_map]
      unfold sortP
      rw [isortB_length, List.length_zip, hlen, Nat.min_self]
      exact hz
    exact ⟨.ref _, upd H (s.heap.objs.size + 1) (.lst ((sortP us ds).map (·.1))), I.laid (t' := s.toks) (fun _ _ => PyProof.Rows.sortedAll_old) (Nat.le_succ _) ⟨hl2, out, ep, each_vals he, he'⟩, rfl, q _ (I.hok.fresh (Nat.le_succ _))⟩
  unfold sortC at hc
  rw [Bool.or_eq_true] at hc
  rcases hc with hc | hc
  · have h1 : ds.length ≤ 1 := Nat.le_of_ble_eq_true hc
    have hi : its.length ≤ 1 := by rw [← rv.length, hlen]; exact h1
    have hsw : SrtO.Swo (fun _ _ : Value => false) := ⟨fun _ _ h => (by cases h), fun _ _ _ _ _ => rfl⟩
    refine SrtO.sorted_ord hsw hl.isList (by rw [← rv.length, hlen]; exact hz) (fun h2 => absurd h2 (by omega)) fun out _ hb => ?_
    have hperm := hb.perm
    have ho : out = its := by
      cases its with
      | nil => exact List.Perm.eq_nil hperm
      | cons x xs =>
        cases xs with
        | nil => exact List.perm_singleton.mp hperm
        | cons _ _ => simp at hi
    subst ho
    refine fin _ ?_
    unfold sortP
    rw [isortB_one _ (by rw [List.length_zip]; omega)]
    exact e1
  · rw [Bool.and_eq_true, Bool.and_eq_true, Bool.or_eq_true] at hc
    obtain ⟨⟨c1, c2⟩, c3⟩ := hc
    have hmem : ∀ b ∈ us.zip ds, b.2 ∈ ds := fun b hb => (List.of_mem_zip hb).2
    have hal : PySem.W.AllAlike ((us.zip ds).map fun b => b.2.py) := by
      intro d hd d' hd'
      obtain ⟨b, hb, rfl⟩ := List.mem_map.mp hd
      obtain ⟨b', hb', rfl⟩ := List.mem_map.mp hd'
      have k1 := List.all_eq_true.mp c2 _ (hmem b hb)
      have k2 := List.all_eq_true.mp c2 _ (hmem b' hb')
      exact emb_alike _ _ _ (srt_mem c1 (hmem b hb)) (srt_mem c1 (hmem b' hb')) k1 k2
    have hk : PySem.W.Sortable ((us.zip ds).map fun b => b.2.py) := by
      rcases c3 with c3 | c3
      · refine .inl fun d hd => ?_
        obtain ⟨b, hb, rfl⟩ := List.mem_map.mp hd
        have z := List.all_eq_true.mp c3 _ (hmem b hb)
        obtain ⟨v, d⟩ := b
        cases d <;> first | (cases z; done) | skip
        rename_i l
        cases l with
        | nil => cases z
        | cons x xs => exact ⟨_, _, by show D.py (.tup (x :: xs)) = _; rw [D.py, D.pys]⟩
      · refine .inr fun d hd => ?_
        obtain ⟨b, hb, rfl⟩ := List.mem_map.mp hd
        have z := List.all_eq_true.mp c3 _ (hmem b hb)
        obtain ⟨v, d⟩ := b
        cases d <;> first | (cases z; done) | exact ⟨fun w => by simp [D.py] at w, fun xs w => by simp [D.py] at w⟩
    have heq : (us.zip ds).mergeSort (PySem.W.dataLe false fun b => b.2.py) = sortP us ds := by
      have T : PySem.W.TotalLe (PySem.W.dataLe false fun b : V × D => b.2.py) := PySem.W.sortLe_total _ _ _
      rw [← isortB_eq T]
      unfold sortP
      refine isortB_congr fun x hx y hy => ?_
      have hx' := hmem x hx
      have hy' := hmem y hy
      have k1 := List.all_eq_true.mp c2 _ hx'
      have k2 := List.all_eq_true.mp c2 _ hy'
      show (!PySem.W.dataLt y.2.py x.2.py) = (!D.lt y.2 x.2)
      rw [lt_py y.2 x.2 60 (srt_mem c1 hy') (srt_mem c1 hx') (plain_mem hp hy') (plain_mem hp hx') (emb_alike _ _ _ (srt_mem c1 hy') (srt_mem c1 hx') k2 k1)]
    refine PySem.W.sorted_data (R := fun v (b : V × D) => RelV b.1 v) (enc := fun b => b.2.py) hl.isList e1 e2 hal hk (by rw [List.length_zip]; omega) (fun b hb => ?_) fun out _ he => ?_
    · have := (canLay_py b.2 60 (plain_mem hp (hmem b hb))).2
      omega
    · rw [heq] at he
      exact fin out he
section
variable {P : Program} {w : World} {K : PySem.W.Frag} {F : Hp} {ρ : List Addr}
theorem reps_pairs : ∀ {ps : List (V × D)}, (∀ p ∈ ps, Rep P w K F ρ p.1 p.2) → Reps P w K F ρ (ps.map (·.1)) (ps.map (·.2))
  | [], _ => .nil
  | p :: ps, h => .cons (h p (List.mem_cons_self ..)) (reps_pairs fun q hq => h q (List.mem_cons_of_mem _ hq))
theorem reps_zip : ∀ {us : List V} {ds : List D}, Reps P w K F ρ us ds → ∀ p ∈ us.zip ds, Rep P w K F ρ p.1 p.2
  | _, _, .nil, p, hp => by simp at hp
  | _, _, .cons r t, p, hp => by
    rw [List.zip_cons_cons] at hp
    rcases List.mem_cons.mp hp with rfl | hp
    · exact r
    · exact reps_zip t p hp
theorem zip_snd : ∀ {us : List V} {ds : List D}, Reps P w K F ρ us ds → (us.zip ds).map (·.2) = ds
  | _, _, .nil => rfl
  | _, _, .cons r t => by rw [List.zip_cons_cons, List.map_cons, zip_snd t]
theorem reps_sort {us : List V} {ds : List D} (r : Reps P w K F ρ us ds) : Reps P w K F ρ ((sortP us ds).map (·.1)) (D.isort ds) := by
  have e : (sortP us ds).map (·.2) = D.isort ds := by
    unfold sortP
    rw [isortB_map (le := fun a b => !D.lt b a) (fun p : V × D => p.2), zip_snd r, dsort_eq]
  rw [← e]
  exact reps_pairs fun p hp => reps_zip r p (isortB_mem hp)
end
end PV
end
section
set_option Elab.async false
set_option linter.all false
set_option maxRecDepth 100000
set_option maxHeartbeats 2000000
/-! PvS3c: built-ins on plain data. -/
namespace PV
open PySem PySem.Spec PyProof.Rows L2

def bfNm : Bf → Str
  | .len => "len" | .all => "all" | .any => "any" | .sorted => "sorted" | .list => "list" | .tuple => "tuple" | .max1 => "max" | .min1 => "min" | .max2 => "max" | .min2 => "min"
  | .sum => "sum" | .abs => "abs" | .str => "str" | .int => "int" | .isInt => "isinstance" | .isBool => "isinstance" | .isTup => "isinstance" | .isLst => "isinstance" | .isStr => "isinstance"
/-- the class that isinstance asks for -/
def bfCl : Bf → String
  | .isInt => "int" | .isBool => "bool" | .isTup => "tuple" | .isLst => "list" | .isStr => "str" | _ => ""
def isIsi : Bf → Bool
  | .isInt => true | .isBool => true | .isTup => true | .isLst => true | .isStr => true | _ => false
def bfV : Bf → Value
  | .list => .type "list" | .tuple => .type "tuple" | .str => .type "str" | .int => .type "int"
  | .len => .builtin "len" | .all => .builtin "all" | .any => .builtin "any" | .sorted => .builtin "sorted" | .max1 => .builtin "max" | .min1 => .builtin "min" | .max2 => .builtin "max" | .min2 => .builtin "min"
  | .sum => .builtin "sum" | .abs => .builtin "abs" | _ => .builtin "isinstance"
theorem bf_boot : ∀ b : Bf, bootBuiltins (bfNm b) = some (bfV b) := by
  intro b
  cases b <;> decide +kernel
theorem bf_nn : ∀ b : Bf, bfNm b ≠ "__name__" ∧ (bfNm b == ("__debug__" : Str)) = false := by
  intro b
  cases b <;> decide +kernel
/-- the built-ins that are served so far -/
def bfOn : Bf → Bool
  | .str => false | .int => false | _ => true
def rBf (K : PySem.W.Frag) : Bf → List V → Hp → VK → Prop
  | .len => fun xs H Q => ∃ x n, xs = [x] ∧ LenV K x H n ∧ Q (.int n) H
  | .all => rAll K
  | .any => rAny K
  | .list => fun xs H Q => ∃ p ys, xs = [.ref p] ∧ (SqL K H p ys ∨ SqT K H p ys) ∧ ∀ l, H l = none → Q (.ref l) (upd H l (.lst ys))
  | .tuple => fun xs H Q => ∃ p ys, xs = [.ref p] ∧ ((SqL K H p ys ∧ ∀ l, H l = none → Q (.ref l) (upd H l (.tup ys))) ∨ (SqT K H p ys ∧ Q (.ref p) H))
  | .max1 => rMax K
  | .min1 => rMin K
  | .max2 => fun xs H Q => ∃ i j, xs = [.int i, .int j] ∧ Q (.int (if j > i then j else i)) H
  | .min2 => fun xs H Q => ∃ i j, xs = [.int i, .int j] ∧ Q (.int (if j < i then j else i)) H
  | .sum => rSum K
  | .abs => fun xs H Q => ∃ i, xs = [.int i] ∧ Q (.int (if i < 0 then -i else i)) H
  | .sorted => rSortD K
  | .isInt => rIsi K
  | .isBool => rIsi K
  | .isTup => rIsi K
  | .isLst => rIsi K
  | .isStr => rIsi K
  | _ => fun _ _ _ => False
theorem cr_bf {X : Cx} (hc : X.calm = true) (hu : X.A.units + 65 < cLine) : ∀ b, CallR X (bfV b) (rBf X.K b)
  | .len => call_len
  | .all => cr_all hc
  | .any => cr_any hc
  | .list => call_list_of
  | .tuple => call_tuple_of
  | .max1 => cr_max hc
  | .min1 => cr_min hc
  | .max2 => call_max2 hc
  | .min2 => call_min2 hc
  | .sum => cr_sum hc
  | .abs => call_abs
  | .isInt => call_isi
  | .isBool => call_isi
  | .isTup => call_isi
  | .isLst => call_isi
  | .isStr => call_isi
  | .sorted => cr_sortD hu
  | .str => fun _ _ _ _ _ _ _ _ _ h => h.elim
  | .int => fun _ _ _ _ _ _ _ _ _ h => h.elim

theorem maxI_mem : ∀ (xs : List Int) (m : Int), maxI m xs ∈ m :: xs ∧ ∀ y ∈ m :: xs, y ≤ maxI m xs
  | [], m => ⟨by simp [maxI], by simp [maxI]⟩
  | x :: xs, m => by
    obtain ⟨h1, h2⟩ := maxI_mem xs (if m < x then x else m)
    rw [maxI]
    have hm : m ≤ (if m < x then x else m) := by split <;> omega
    have hx : x ≤ (if m < x then x else m) := by split <;> omega
    have ho : (if m < x then x else m) = x ∨ (if m < x then x else m) = m := by split <;> simp
    have ht := h2 _ (List.mem_cons_self)
    constructor
    · rcases List.mem_cons.mp h1 with e | e
      · rw [e]
        rcases ho with z | z <;> rw [z] <;> simp
      · exact List.mem_cons_of_mem _ (List.mem_cons_of_mem _ e)
    · intro y hy
      rcases List.mem_cons.mp hy with rfl | hy
      · omega
      · rcases List.mem_cons.mp hy with rfl | hy
        · omega
        · exact h2 y (List.mem_cons_of_mem _ hy)
theorem minI_mem : ∀ (xs : List Int) (m : Int), minI m xs ∈ m :: xs ∧ ∀ y ∈ m :: xs, minI m xs ≤ y
  | [], m => ⟨by simp [minI], by simp [minI]⟩
  | x :: xs, m => by
    obtain ⟨h1, h2⟩ := minI_mem xs (if x < m then x else m)
    rw [minI]
    have hm : (if x < m then x else m) ≤ m := by split <;> omega
    have hx : (if x < m then x else m) ≤ x := by split <;> omega
    have ho : (if x < m then x else m) = x ∨ (if x < m then x else m) = m := by split <;> simp
    have ht := h2 _ (List.mem_cons_self)
    constructor
    · rcases List.mem_cons.mp h1 with e | e
      · rw [e]
        rcases ho with z | z <;> rw [z] <;> simp
      · exact List.mem_cons_of_mem _ (List.mem_cons_of_mem _ e)
    · intro y hy
      rcases List.mem_cons.mp hy with rfl | hy
      · omega
      · rcases List.mem_cons.mp hy with rfl | hy
        · omega
        · exact h2 y (List.mem_cons_of_mem _ hy)

def kd : D → String
  | .non => "NoneType" | .bl _ => "bool" | .int _ => "int" | .str _ => "str" | .tup _ => "tuple" | .lst _ => "list" | _ => ""
def kdIn (c : String) (k : String) : Bool := k == c || (k == "bool" && c == "int")
theorem kit_all : ∀ k ∈ ["NoneType", "bool", "int", "str", "tuple", "list"], ∀ c ∈ ["int", "bool", "tuple", "list", "str"], kitB k c = some (kdIn c k) := by
  decide +kernel
section
variable {P : Program} {w : World} {K : PySem.W.Frag} {H F : Hp} {ρ : List Addr} {Z : Nat → Prop} {σ : L2.St} {dσ : Sg} {st : ST} {d x y z : D} {v u : V} {Q : VK}
theorem Sees.ty (hf : Fsub F H) (h : Sees P w K H F ρ v d) (hk : kd d ∈ ["NoneType", "bool", "int", "str", "tuple", "list"]) : TyX K H v (.type (kd d)) := by
  cases d with
  | lst ds =>
    obtain ⟨a, vs, rfl, h1, _⟩ := h.lst hf
    exact .base (.lst h1)
  | tup ds =>
    obtain ⟨a, vs, rfl, h1, _⟩ := h.tup hf
    rcases h1 with (h1 | ⟨o, h1⟩) | ⟨o, its, n, h1, h2, _⟩
    · exact .base (.tup h1)
    · exact .fTuple h1
    · exact .kTuple h1 h2
  | non => rcases h with h | ⟨a, _, h⟩; cases h; exact .base .non; exact h.elim
  | bl b => rcases h with h | ⟨a, _, h⟩; cases h; exact .base (.bl _); exact h.elim
  | int b => rcases h with h | ⟨a, _, h⟩; cases h; exact .base (.int _); exact h.elim
  | str b => rcases h with h | ⟨a, _, h⟩; cases h; exact .base (.str _); exact h.elim
  | dic _ _ => simp [kd] at hk
  | rf _ => simp [kd] at hk
  | scr _ => simp [kd] at hk
abbrev SeesL (P : Program) (w : World) (K : PySem.W.Frag) (H F : Hp) (ρ : List Addr) : List V → List D → Prop := Paired (fun v d => Sees P w K H F ρ v d)
theorem isi_eq {b : Bf} {ds : List D} (hb : isIsi b = true) (e : bfD b ds = some d) : ∃ x, ds = [x] ∧ kd x ∈ ["NoneType", "bool", "int", "str", "tuple", "list"] ∧ d = .bl (kdIn (bfCl b) (kd x)) := by
  cases ds with
  | nil => cases b <;> simp [isIsi] at hb <;> simp [bfD, one1] at e
  | cons x r =>
    cases r with
    | cons y r => cases b <;> simp [isIsi] at hb <;> simp [bfD, one1] at e
    | nil =>
      refine ⟨x, rfl, ?_⟩
      cases b <;> simp [isIsi] at hb <;> cases x <;> simp [bfD, one1, isIntD, isBoolD, isTupD, isLstD, isStrD] at e <;> subst e <;> exact ⟨by simp [kd], by rfl⟩
theorem isi_ok {b : Bf} (hb : isIsi b = true) (hf : Fsub F H) (rx : Sees P w K H F ρ v x) (e : bfD b [x] = some d) (h : ∀ v, Rep P w K F ρ v d → Q v H) : rBf K b [v, .ty (bfCl b)] H Q := by
  obtain ⟨y, e1, hk, rfl⟩ := isi_eq hb e
  cases e1
  have hc : bfCl b ∈ ["int", "bool", "tuple", "list", "str"] := by cases b <;> simp [isIsi] at hb <;> simp [bfCl]
  have z : rIsi K [v, .ty (bfCl b)] H Q := ⟨v, .ty (bfCl b), _, _, _, rfl, .ty _, rx.ty hf hk, kit_ty (kit_all _ hk _ hc), h _ (.bl _)⟩
  cases b <;> first | exact z | simp [isIsi] at hb
theorem bf_ok {b : Bf} (hb : isIsi b = false) {vs : List V} {ds : List D} (s : Sm P w K H F ρ Z σ dσ st) (r : SeesL P w K H F ρ vs ds) (e : bfD b ds = some d) (hon : bfOn b = true) (h : Res P w K H F ρ Z σ dσ st d Q) : rBf K b vs H Q := by
  have hf := s.rf.fs
  cases b with
  | len =>
    simp only [bfD] at e
    unfold lenD at e
    split at e
    · cases r with
      | cons r1 r2 =>
        cases r2
        cases e
        obtain ⟨a, vs, rfl, h1, h2⟩ := r1.lst hf
        exact ⟨_, _, rfl, .inl ⟨vs, SqL.of h1, rfl⟩, by rw [h2.length]; exact h.now s (.int _)⟩
    · cases r with
      | cons r1 r2 =>
        cases r2
        cases e
        obtain ⟨a, vs, rfl, h1, h2⟩ := r1.tup hf
        exact ⟨_, _, rfl, .inr ⟨vs, h1, rfl⟩, by rw [h2.length]; exact h.now s (.int _)⟩
    · cases r with
      | cons r1 r2 =>
        cases r2
        cases e
        obtain ⟨a, vs, rfl, h1, h2⟩ := r1.scr hf
        exact ⟨_, _, rfl, .inl ⟨vs, h1, rfl⟩, by rw [h2.length]; exact h.now s (.int _)⟩
    · cases e
    · cases r with
      | cons r1 r2 =>
        cases r2
        split at e
        · rename_i q
          cases e
          have h1 := Nat.le_of_ble_eq_true q
          have h2 := lim_lt
          rcases r1 with r1 | ⟨_, _, t⟩
          · cases r1
            exact ⟨_, _, rfl, ⟨by omega, rfl⟩, h.now s (.int _)⟩
          · exact t.elim
        · cases e
    · cases e
  | all =>
    simp only [bfD] at e
    unfold allD at e
    split at e
    · cases r with
      | cons r1 r2 =>
        cases r2
        obtain ⟨bs, e1, e2⟩ := Option.map_eq_some_iff.mp e
        subst e2
        obtain ⟨a, vs, rfl, h1, h2⟩ := r1.lst hf
        have z := h2.bools e1
        subst z
        exact ⟨a, bs, rfl, SqL.of h1, h.now s (.bl _)⟩
    · cases e
  | any =>
    simp only [bfD] at e
    unfold anyD at e
    split at e
    · cases r with
      | cons r1 r2 =>
        cases r2
        obtain ⟨bs, e1, e2⟩ := Option.map_eq_some_iff.mp e
        subst e2
        obtain ⟨a, vs, rfl, h1, h2⟩ := r1.lst hf
        have z := h2.bools e1
        subst z
        exact ⟨a, bs, rfl, SqL.of h1, h.now s (.bl _)⟩
    · cases e
  | list =>
    simp only [bfD] at e
    unfold listD at e
    split at e
    · cases r with
      | cons r1 r2 =>
        cases r2
        cases e
        obtain ⟨a, vs, rfl, h1, h2⟩ := r1.lst hf
        exact ⟨a, vs, rfl, .inl (SqL.of h1), h.lst s h2⟩
    · cases r with
      | cons r1 r2 =>
        cases r2
        cases e
        obtain ⟨a, vs, rfl, h1, h2⟩ := r1.tup hf
        exact ⟨a, vs, rfl, .inr h1, h.lst s h2⟩
    · cases e
  | tuple =>
    simp only [bfD] at e
    unfold tupleD at e
    split at e
    · cases r with
      | cons r1 r2 =>
        cases r2
        cases e
        obtain ⟨a, vs, rfl, h1, h2⟩ := r1.lst hf
        exact ⟨a, vs, rfl, .inl ⟨SqL.of h1, h.tup s h2⟩⟩
    · cases r with
      | cons r1 r2 =>
        cases r2
        cases e
        have q := r1.rep (by intro _ z; cases z) (by intro _ _ z; cases z)
        obtain ⟨a, vs, rfl, h1, h2⟩ := r1.tup hf
        exact ⟨a, vs, rfl, .inr ⟨h1, h.now s q⟩⟩
    · cases e
  | max1 =>
    simp only [bfD] at e
    unfold max1D at e
    split at e
    · cases r with
      | cons r1 r2 =>
        cases r2
        split at e
        · rename_i i is e1
          cases e
          obtain ⟨a, vs, rfl, h1, h2⟩ := r1.lst hf
          have z := h2.ints e1
          subst z
          obtain ⟨m1, m2⟩ := maxI_mem is i
          refine ⟨a, i :: is, rfl, SqL.of h1, Nat.succ_pos _, fun m g1 g2 => ?_⟩
          have z1 := m2 m g1
          have z2 := g2 _ m1
          have z3 : m = maxI i is := by omega
          subst z3
          exact h.now s (.int _)
        · cases e
    · cases e
  | min1 =>
    simp only [bfD] at e
    unfold min1D at e
    split at e
    · cases r with
      | cons r1 r2 =>
        cases r2
        split at e
        · rename_i i is e1
          cases e
          obtain ⟨a, vs, rfl, h1, h2⟩ := r1.lst hf
          have z := h2.ints e1
          subst z
          obtain ⟨m1, m2⟩ := minI_mem is i
          refine ⟨a, i :: is, rfl, SqL.of h1, Nat.succ_pos _, fun m g1 g2 => ?_⟩
          have z1 := m2 m g1
          have z2 := g2 _ m1
          have z3 : m = minI i is := by omega
          subst z3
          exact h.now s (.int _)
        · cases e
    · cases e
  | max2 =>
    simp only [bfD] at e
    unfold max2D at e
    split at e
    · cases e
      cases r with
      | cons r1 r2 =>
        cases r2 with
        | cons r2 r3 =>
          cases r3
          have q1 := r1.rep (by intro _ z; cases z) (by intro _ _ z; cases z)
          have q2 := r2.rep (by intro _ z; cases z) (by intro _ _ z; cases z)
          cases q1; cases q2
          exact ⟨_, _, rfl, h.now s (.int _)⟩
    · cases e
  | min2 =>
    simp only [bfD] at e
    unfold min2D at e
    split at e
    · cases e
      cases r with
      | cons r1 r2 =>
        cases r2 with
        | cons r2 r3 =>
          cases r3
          have q1 := r1.rep (by intro _ z; cases z) (by intro _ _ z; cases z)
          have q2 := r2.rep (by intro _ z; cases z) (by intro _ _ z; cases z)
          cases q1; cases q2
          exact ⟨_, _, rfl, h.now s (.int _)⟩
    · cases e
  | sum =>
    simp only [bfD] at e
    unfold sumD at e
    split at e
    · cases r with
      | cons r1 r2 =>
        cases r2
        obtain ⟨bs, e1, e2⟩ := Option.map_eq_some_iff.mp e
        subst e2
        obtain ⟨a, vs, rfl, h1, h2⟩ := r1.lst hf
        have z := h2.ints e1
        subst z
        exact ⟨a, bs, rfl, SqL.of h1, h.now s (.int _)⟩
    · cases e
  | abs =>
    simp only [bfD] at e
    unfold absD at e
    split at e
    · cases e
      cases r with
      | cons r1 r2 =>
        cases r2
        have q1 := r1.rep (by intro _ z; cases z) (by intro _ _ z; cases z)
        cases q1
        exact ⟨_, rfl, h.now s (.int _)⟩
    · cases e
  | sorted =>
    simp only [bfD] at e
    unfold sortedD at e
    split at e
    · split at e
      · rename_i ds hc
        rw [Bool.and_eq_true, Bool.and_eq_true] at hc
        cases r with
        | cons r1 r2 =>
          cases r2
          cases e
          obtain ⟨a, vs, rfl, h1, h2⟩ := r1.lst hf
          exact ⟨a, vs, ds, rfl, SqL.of h1, Reps.dp hf _ _ 60 hc.1.1 h2, hc.1.1, small_le hc.1.2, hc.2, h.lst s (reps_sort h2)⟩
      · cases e
    · cases e
  | str => cases hon
  | int => cases hon
  | _ => cases hb
end
end PV
end
section
set_option Elab.async false
set_option linter.all false
set_option maxRecDepth 100000
set_option maxHeartbeats 2000000
/-! PvS4: the check of an expression's form against the text; readings; the modes. -/
namespace PV
open PySem PySem.Spec PyProof.Rows L2

structure Cg where
  N : List Str
  fns : List Str
  gcs : List (Str × D)

mutual
/-- the slots that are read as values -/
def rdE : E → List Nat
  | .cst _ => [] | .var i => [i] | .glc _ => []
  | .bin _ a b => rdE a ++ rdE b
  | .neg a => rdE a
  | .cmp _ a b => rdP a ++ rdP b
  | .chn _ _ a b c => rdE a ++ (rdE b ++ rdE c)
  | .ands es => rdEs es | .ors es => rdEs es | .nt a => rdE a
  | .ite c a b => rdE c ++ (rdE a ++ rdE b)
  | .tup es => rdEs es | .lst es => rdEs es | .dc0 => [] | .dc1 k v => rdE k ++ rdE v
  | .idx a i => rdP a ++ rdE i
  | .sl a lo hi => rdP a ++ (rdE lo ++ rdE hi)
  | .rev a => rdP a
  | .call _ es => rdEs es
  | .blt _ es => rdPs es
  | .get1 o k => rdP o ++ rdE k
  | .get2 o k d => rdP o ++ (rdE k ++ rdE d)
  | .comp e _ it c _ => rdE it ++ (rdE c ++ rdE e)
  | .dcmp k v _ it _ => rdE it ++ (rdE k ++ rdE v)
  | .rng1 a => rdE a | .rng2 a b => rdE a ++ rdE b | .rngd a b => rdE a ++ rdE b | .enm a => rdE a | .zp a b => rdE a ++ rdE b | .itv a => rdE a
  | .nrf a => rdE a
def rdEs : List E → List Nat
  | [] => []
  | e :: es => rdE e ++ rdEs es
/-- .. the outermost name looked at, not read -/
def rdP : E → List Nat
  | .var _ => []
  | .cst _ => [] | .glc _ => []
  | .bin _ a b => rdE a ++ rdE b
  | .neg a => rdE a
  | .cmp _ a b => rdP a ++ rdP b
  | .chn _ _ a b c => rdE a ++ (rdE b ++ rdE c)
  | .ands es => rdEs es | .ors es => rdEs es | .nt a => rdE a
  | .ite c a b => rdE c ++ (rdE a ++ rdE b)
  | .tup es => rdEs es | .lst es => rdEs es | .dc0 => [] | .dc1 k v => rdE k ++ rdE v
  | .idx a i => rdP a ++ rdE i
  | .sl a lo hi => rdP a ++ (rdE lo ++ rdE hi)
  | .rev a => rdP a
  | .call _ es => rdEs es
  | .blt _ es => rdPs es
  | .get1 o k => rdP o ++ rdE k
  | .get2 o k d => rdP o ++ (rdE k ++ rdE d)
  | .comp e _ it c _ => rdE it ++ (rdE c ++ rdE e)
  | .dcmp k v _ it _ => rdE it ++ (rdE k ++ rdE v)
  | .rng1 a => rdE a | .rng2 a b => rdE a ++ rdE b | .rngd a b => rdE a ++ rdE b | .enm a => rdE a | .zp a b => rdE a ++ rdE b | .itv a => rdE a
  | .nrf a => rdE a
def rdPs : List E → List Nat
  | [] => []
  | e :: es => rdP e ++ rdPs es
end
def isVar : E → Bool
  | .var _ => true
  | _ => false
theorem rdP_eq {e : E} (h : isVar e = false) : rdP e = rdE e := by
  cases e <;> first | (cases h; done) | (rw [rdP, rdE])

/-! ### modes -/
inductive Md where | val | pk | own
def rd : Md → E → List Nat
  | .val, e => rdE e
  | .pk, e => rdP e
  | .own, e => rdE e
def Out {α : Type} (r : R α) (k : α → ST → Prop) : Prop := match r with
  | .ok a s => k a s
  | _ => False
theorem Out.bind {α β : Type} {r : R α} {f : α → ST → R β} {c : β → ST → Prop} (h : Out (r.bind f) c) : ∃ a s, r = .ok a s ∧ Out (f a s) c := by
  cases r with
  | ok a s => exact ⟨a, s, rfl, h⟩
  | exc _ _ => exact h.elim
  | bad => exact h.elim
theorem Out.of {α : Type} {o : Option α} {s : ST} {c : α → ST → Prop} (h : Out (R.of o s) c) : ∃ a, o = some a ∧ c a s := by
  cases o with
  | some a => exact ⟨a, rfl, h⟩
  | none => exact h.elim
/-- a new list or dict that nothing else knows -/
def FreshV (P : Program) (w : World) (K : PySem.W.Frag) (H0 H F : Hp) (ρ : List Addr) (σ : L2.St) (dσ : Sg) (v : V) (d : D) : Prop :=
  ∃ a, v = .ref a ∧ Top P w K F ρ H a d ∧ F a = none ∧ a ∉ ρ ∧ ¬ Ow σ dσ a ∧ H0 a = none
def Vl (m : Md) (P : Program) (w : World) (K : PySem.W.Frag) (H0 H F : Hp) (ρ : List Addr) (σ : L2.St) (dσ : Sg) (v : V) (d : D) : Prop := match m with
  | .val => Rep P w K F ρ v d
  | .pk => Pk P w K F ρ σ dσ v d
  | .own => FreshV P w K H0 H F ρ σ dσ v d
/-- a result at a later state -/
def Rs (P : Program) (w : World) (K : PySem.W.Frag) (m : Md) (H F : Hp) (ρ : List Addr) (Z : Nat → Prop) (σ : L2.St) (dσ : Sg) (Q : VK) (d : D) (st : ST) : Prop :=
  ∀ v H' F' ρ', Sm P w K H' F' ρ' Z σ dσ st → Stp (Ow σ dσ) H F ρ H' F' ρ' → Vl m P w K H H' F' ρ' σ dσ v d → Q v H'
def Zr (Z : Nat → Prop) (l : List Nat) : Nat → Prop := fun i => Z i ∨ i ∈ l
def tM (P : Program) (w : World) (K : PySem.W.Frag) (cf : CF) (m : Md) (e : E) : TE := fun σ H Q => ∃ F ρ Z dσ st, Sm P w K H F ρ Z σ dσ st ∧ Out (evE cf e dσ st) (Rs P w K m H F ρ (Zr Z (rd m e)) σ dσ Q)
theorem PE.imp {X : Cx} {x : Expr} {t t' : TE} (h : PE X x t) (hi : ∀ σ H Q, t' σ H Q → t σ H Q) : PE X x t' := ⟨fun pins s σ H Q I hq => h.run pins s σ H Q I (hi _ _ _ hq)⟩
theorem PT.imp {X : Cx} {x : Expr} {t t' : TT} (h : PT X x t) (hi : ∀ σ H Q, t' σ H Q → t σ H Q) : PT X x t' := ⟨fun pins s σ H Q I hq => h.run pins s σ H Q I (hi _ _ _ hq)⟩
section
variable {P : Program} {w : World} {K : PySem.W.Frag} {cf : CF} {H F H' F' : Hp} {ρ ρ' : List Addr} {Z Z' : Nat → Prop} {σ : L2.St} {dσ : Sg} {st s1 s2 s3 : ST} {d x y z : D} {v u : V} {Q : VK} {m : Md} {e : E}
theorem Zr.wk {l l' : List Nat} (h : ∀ i, i ∈ l → i ∈ l') : ∀ i, Zr Z l i → Zr Z l' i := fun i => Or.imp id (h i)
theorem Zr.app {l l' : List Nat} : ∀ i, Zr (Zr Z l) l' i → Zr Z (l ++ l') i := fun i h => by
  rcases h with (h | h) | h
  · exact .inl h
  · exact .inr (List.mem_append_left _ h)
  · exact .inr (List.mem_append_right _ h)
/-- from a result at a later state to the plain result -/
theorem Rs.res (h : Rs P w K .val H F ρ Z σ dσ Q d st) : Res P w K H F ρ Z σ dσ st d Q := fun v H' F' s t r => h v H' F' ρ s t r
/-- the result behind a step -/
theorem Rs.after (h : Rs P w K m H F ρ Z σ dσ Q d st) (t : Stp (Ow σ dσ) H F ρ H' F' ρ') : Rs P w K m H' F' ρ' Z σ dσ Q d st := fun v H2 F2 ρ2 s t2 r => h v H2 F2 ρ2 s (t.trans t2) (by
  cases m with
  | val => exact r
  | pk => exact r
  | own =>
    obtain ⟨a, h1, h2, h3, h4, h5, h6⟩ := r
    exact ⟨a, h1, h2, h3, h4, h5, t.none_ h6⟩)
theorem Rs.wkZ (h : Rs P w K m H F ρ Z' σ dσ Q d st) (hz : ∀ i, Z i → Z' i) : Rs P w K m H F ρ Z σ dσ Q d st := fun v H' F' ρ' s t r => h v H' F' ρ' (s.wkZ hz) t r
/-- one expression is run -/
theorem run1 (s : Sm P w K H F ρ Z σ dσ st) (ev : evE cf e dσ st = .ok x s1) {R : V → Hp → Prop}
    (h : ∀ v H1 F1 ρ1, Sm P w K H1 F1 ρ1 (Zr Z (rd m e)) σ dσ s1 → Stp (Ow σ dσ) H F ρ H1 F1 ρ1 → Vl m P w K H H1 F1 ρ1 σ dσ v x → R v H1) : tM P w K cf m e σ H R :=
  ⟨F, ρ, Z, dσ, st, s, by rw [ev]; exact h⟩
theorem Vl.later {H0 : Hp} (h : Vl m P w K H0 H F ρ σ dσ v d) (hm : m ≠ .own) (t : Stp (Ow σ dσ) H F ρ H' F' ρ') : Vl m P w K H0 H' F' ρ' σ dσ v d := by
  cases m with
  | val => exact Rep.mono t.f t.r h
  | pk => exact Pk.mono h t
  | own => exact absurd rfl hm
theorem Vl.sees {H0 : Hp} (h : Vl m P w K H0 H F ρ σ dσ v d) (hm : m ≠ .own) (s : Sm P w K H F ρ Z σ dσ st) : Sees P w K H F ρ v d := by
  cases m with
  | val => exact .inl h
  | pk => exact Pk.sees s h
  | own => exact absurd rfl hm
/-- two in a row -/
theorem run2 {e' : E} {m' : Md} (hm : m ≠ .own) (s : Sm P w K H F ρ Z σ dσ st) (e1 : evE cf e dσ st = .ok x s1) (e2 : evE cf e' dσ s1 = .ok y s2) {R : V → V → Hp → Prop}
    (h : ∀ v u H2 F2 ρ2, Sm P w K H2 F2 ρ2 (Zr Z (rd m e ++ rd m' e')) σ dσ s2 → Stp (Ow σ dσ) H F ρ H2 F2 ρ2 → Vl m P w K H H2 F2 ρ2 σ dσ v x → Vl m' P w K H H2 F2 ρ2 σ dσ u y → R v u H2) :
    tM P w K cf m e σ H fun v H1 => tM P w K cf m' e' σ H1 fun u H2 => R v u H2 :=
  run1 s e1 fun v H1 F1 ρ1 sm1 t1 r1 => run1 sm1 e2 fun u H2 F2 ρ2 sm2 t2 r2 => h v u H2 F2 ρ2 (sm2.wkZ Zr.app) (t1.trans t2) (r1.later hm t2) (by
    cases m' with
    | val => exact r2
    | pk => exact r2
    | own =>
      obtain ⟨a, h1, h2, h3, h4, h5, h6⟩ := r2
      exact ⟨a, h1, h2, h3, h4, h5, t1.none_ h6⟩)
/-- three in a row -/
theorem run3 {e' e'' : E} {m' m'' : Md} (hm : m ≠ .own) (hm' : m' ≠ .own) (hm'' : m'' ≠ .own) (s : Sm P w K H F ρ Z σ dσ st) (e1 : evE cf e dσ st = .ok x s1) (e2 : evE cf e' dσ s1 = .ok y s2) (e3 : evE cf e'' dσ s2 = .ok z s3) {R : V → V → V → Hp → Prop}
    (h : ∀ v u t H2 F2 ρ2, Sm P w K H2 F2 ρ2 (Zr Z (rd m e ++ (rd m' e' ++ rd m'' e''))) σ dσ s3 → Stp (Ow σ dσ) H F ρ H2 F2 ρ2 → Vl m P w K H H2 F2 ρ2 σ dσ v x → Vl m' P w K H H2 F2 ρ2 σ dσ u y → Vl m'' P w K H H2 F2 ρ2 σ dσ t z → R v u t H2) :
    tM P w K cf m e σ H fun v H1 => tM P w K cf m' e' σ H1 fun u H2 => tM P w K cf m'' e'' σ H2 fun t H3 => R v u t H3 := by
  have cv : ∀ {m : Md} {H0 H0' H F : Hp} {ρ : List Addr} {v : V} {d : D}, m ≠ .own → Vl m P w K H0 H F ρ σ dσ v d → Vl m P w K H0' H F ρ σ dσ v d := fun {m _ _ _ _ _ _ _} hm h => by
    cases m with
    | val => exact h
    | pk => exact h
    | own => exact absurd rfl hm
  exact run1 s e1 fun v H1 F1 ρ1 sm1 t1 r1 => run2 hm' sm1 e2 e3 fun u t H2 F2 ρ2 sm2 t2 r2 r3 => h v u t H2 F2 ρ2 (sm2.wkZ Zr.app) (t1.trans t2) (r1.later hm t2) (cv hm' r2) (cv hm'' r3)
/-- a new one is shared -/
theorem FreshV.share {H0 : Hp} (s : Sm P w K H F ρ Z σ dσ st) (h : FreshV P w K H0 H F ρ σ dσ v d) (t : Stp (Ow σ dσ) H0 F' ρ' H F ρ) :
    ∃ F2, Sm P w K H F2 ρ Z σ dσ st ∧ Stp (Ow σ dσ) H0 F' ρ' H F2 ρ ∧ Rep P w K F2 ρ v d := by
  obtain ⟨a, rfl, h2, h3, h4, h5, h6⟩ := h
  obtain ⟨o, q⟩ := h2.some
  refine ⟨upd F a o, s.share q h3 h4 h5, ⟨t.h, t.f.trans (fsub_upd h3), fun b e => ?_, t.r, t.q, t.d⟩, (h2.mono (fsub_upd h3) (Pre.refl ρ) fun _ q => q).rep fun o' q' => by rw [q] at q'; cases q'; exact upd_same⟩
  by_cases hb : b = a
  · subst hb; exact .inr (.inl h6)
  · rw [upd_ne hb] at e; exact t.n b e
theorem own_val {X : Cx} {xx : Expr} (h : PE X xx (tM P w K cf .own e)) : PE X xx (tM P w K cf .val e) := PE.imp h fun σ H Q ⟨F, ρ, Z, dσ, st, s, o⟩ => ⟨F, ρ, Z, dσ, st, s, by
  cases hev : evE cf e dσ st with
  | ok d s1 =>
    rw [hev] at o
    intro v H' F' ρ' sm t r
    obtain ⟨F2, g1, g2, g3⟩ := FreshV.share sm r t
    exact o v H' F2 ρ' g1 g2 g3
  | exc c s1 => rw [hev] at o; exact o
  | bad => rw [hev] at o; exact o⟩
theorem val_pk {X : Cx} {xx : Expr} (hv : isVar e = false) (h : PE X xx (tM P w K cf .val e)) : PE X xx (tM P w K cf .pk e) := PE.imp h fun σ H Q ⟨F, ρ, Z, dσ, st, s, o⟩ => ⟨F, ρ, Z, dσ, st, s, by
  cases hev : evE cf e dσ st with
  | ok d s1 =>
    rw [hev] at o
    intro v H' F' ρ' sm t r
    refine o v H' F' ρ' (sm.wkZ ?_) t (.inl r)
    show ∀ i, Zr Z (rdE e) i → Zr Z (rdP e) i
    rw [rdP_eq hv]
    exact fun _ q => q
  | exc c s1 => rw [hev] at o; exact o
  | bad => rw [hev] at o; exact o⟩
/-- all modes from the plain one -/
theorem of_val {X : Cx} {xx : Expr} (hv : isVar e = false) (h : PE X xx (tM P w K cf .val e)) : ∀ m, m ≠ .own → PE X xx (tM P w K cf m e)
  | .val, _ => h
  | .pk, _ => val_pk hv h
  | .own, z => absurd rfl z
theorem of_own {X : Cx} {xx : Expr} (hv : isVar e = false) (h : PE X xx (tM P w K cf .own e)) : ∀ m, PE X xx (tM P w K cf m e)
  | .val => own_val h
  | .pk => val_pk hv (own_val h)
  | .own => h
end
end PV
end
section
set_option Elab.async false
set_option linter.all false
set_option maxRecDepth 100000
set_option maxHeartbeats 2000000
/-! PvS5: an expression's form checked against the text. -/
namespace PV
open PySem PySem.Spec PyProof.Rows L2

def opIs : Op → Operator → Bool
  | .add, .Add => true | .sub, .Sub => true | .mul, .Mult => true | .fdiv, .FloorDiv => true | .mod, .Mod => true | .pow, .Pow => true | _, _ => false
theorem opIs_eq {o : Op} {p : Operator} (h : opIs o p = true) : p = opOf o := by cases o <;> cases p <;> first | rfl | cases h
def cpIs : Cp → CmpOp → Bool
  | .eq, .Eq => true | .ne, .NotEq => true | .lt, .Lt => true | .le, .LtE => true | .gt, .Gt => true | .ge, .GtE => true | .isin, .In => true | .notin, .NotIn => true | .is_, .Is => true | .isnot, .IsNot => true | _, _ => false
theorem cpIs_eq {o : Cp} {p : CmpOp} (h : cpIs o p = true) : p = cpOf o := by cases o <;> cases p <;> first | rfl | cases h
def cstB : Const → D → Bool
  | .none, .non => true
  | .bool b, .bl c => b == c
  | .int i, .int j => decide (i = j)
  | .str x, .str y => decide (x = y)
  | _, _ => false
def nameB (N : List Str) (i : Nat) (x : Str) : Bool := match N[i]? with
  | some y => decide (y = x)
  | none => false
theorem nameB_eq {N : List Str} {i : Nat} {x : Str} (h : nameB N i x = true) : N[i]? = some x := by
  unfold nameB at h
  split at h
  · rename_i y q; rw [q, of_decide_eq_true h]
  · cases h
def visB (sc : Scope) (x : Str) : Bool := match sc.names.lookup x with
  | some .local => true
  | some .cell => true
  | some .free => true
  | _ => false
theorem visB_eq {sc : Scope} {x : Str} (h : visB sc x = true) : Vis sc x := by
  unfold visB at h
  split at h <;> first | exact .inl (by assumption) | exact .inr (.inl (by assumption)) | exact .inr (.inr (by assumption)) | cases h
def glB (sc : Scope) (x : Str) : Bool := match sc.names.lookup x with
  | some .globalImplicit => true
  | _ => false
theorem glB_eq {sc : Scope} {x : Str} (h : glB sc x = true) : sc.names.lookup x = some .globalImplicit := by
  unfold glB at h
  split at h <;> first | assumption | cases h
def plainNm (x : Str) : Bool := !(x == ("__debug__" : Str)) && !(x == ("__classdict__" : Str)) && !(x == ("__name__" : Str))
def nsB : Expr → Bool
  | .Starred _ _ => false
  | _ => true
def plainIxB : Expr → Bool
  | .Slice _ _ _ _ => false
  | _ => true
def setB : Expr → Bool
  | .Set _ _ _ => true
  | _ => false
theorem star_ok {e : Expr} (h : nsB e = true) (es : List Expr) (env : Env) : starEach (e :: es) env = (false, eval e env) :: starEach es env := by
  cases e <;> first | rfl | cases h
theorem nostar_ok : ∀ {es : List Expr} (h : es.all nsB = true) (pos : Pos) (env : Env), (backTo pos (starEach es env)).any (·.1) = false
  | [], _, _, _ => rfl
  | e :: es, h, pos, env => by
    rw [List.all_cons, Bool.and_eq_true] at h
    rw [star_ok h.1]
    show ((backTo pos ((false, eval e env) :: starEach es env)).any (·.1)) = false
    unfold backTo
    rw [List.map_cons, List.any_cons]
    have z := nostar_ok h.2 pos env
    unfold backTo at z
    rw [z]
    rfl
theorem nomarkB {op : CmpOp} {b : Expr} (h : setB b = false) : behindInMarks op b = false := by cases b <;> first | rfl | cases h
theorem plainIx_ok {b : Expr} (h : plainIxB b = true) : PlainIx b := by cases b <;> first | exact fun _ _ => rfl | cases h
theorem folded_ok {e : Expr} (h : setB e = false) (env : Env) : ∀ x, foldedSetIterable e env x = pure x := by cases e <;> first | exact fun _ => rfl | cases h
/-- an expression that isTrue takes by its value -/
def valB : Expr → Bool
  | .UnaryOp _ _ _ => false
  | .BoolOp _ _ _ => false
  | .IfExp _ _ _ _ => false
  | .Compare _ _ _ _ => false
  | _ => true
theorem val_ok {e : Expr} (h : valB e = true) (env : Env) : ∀ whole, isTrue e env whole = (do let v ← whole; standAt e.pos; holding [v] (truthy v)) := by
  cases e <;> first | exact fun _ => rfl | cases h
def locB (sc : Scope) (x : Str) : Bool := match sc.names.lookup x with
  | some .local => true
  | some .cell => true
  | _ => false
theorem locB_eq {sc : Scope} {x : Str} (h : locB sc x = true) : Loc sc x := by
  unfold locB at h
  split at h <;> first | exact .inl (by assumption) | exact .inr (by assumption) | cases h
/-- a comprehension's target within the slots that are its own -/
def tgC (N : List Str) (scope : Scope) (own : List Nat) : Tg → Expr → Bool
  | .one i, .Name x _ => nameB N i x && locB scope x && own.contains i
  | .many is, .Tuple es _ _ => tgsC N scope own is es
  | _, _ => false
where tgsC (N : List Str) (scope : Scope) (own : List Nat) : List Nat → List Expr → Bool
  | [], [] => true
  | i :: is, .Name x _ :: es => nameB N i x && locB scope x && own.contains i && tgsC N scope own is es
  | _, _ => false
def ownP (N : List Str) (own : List Nat) : List (Str × Nat) := own.map fun i => (N.getD i "", i)

def isPair : E → Bool
  | .enm _ => true | .zp _ _ => true | _ => false
def isMany : Tg → Bool
  | .many _ => true | .one _ => false
def isNonE : E → Bool
  | .cst .non => true
  | _ => false
/-- not an IfExp -/
def ntB : Expr → Bool
  | .IfExp _ _ _ _ => false
  | _ => true
mutual
def okE (G : Cg) : E → Scope → Expr → Bool
  | .cst d, _, .Constant c _ _ => cstB c d
  | .var i, sc, .Name x _ => nameB G.N i x && visB sc x && plainNm x
  | .glc d, sc, .Name x _ => glB sc x && plainNm x && G.gcs.any fun p => decide (p.1 = x) && D.beq p.2 d
  | .bin o a b, sc, .BinOp l op r _ => opIs o op && okE G a sc l && okE G b sc r
  | .neg a, sc, .UnaryOp .USub x _ => okE G a sc x
  | .cmp o a b, sc, .Compare l [op] [r] _ => cpIs o op && okE G a sc l && okE G b sc r && !setB r
  | .chn o p a b c, sc, .Compare l [op, oq] [r, t] _ => cpIs o op && cpIs p oq && okE G a sc l && okE G b sc r && okE G c sc t && !setB t
  | .ands es, sc, .BoolOp .And xs _ => okEs G es sc xs && xs.all ntB
  | .ors es, sc, .BoolOp .Or xs _ => okEs G es sc xs && xs.all ntB
  | .nt a, sc, .UnaryOp .Not x _ => okE G a sc x && ntB x
  | .ite c a b, sc, .IfExp t x y _ => okE G c sc t && ntB t && okE G a sc x && okE G b sc y
  | .tup es, sc, .Tuple xs _ _ => okEs G es sc xs
  | .lst es, sc, .List xs _ => okEs G es sc xs
  | .idx a i, sc, .Subscript x y _ => okE G a sc x && okE G i sc y && plainIxB y
  | .sl a lo hi, sc, .Subscript x (.Slice l u .none _) _ => okE G a sc x && (match l with
      | .none => isNonE lo
      | some y => okE G lo sc y && !isNonE lo) && (match u with
      | .none => isNonE hi
      | some y => okE G hi sc y && !isNonE hi)
  | .rev a, sc, .Subscript x (.Slice .none .none (some (.UnaryOp .USub (.Constant (.int 1) _ _) _)) _) _ => okE G a sc x
  | .call f es, sc, .Call (.Name x _) xs [] _ => glB sc x && plainNm x && nameB G.fns f x && okEs G es sc xs
  | .blt b es, sc, .Call (.Name x _) xs [] _ => glB sc x && decide (x = bfNm b) && bfOn b && (match isIsi b, es, xs with
      | true, [a], [y, .Name c _] => okE G a sc y && nsB y && glB sc c && decide (c = Str.ofString (bfCl b))
      | false, a :: es', y :: ys => okEs G (a :: es') sc (y :: ys)
      | _, _, _ => false)
  | .comp e t it c own, sc, .ListComp elt [⟨tg, iter, ifs, as⟩] scope _ => okI G it sc iter && !setB iter && decide (as = 0) && blkC G.N sc scope (ownP G.N own) && tgC G.N scope own t tg && (!isPair it || isMany t) && okE G e (relS scope sc) elt &&
      (match ifs with
      | [] => (match c with
        | .cst (.bl true) => true
        | _ => false)
      | [x] => okE G c (relS scope sc) x && ntB x
      | _ => false)
  | .nrf a, sc, x => okE G a sc x && frsh a && valB x
  | _, _, _ => false
def okEs (G : Cg) : List E → Scope → List Expr → Bool
  | [], _, [] => true
  | e :: es, sc, x :: xs => okE G e sc x && nsB x && okEs G es sc xs
  | _, _, _ => false
def okI (G : Cg) : E → Scope → Expr → Bool
  | .rng1 a, sc, .Call (.Name x _) [y] [] _ => glB sc x && decide (x = ("range" : Str)) && okE G a sc y && nsB y
  | .rng2 a b, sc, .Call (.Name x _) [y, z] [] _ => glB sc x && decide (x = ("range" : Str)) && okE G a sc y && okE G b sc z && nsB y && nsB z
  | .rngd a b, sc, .Call (.Name x _) [y, z, .UnaryOp .USub (.Constant (.int 1) _ _) _] [] _ => glB sc x && decide (x = ("range" : Str)) && okE G a sc y && okE G b sc z && nsB y && nsB z
  | .enm a, sc, .Call (.Name x _) [y] [] _ => glB sc x && decide (x = ("enumerate" : Str)) && okE G a sc y && nsB y
  | .zp a b, sc, .Call (.Name x _) [y, z] [] _ => glB sc x && decide (x = ("zip" : Str)) && okE G a sc y && okE G b sc z && nsB y && nsB z
  | .itv a, sc, x => okE G a sc x
  | _, _, _ => false
end
/-- a node that stands where a value stands (itv and its like stand where a loop walks) -/
def isIter : E → Bool
  | .rng1 _ => true | .rng2 _ _ => true | .rngd _ _ => true | .enm _ => true | .zp _ _ => true | .itv _ => true | _ => false
end PV
end
section
set_option Elab.async false
set_option linter.all false
set_option maxRecDepth 100000
set_option maxHeartbeats 2000000
/-! PvS6: the expressions' readings, one construct at a time. -/
namespace PV
open PySem PySem.Spec PyProof.Rows L2

/-- what a def promises: what cf says of it -/
def spF (P : Program) (w : World) (K : PySem.W.Frag) (cf : CF) (i : Nat) : Sp := fun vs H Q _ => ∃ F ρ ds st, Rf P w K H F ρ st ∧ Reps P w K F ρ vs ds ∧ Out (cf i ds st) fun d st' =>
  ∀ v H' F' ρ', Rf P w K H' F' ρ' st' → Stp (fun _ => False) H F ρ H' F' ρ' → Rep P w K F' ρ' v d → Q v H'
structure XOk (X : Cx) (G : Cg) (sc : Scope) (cf : CF) : Prop where
  N : X.N = G.N
  nd : G.N.Nodup
  sc : X.env.scope = sc
  calm : X.calm = true
  hu : X.A.units + 65 < cLine
  fn : ∀ i x, G.fns[i]? = some x → ∃ f fd ps k, FnOk X.prog X.w X.K X.mg X.base CX0 k f fd ps (spF X.prog X.w X.K cf i) ∧ Room k X.A ∧ X.mg x = some (.ref f) ∧ PySem.W.keepIn X.K (.ref f) = true ∧ Binds X.K fd ps []
  gc : ∀ x d, (x, d) ∈ G.gcs → ∃ u v, X.mg x = some u ∧ RelV v u ∧ ∀ F ρ, Rep X.prog X.w X.K F ρ v d
  bl : ∀ b : Bf, X.mg (bfNm b) = none
  tyB : X.mg "bool" = none
  rg : X.mg "range" = none
  en : X.mg "enumerate" = none
  zp : X.mg "zip" = none

section
variable {X : Cx} {G : Cg} {sc : Scope} {cf : CF} {xx yy zz : Expr} {a b c e : E} {pos : Pos}
abbrev tX (X : Cx) (cf : CF) (m : Md) (e : E) : TE := tM X.prog X.w X.K cf m e

theorem s_cst {k : Nat} {cc : Const} {d : D} (h : cstB cc d = true) : PE X (.Constant cc k pos) (tX X cf .val (.cst d)) := by
  have go : ∀ {t : V}, (∀ F ρ, Rep X.prog X.w X.K F ρ t d) → ∀ σ H Q, tX X cf .val (.cst d) σ H Q → Q t H := fun {t} r σ H Q h => by
    obtain ⟨F, ρ, Z, dσ, st, s, o⟩ := h
    exact o t H F ρ (s.wkZ fun _ => .inl) Stp.refl (r F ρ)
  cases cc <;> cases d <;> first | (cases h; done) | skip
  · exact PE.imp pe_non (go fun _ _ => .non)
  · rename_i p q
    obtain rfl : p = q := eq_of_beq h
    exact PE.imp pe_bl (go fun _ _ => .bl _)
  · rename_i p q
    obtain rfl : p = q := of_decide_eq_true h
    exact PE.imp pe_int (go fun _ _ => .int _)
  · rename_i p q
    obtain rfl : p = q := of_decide_eq_true h
    exact PE.imp pe_str (go fun _ _ => .str _)
theorem nm_ok {x : Str} (h : plainNm x = true) : (x == ("__debug__" : Str)) = false ∧ (x == ("__classdict__" : Str)) = false ∧ x ≠ "__name__" := by
  unfold plainNm at h
  simp only [Bool.and_eq_true, Bool.not_eq_true'] at h
  exact ⟨h.1.1, h.1.2, fun z => by rw [z] at h; simp at h⟩
theorem s_var (K0 : XOk X G sc cf) {i : Nat} {x : Str} (h : (nameB G.N i x && visB sc x && plainNm x) = true) : ∀ m, m ≠ .own → PE X (.Name x pos) (tX X cf m (.var i)) := by
  simp only [Bool.and_eq_true] at h
  obtain ⟨⟨h1, h2⟩, h3⟩ := h
  obtain ⟨n1, n2, _⟩ := nm_ok h3
  have p : PE X (.Name x pos) (tVar i) := pe_var (by rw [K0.N]; exact nameB_eq h1) (by rw [K0.sc]; exact visB_eq h2) n1 n2
  intro m hm
  refine PE.imp p fun σ H Q h => ?_
  obtain ⟨F, ρ, Z, dσ, st, s, o⟩ := h
  rw [evE] at o
  obtain ⟨d, hd, o⟩ := o.of
  cases m with
  | own => exact absurd rfl hm
  | pk =>
    obtain ⟨v, g1, g2⟩ := s.peek hd
    exact ⟨v, g1, o v H F ρ (s.wkZ fun _ => .inl) Stp.refl g2⟩
  | val =>
    obtain ⟨v, F', g1, g2, g3, g4⟩ := s.get hd
    exact ⟨v, g1, o v H F' ρ (g2.wkZ fun j q => q.imp id fun z => by subst z; exact List.mem_singleton.mpr rfl) g4 g3⟩
theorem s_glc (K0 : XOk X G sc cf) {x : Str} {d : D} (h : (glB sc x && plainNm x && G.gcs.any fun p => decide (p.1 = x) && D.beq p.2 d) = true) : PE X (.Name x pos) (tX X cf .val (.glc d)) := by
  simp only [Bool.and_eq_true, List.any_eq_true, decide_eq_true_eq] at h
  obtain ⟨⟨h1, h2⟩, ⟨⟨y, q⟩, h3, h4, h5⟩⟩ := h
  obtain ⟨n1, n2, _⟩ := nm_ok h2
  have h4 : y = x := h4
  subst h4
  have h5 := D.eq_of_beq _ _ h5
  subst h5
  obtain ⟨u, v, g1, g2, g3⟩ := K0.gc y q h3
  refine PE.imp (pe_glob (by show X.env.scope.names.lookup y = _; rw [K0.sc]; exact glB_eq h1) g1 g2 n1) fun σ H Q h => ?_
  obtain ⟨F, ρ, Z, dσ, st, s, o⟩ := h
  exact o v H F ρ (s.wkZ fun _ => .inl) Stp.refl (g3 F ρ)
theorem s_bin {o : Op} (ha : PE X xx (tX X cf .val a)) (hb : PE X yy (tX X cf .val b)) : PE X (.BinOp xx (opOf o) yy pos) (tX X cf .val (.bin o a b)) := by
  refine PE.imp (pe_op (op_bin o) ha hb) fun σ H Q h => ?_
  obtain ⟨F, ρ, Z, dσ, st, s, q⟩ := h
  rw [evE] at q
  obtain ⟨d1, s1, e1, q⟩ := q.bind
  obtain ⟨d2, s2, e2, q⟩ := q.bind
  obtain ⟨d, e3, q⟩ := q.of
  refine run2 (by simp) s e1 e2 fun v u H2 F2 ρ2 sm t r1 r2 => ?_
  exact bin_ok o e3 sm r1 r2 (q.after t).res
theorem s_neg (ha : PE X xx (tX X cf .val a)) : PE X (.UnaryOp .USub xx pos) (tX X cf .val (.neg a)) := by
  refine PE.imp (pe_un un_neg ha) fun σ H Q h => ?_
  obtain ⟨F, ρ, Z, dσ, st, s, q⟩ := h
  rw [evE] at q
  obtain ⟨d1, s1, e1, q⟩ := q.bind
  split at q
  · refine run1 s e1 fun v H1 F1 ρ1 sm t r => ?_
    cases r
    exact ⟨_, rfl, q _ H1 F1 ρ1 sm t (.int _)⟩
  · exact q.elim
/-- a test's reading -/
def tT (X : Cx) (cf : CF) (e : E) : TT := fun σ H Q => ∃ F ρ Z dσ st, Sm X.prog X.w X.K H F ρ Z σ dσ st ∧ Out (evE cf e dσ st) fun d st' => ∃ b, d = .bl b ∧
  ∀ H' F' ρ', Sm X.prog X.w X.K H' F' ρ' (Zr Z (rdE e)) σ dσ st' → Stp (Ow σ dσ) H F ρ H' F' ρ' → Q b H'
theorem tT_of {σ : L2.St} {H : Hp} {Q : Bool → Hp → Prop} (h : tT X cf e σ H Q) : tX X cf .val e σ H fun x H' => ∃ k, x = .bl k ∧ Q k H' := by
  obtain ⟨F, ρ, Z, dσ, st, s, o⟩ := h
  refine ⟨F, ρ, Z, dσ, st, s, ?_⟩
  cases ev : evE cf e dσ st with
  | ok d s1 =>
    rw [ev] at o
    obtain ⟨b, rfl, o⟩ := o
    intro v H' F' ρ' sm t r
    cases r
    exact ⟨b, rfl, o H' F' ρ' sm t⟩
  | exc _ _ => rw [ev] at o; exact o
  | bad => rw [ev] at o; exact o
theorem t_val (h : PE X xx (tX X cf .val e)) (hv : valB xx = true) : PT X xx (tT X cf e) := PT.imp (pt_val h (val_ok hv X.env)) fun σ H Q q => tT_of q
theorem s_cmp (K0 : XOk X G sc cf) {o : Cp} (hb' : setB yy = false) (ha : PE X xx (tX X cf .pk a)) (hb : PE X yy (tX X cf .pk b)) :
    PE X (.Compare xx [cpOf o] [yy] pos) (tX X cf .val (.cmp o a b)) ∧ PT X (.Compare xx [cpOf o] [yy] pos) (tT X cf (.cmp o a b)) := by
  have hi : ∀ σ H Q, tX X cf .val (.cmp o a b) σ H Q → tOp (rCmp X.K o) (tX X cf .pk a) (tX X cf .pk b) σ H Q := fun σ H Q h => by
    obtain ⟨F, ρ, Z, dσ, st, s, q⟩ := h
    rw [evE] at q
    obtain ⟨d1, s1, e1, q⟩ := q.bind
    obtain ⟨d2, s2, e2, q⟩ := q.bind
    split at q
    · rename_i x' y' g1 g2
      obtain ⟨d, e3, q⟩ := q.of
      obtain ⟨bb, e4, rfl⟩ := Option.map_eq_some_iff.mp e3
      refine run2 (by simp) s e1 e2 fun v u H2 F2 ρ2 sm t r1 r2 => ?_
      exact cmp_ok o e4 sm.rf.fs (Pk.deref sm r1 g1) (Pk.deref sm r2 g2) (q _ H2 F2 ρ2 sm t (.bl _))
    · exact q.elim
  exact ⟨PE.imp (pe_cmpR (op_cmp K0.hu o) ha hb (nomarkB hb')) hi, PT.imp (pt_cmpR (op_cmp K0.hu o) ha hb (nomarkB hb')) fun σ H Q q => hi _ _ _ (tT_of q)⟩
theorem s_chn (K0 : XOk X G sc cf) {o p : Cp} (hb' : setB zz = false) (ha : PE X xx (tX X cf .val a)) (hb : PE X yy (tX X cf .val b)) (hc : PE X zz (tX X cf .val c)) :
    PE X (.Compare xx [cpOf o, cpOf p] [yy, zz] pos) (tX X cf .val (.chn o p a b c)) ∧ PT X (.Compare xx [cpOf o, cpOf p] [yy, zz] pos) (tT X cf (.chn o p a b c)) := by
  have hm : lastMarks [cpOf o, cpOf p] [yy, zz] = false := nomarkB (op := cpOf p) hb'
  have hi : ∀ σ H Q, tX X cf .val (.chn o p a b c) σ H Q → tChain (rCmp X.K o) (rCmp X.K p) (tX X cf .val a) (tX X cf .val b) (tX X cf .val c) σ H Q := fun σ H Q h => by
    obtain ⟨F, ρ, Z, dσ, st, s, q⟩ := h
    rw [evE] at q
    obtain ⟨d1, s1, e1, q⟩ := q.bind
    obtain ⟨d2, s2, e2, q⟩ := q.bind
    refine run2 (by simp) s e1 e2 fun v u H2 F2 ρ2 sm t r1 r2 => ?_
    split at q
    · rename_i g
      obtain ⟨d3, s3, e3, q⟩ := q.bind
      obtain ⟨d, e4, q⟩ := q.of
      obtain ⟨bb, e5, rfl⟩ := Option.map_eq_some_iff.mp e4
      refine cmp_ok o g sm.rf.fs (.inl r1) (.inl r2) ⟨true, rfl, ?_⟩
      rw [if_pos rfl]
      refine run1 sm e3 fun v' H3 F3 ρ3 sm3 t3 r3 => ?_
      refine cmp_ok p e5 sm3.rf.fs (.inl (Rep.mono t3.f t3.r r2)) (.inl r3) (q _ H3 F3 ρ3 (sm3.wkZ fun i z => ?_) (t.trans t3) (.bl _))
      have z := Zr.app i z
      rwa [List.append_assoc] at z
    · rename_i g
      refine cmp_ok o g sm.rf.fs (.inl r1) (.inl r2) ⟨false, rfl, ?_⟩
      rw [if_neg Bool.false_ne_true]
      refine q _ H2 F2 ρ2 (sm.wkZ (Zr.wk fun i z => ?_)) t (.bl _)
      show i ∈ rdE a ++ (rdE b ++ rdE c)
      rcases List.mem_append.mp z with z | z
      · exact List.mem_append_left _ z
      · exact List.mem_append_right _ (List.mem_append_left _ z)
    · exact q.elim
  exact ⟨PE.imp (pe_chain (op_cmp K0.hu o) (op_cmp K0.hu p) ha hb hc hm) hi, PT.imp (pt_chain (op_cmp K0.hu o) (op_cmp K0.hu p) ha hb hc hm) fun σ H Q q => hi _ _ _ (tT_of q)⟩
theorem s_nt (ht : PT X xx (tT X cf a)) (ha : PE X xx (tX X cf .val a)) : PE X (.UnaryOp .Not xx pos) (tX X cf .val (.nt a)) ∧ PT X (.UnaryOp .Not xx pos) (tT X cf (.nt a)) := by
  refine ⟨PE.imp (pe_not ha) fun σ H Q h => ?_, PT.imp (pt_not ht) fun σ H Q h => ?_⟩
  · obtain ⟨F, ρ, Z, dσ, st, s, q⟩ := h
    rw [evE] at q
    obtain ⟨d1, s1, e1, q⟩ := q.bind
    split at q
    · refine run1 s e1 fun v H1 F1 ρ1 sm t r => ?_
      cases r
      exact ⟨_, rfl, q _ H1 F1 ρ1 sm t (.bl _)⟩
    · exact q.elim
  · obtain ⟨F, ρ, Z, dσ, st, s, q⟩ := h
    rw [evE] at q
    obtain ⟨d1, s1, e1, q⟩ := q.bind
    split at q
    · obtain ⟨b, hb, q⟩ := q
      cases hb
      refine ⟨F, ρ, Z, dσ, st, s, ?_⟩
      rw [e1]
      exact ⟨_, rfl, fun H' F' ρ' sm t => q H' F' ρ' sm t⟩
    · exact q.elim
theorem s_ite {m : Md} (ht : PT X zz (tT X cf c)) (ha : PE X xx (tX X cf m a)) (hb : PE X yy (tX X cf m b)) (hm : m ≠ .pk) : PE X (.IfExp zz xx yy pos) (tX X cf m (.ite c a b)) := by
  refine PE.imp (pe_ifExp ht ha hb) fun σ H Q h => ?_
  obtain ⟨F, ρ, Z, dσ, st, s, q⟩ := h
  rw [evE] at q
  obtain ⟨d1, s1, e1, q⟩ := q.bind
  have hr : ∀ e, rd m e = rdE e := fun e => by cases m <;> first | rfl | exact absurd rfl hm
  refine ⟨F, ρ, Z, dσ, st, s, ?_⟩
  rw [e1]
  split at q
  · refine ⟨true, rfl, fun H1 F1 ρ1 sm t => ?_⟩
    refine iteT ?_
    refine ⟨F1, ρ1, _, dσ, s1, sm, ?_⟩
    cases e2 : evE cf a dσ s1 with
    | ok d2 s2 =>
      rw [e2] at q
      refine (Rs.after q t).wkZ fun i z => ?_
      rw [hr] at z ⊢
      rcases z with (z | z) | z
      · exact .inl z
      · exact .inr (List.mem_append_left _ z)
      · exact .inr (List.mem_append_right _ (List.mem_append_left _ z))
    | exc _ _ => rw [e2] at q; exact q
    | bad => rw [e2] at q; exact q
  · refine ⟨false, rfl, fun H1 F1 ρ1 sm t => ?_⟩
    refine iteF ?_
    refine ⟨F1, ρ1, _, dσ, s1, sm, ?_⟩
    cases e2 : evE cf b dσ s1 with
    | ok d2 s2 =>
      rw [e2] at q
      refine (Rs.after q t).wkZ fun i z => ?_
      rw [hr] at z ⊢
      rcases z with (z | z) | z
      · exact .inl z
      · exact .inr (List.mem_append_left _ z)
      · exact .inr (List.mem_append_right _ (List.mem_append_right _ z))
    | exc _ _ => rw [e2] at q; exact q
    | bad => rw [e2] at q; exact q
  · exact q.elim

/-! ### lists of expressions -/
inductive AllE (X : Cx) (cf : CF) : List E → List Expr → Prop
  | nil : AllE X cf [] []
  | cons {e : E} {x : Expr} {es : List E} {xs : List Expr} : (∀ m, m ≠ .own → PE X x (tX X cf m e)) → (ntB x = true → PT X x (tT X cf e)) → nsB x = true → AllE X cf es xs → AllE X cf (e :: es) (x :: xs)
def rds : Md → List E → List Nat
  | .pk, es => rdPs es
  | _, es => rdEs es
def VlL (m : Md) (P : Program) (w : World) (K : PySem.W.Frag) (F : Hp) (ρ : List Addr) (σ : L2.St) (dσ : Sg) (vs : List V) (ds : List D) : Prop := match m with
  | .pk => Paired (fun v d => Pk P w K F ρ σ dσ v d) vs ds
  | _ => Reps P w K F ρ vs ds
def tAs (X : Cx) (cf : CF) (m : Md) (es : List E) : TA := fun σ H Q => ∃ F ρ Z dσ st, Sm X.prog X.w X.K H F ρ Z σ dσ st ∧ Out (evEs cf es dσ st) fun ds st' =>
  ∀ vs H' F' ρ', Sm X.prog X.w X.K H' F' ρ' (Zr Z (rds m es)) σ dσ st' → Stp (Ow σ dσ) H F ρ H' F' ρ' → VlL m X.prog X.w X.K F' ρ' σ dσ vs ds → Q vs H'
theorem PA.imp {xs : List Expr} {t t' : TA} (h : PA X xs t) (hi : ∀ σ H Q, t' σ H Q → t σ H Q) : PA X xs t' := ⟨fun pos pins s σ H Q I hq => h.run pos pins s σ H Q I (hi _ _ _ hq)⟩
theorem s_args {m : Md} (hm : m ≠ .own) {es : List E} {xs : List Expr} (h : AllE X cf es xs) : PA X xs (tAs X cf m es) := by
  induction h with
  | nil =>
    refine PA.imp pa_nil fun σ H Q h => ?_
    obtain ⟨F, ρ, Z, dσ, st, s, q⟩ := h
    exact q [] H F ρ (s.wkZ fun _ => .inl) Stp.refl (by cases m <;> first | exact .nil | exact absurd rfl hm)
  | @cons e x es xs h1 _ h3 _ ih =>
    refine PA.imp (pa_cons (h1 m hm) ih (star_ok h3 _ _)) fun σ H Q h => ?_
    obtain ⟨F, ρ, Z, dσ, st, s, q⟩ := h
    rw [evEs] at q
    obtain ⟨d1, s1, e1, q⟩ := q.bind
    obtain ⟨ds, s2, e2, q⟩ := q.bind
    refine run1 s e1 fun v H1 F1 ρ1 sm1 t1 r1 => ⟨F1, ρ1, _, dσ, s1, sm1, ?_⟩
    rw [e2]
    intro vs H2 F2 ρ2 sm2 t2 r2
    refine q (v :: vs) H2 F2 ρ2 (sm2.wkZ fun i z => ?_) (t1.trans t2) ?_
    · have z := Zr.app i z
      cases m with
      | own => exact absurd rfl hm
      | val => exact z
      | pk => exact z
    · cases m with
      | own => exact absurd rfl hm
      | val => exact .cons (Rep.mono t2.f t2.r r1) r2
      | pk => exact .cons (Pk.mono r1 t2) r2
theorem AllE.ns {es : List E} {xs : List Expr} (h : AllE X cf es xs) : xs.all nsB = true := by
  induction h with
  | nil => rfl
  | cons _ _ h3 _ ih => rw [List.all_cons, h3, ih]; rfl
theorem s_tup {es : List E} {xs : List Expr} {k : Nat} (h : AllE X cf es xs) : PE X (.Tuple xs k pos) (tX X cf .val (.tup es)) := by
  refine PE.imp (pe_tup (s_args (m := .val) (by simp) h)) fun σ H Q h => ?_
  obtain ⟨F, ρ, Z, dσ, st, s, q⟩ := h
  rw [evE] at q
  obtain ⟨ds, s1, e1, q⟩ := q.bind
  obtain ⟨d, e2, q⟩ := q.of
  obtain ⟨rfl, hs⟩ := tupOf_eq e2
  refine ⟨F, ρ, Z, dσ, st, s, ?_⟩
  rw [e1]
  intro vs H1 F1 ρ1 sm t r
  have r : Reps X.prog X.w X.K F1 ρ1 vs ds := r
  exact ⟨by rw [r.length]; exact small_le hs, (q.after t).res.tup sm r⟩
theorem s_lst {es : List E} {xs : List Expr} (h : AllE X cf es xs) : PE X (.List xs pos) (tX X cf .own (.lst es)) := by
  refine PE.imp (pe_lst (s_args (m := .val) (by simp) h)) fun σ H Q h => ?_
  obtain ⟨F, ρ, Z, dσ, st, s, q⟩ := h
  rw [evE] at q
  obtain ⟨ds, s1, e1, q⟩ := q.bind
  obtain ⟨d, e2, q⟩ := q.of
  obtain ⟨rfl, hs⟩ := lstOf_eq e2
  refine ⟨F, ρ, Z, dσ, st, s, ?_⟩
  rw [e1]
  intro vs H1 F1 ρ1 sm t r
  have r : Reps X.prog X.w X.K F1 ρ1 vs ds := r
  refine ⟨by rw [r.length]; exact small_le hs, fun p hp => ?_⟩
  refine q (.ref p) _ F1 ρ1 (sm.alloc hp) (t.trans (Stp.alloc hp)) ⟨p, rfl, ⟨vs, upd_same, r⟩, sm.rf.fnone hp, sm.rf.notin hp, sm.notow hp, t.none_ hp⟩

/-! ### and, or -/
theorem s_ands : ∀ {es : List E} {xs : List Expr}, AllE X cf es xs → xs ≠ [] → PE X (.BoolOp .And xs pos) (tX X cf .val (.ands es))
  | _, _, .nil, h => absurd rfl h
  | _, _, .cons (e := e0) h1 _ _ .nil, _ => PE.imp (pe_one (h1 .val (by simp))) fun σ H Q h => by
    obtain ⟨F, ρ, Z, dσ, st, s, q⟩ := h
    refine ⟨F, ρ, Z, dσ, st, s, ?_⟩
    rw [evE, evAnds] at q
    have e : rd .val (.ands [e0]) = rd .val e0 := List.append_nil (rdE e0)
    rw [e] at q
    exact q
  | _, _, .cons (e := e) h1 _ _ (.cons (e := e') (es := es) g1 g2 g3 g4), _ => PE.imp (pe_and (h1 .val (by simp)) (s_ands (.cons g1 g2 g3 g4) (by simp))) fun σ H Q h => by
    obtain ⟨F, ρ, Z, dσ, st, s, q⟩ := h
    rw [evE, evAnds] at q
    obtain ⟨d1, s1, e1, q⟩ := q.bind
    refine run1 s e1 fun v H1 F1 ρ1 sm t r => ?_
    split at q
    · cases r
      refine ⟨true, rfl, ?_⟩
      refine iteT ?_
      refine ⟨F1, ρ1, _, dσ, s1, sm, ?_⟩
      rw [evE]
      cases e2 : evAnds cf (e' :: es) dσ s1 with
      | ok d2 s2 => rw [e2] at q; exact (Rs.after q t).wkZ Zr.app
      | exc _ _ => rw [e2] at q; exact q
      | bad => rw [e2] at q; exact q
    · cases r
      refine ⟨false, rfl, ?_⟩
      refine iteF ?_
      exact q _ H1 F1 ρ1 (sm.wkZ (Zr.wk fun i z => List.mem_append_left _ z)) t (.bl _)
    · exact q.elim
theorem s_ors : ∀ {es : List E} {xs : List Expr}, AllE X cf es xs → xs ≠ [] → PE X (.BoolOp .Or xs pos) (tX X cf .val (.ors es))
  | _, _, .nil, h => absurd rfl h
  | _, _, .cons (e := e0) h1 _ _ .nil, _ => PE.imp (pe_one (h1 .val (by simp))) fun σ H Q h => by
    obtain ⟨F, ρ, Z, dσ, st, s, q⟩ := h
    refine ⟨F, ρ, Z, dσ, st, s, ?_⟩
    rw [evE, evOrs] at q
    have e : rd .val (.ors [e0]) = rd .val e0 := List.append_nil (rdE e0)
    rw [e] at q
    exact q
  | _, _, .cons (e := e) h1 _ _ (.cons (e := e') (es := es) g1 g2 g3 g4), _ => PE.imp (pe_or (h1 .val (by simp)) (s_ors (.cons g1 g2 g3 g4) (by simp))) fun σ H Q h => by
    obtain ⟨F, ρ, Z, dσ, st, s, q⟩ := h
    rw [evE, evOrs] at q
    obtain ⟨d1, s1, e1, q⟩ := q.bind
    refine run1 s e1 fun v H1 F1 ρ1 sm t r => ?_
    split at q
    · cases r
      refine ⟨false, rfl, ?_⟩
      refine iteF ?_
      refine ⟨F1, ρ1, _, dσ, s1, sm, ?_⟩
      rw [evE]
      cases e2 : evOrs cf (e' :: es) dσ s1 with
      | ok d2 s2 => rw [e2] at q; exact (Rs.after q t).wkZ Zr.app
      | exc _ _ => rw [e2] at q; exact q
      | bad => rw [e2] at q; exact q
    · cases r
      refine ⟨true, rfl, ?_⟩
      refine iteT ?_
      exact q _ H1 F1 ρ1 (sm.wkZ (Zr.wk fun i z => List.mem_append_left _ z)) t (.bl _)
    · exact q.elim
theorem s_andsT : ∀ {es : List E} {xs : List Expr}, AllE X cf es xs → xs ≠ [] → xs.all ntB = true → PW X (.BoolOp .And xs pos) (tT X cf (.ands es))
  | _, _, .nil, h, _ => absurd rfl h
  | _, _, .cons (e := e0) _ h2 _ .nil, _, hn => by
    refine ⟨fun wh pins s σ H Q I h => (pw_and1 (h2 (by simpa using hn))).run wh pins s σ H Q I ?_⟩
    obtain ⟨F, ρ, Z, dσ, st, s, q⟩ := h
    refine ⟨F, ρ, Z, dσ, st, s, ?_⟩
    rw [evE, evAnds] at q
    have e : rdE (.ands [e0]) = rdE e0 := List.append_nil (rdE e0)
    rw [e] at q
    exact q
  | _, _, .cons (e := e) _ h2 _ (.cons (e := e') (es := es) g1 g2 g3 g4), _, hn => by
    rw [List.all_cons, Bool.and_eq_true] at hn
    refine ⟨fun wh pins s σ H Q I h => (pw_and (h2 hn.1) (s_andsT (.cons g1 g2 g3 g4) (by simp) hn.2)).run wh pins s σ H Q I ?_⟩
    obtain ⟨F, ρ, Z, dσ, st, s, q⟩ := h
    rw [evE, evAnds] at q
    obtain ⟨d1, s1, e1, q⟩ := q.bind
    refine ⟨F, ρ, Z, dσ, st, s, ?_⟩
    rw [e1]
    split at q
    · refine ⟨true, rfl, fun H1 F1 ρ1 sm t => ?_⟩
      refine iteT ?_
      refine ⟨F1, ρ1, _, dσ, s1, sm, ?_⟩
      rw [evE]
      cases e2 : evAnds cf (e' :: es) dσ s1 with
      | ok d2 s2 =>
        rw [e2] at q
        obtain ⟨b, rfl, q⟩ := q
        exact ⟨b, rfl, fun H' F' ρ' sm' t' => q H' F' ρ' (sm'.wkZ Zr.app) (t.trans t')⟩
      | exc _ _ => rw [e2] at q; exact q
      | bad => rw [e2] at q; exact q
    · refine ⟨false, rfl, fun H1 F1 ρ1 sm t => ?_⟩
      refine iteF ?_
      obtain ⟨b, hb, q⟩ := q
      cases hb
      exact q H1 F1 ρ1 (sm.wkZ (Zr.wk fun i z => List.mem_append_left _ z)) t
    · exact q.elim
theorem s_orsT : ∀ {es : List E} {xs : List Expr}, AllE X cf es xs → xs ≠ [] → xs.all ntB = true → PW X (.BoolOp .Or xs pos) (tT X cf (.ors es))
  | _, _, .nil, h, _ => absurd rfl h
  | _, _, .cons (e := e0) _ h2 _ .nil, _, hn => by
    refine ⟨fun wh pins s σ H Q I h => (pw_or1 (h2 (by simpa using hn))).run wh pins s σ H Q I ?_⟩
    obtain ⟨F, ρ, Z, dσ, st, s, q⟩ := h
    refine ⟨F, ρ, Z, dσ, st, s, ?_⟩
    rw [evE, evOrs] at q
    have e : rdE (.ors [e0]) = rdE e0 := List.append_nil (rdE e0)
    rw [e] at q
    exact q
  | _, _, .cons (e := e) _ h2 _ (.cons (e := e') (es := es) g1 g2 g3 g4), _, hn => by
    rw [List.all_cons, Bool.and_eq_true] at hn
    refine ⟨fun wh pins s σ H Q I h => (pw_or (h2 hn.1) (s_orsT (.cons g1 g2 g3 g4) (by simp) hn.2)).run wh pins s σ H Q I ?_⟩
    obtain ⟨F, ρ, Z, dσ, st, s, q⟩ := h
    rw [evE, evOrs] at q
    obtain ⟨d1, s1, e1, q⟩ := q.bind
    refine ⟨F, ρ, Z, dσ, st, s, ?_⟩
    rw [e1]
    split at q
    · refine ⟨false, rfl, fun H1 F1 ρ1 sm t => ?_⟩
      refine iteF ?_
      refine ⟨F1, ρ1, _, dσ, s1, sm, ?_⟩
      rw [evE]
      cases e2 : evOrs cf (e' :: es) dσ s1 with
      | ok d2 s2 =>
        rw [e2] at q
        obtain ⟨b, rfl, q⟩ := q
        exact ⟨b, rfl, fun H' F' ρ' sm' t' => q H' F' ρ' (sm'.wkZ Zr.app) (t.trans t')⟩
      | exc _ _ => rw [e2] at q; exact q
      | bad => rw [e2] at q; exact q
    · refine ⟨true, rfl, fun H1 F1 ρ1 sm t => ?_⟩
      refine iteT ?_
      obtain ⟨b, hb, q⟩ := q
      cases hb
      exact q H1 F1 ρ1 (sm.wkZ (Zr.wk fun i z => List.mem_append_left _ z)) t
    · exact q.elim

/-! ### subscripts -/
theorem s_idx (ha : PE X xx (tX X cf .pk a)) (hb : PE X yy (tX X cf .val b)) (hp : plainIxB yy = true) : PE X (.Subscript xx yy pos) (tX X cf .val (.idx a b)) := by
  refine PE.imp (pe_ix ix_seq ha hb (plainIx_ok hp)) fun σ H Q h => ?_
  obtain ⟨F, ρ, Z, dσ, st, s, q⟩ := h
  rw [evE] at q
  obtain ⟨d1, s1, e1, q⟩ := q.bind
  obtain ⟨d2, s2, e2, q⟩ := q.bind
  split at q
  · rename_i x' g1
    obtain ⟨d, e3, q⟩ := q.of
    refine run2 (by simp) s e1 e2 fun v u H2 F2 ρ2 sm t r1 r2 => ?_
    exact idx_ok e3 sm.rf.fs (Pk.deref sm r1 g1) r2 fun v' r' => q _ H2 F2 ρ2 sm t r'
  · exact q.elim
/-- a slice's bound -/
def tO (X : Cx) (cf : CF) (a : E) : TO := fun σ H Q => ∃ F ρ Z dσ st, Sm X.prog X.w X.K H F ρ Z σ dσ st ∧ Out (evE cf a dσ st) fun d st' => ∃ r, bnd a d = some r ∧
    ∀ H' F' ρ', Sm X.prog X.w X.K H' F' ρ' (Zr Z (rdE a)) σ dσ st' → Stp (Ow σ dσ) H F ρ H' F' ρ' → Q r H'
theorem s_bnd {o : Option Expr} (h : (a = .cst .non ∧ o = none) ∨ ∃ x, o = some x ∧ isNonE a = false ∧ PE X x (tX X cf .val a)) : PO X o (tO X cf a) := by
  have imp : ∀ {t t' : TO}, PO X o t → (∀ σ H Q, t' σ H Q → t σ H Q) → PO X o t' := fun {t t'} h hi => by
    obtain ⟨run⟩ := h
    constructor
    intros
    apply run <;> first | assumption | (apply hi; assumption)
  rcases h with ⟨rfl, rfl⟩ | ⟨x, rfl, hn, hx⟩
  · refine imp po_none fun σ H Q h => ?_
    obtain ⟨F, ρ, Z, dσ, st, s, q⟩ := h
    rw [evE] at q
    obtain ⟨r, hr, q⟩ := q
    cases hr
    exact q H F ρ (s.wkZ fun _ => .inl) Stp.refl
  · refine imp (po_some hx) fun σ H Q h => ?_
    obtain ⟨F, ρ, Z, dσ, st, s, q⟩ := h
    cases e1 : evE cf a dσ st with
    | ok d s1 =>
      rw [e1] at q
      obtain ⟨r, hr, q⟩ := q
      refine run1 s e1 fun v H1 F1 ρ1 sm t r1 => ?_
      unfold bnd at hr
      split at hr
      · cases hn
      · cases hr
        cases r1
        exact ⟨_, rfl, q H1 F1 ρ1 sm t⟩
      · cases hr
    | exc _ _ => rw [e1] at q; exact q.elim
    | bad => rw [e1] at q; exact q.elim
theorem s_sl {lo hi : Option Expr} {p2 : Pos} (ha : PE X xx (tX X cf .pk a)) (hb : PO X lo (tO X cf b)) (hc : PO X hi (tO X cf c)) : PE X (.Subscript xx (.Slice lo hi none p2) pos) (tX X cf .val (.sl a b c)) := by
  refine PE.imp (pe_slice sl_all ha hb hc) fun σ H Q h => ?_
  obtain ⟨F, ρ, Z, dσ, st, s, q⟩ := h
  rw [evE] at q
  obtain ⟨d1, s1, e1, q⟩ := q.bind
  obtain ⟨d2, s2, e2, q⟩ := q.bind
  obtain ⟨d3, s3, e3, q⟩ := q.bind
  split at q
  · rename_i l h g1 g2
    obtain ⟨d, e4, q⟩ := q.of
    refine run1 s e1 fun v H1 F1 ρ1 sm1 t1 r1 => ⟨F1, ρ1, _, dσ, s1, sm1, ?_⟩
    rw [e2]
    refine ⟨l, g1, fun H2 F2 ρ2 sm2 t2 => ⟨F2, ρ2, _, dσ, s2, sm2, ?_⟩⟩
    rw [e3]
    refine ⟨h, g2, fun H3 F3 ρ3 sm3 t3 => ?_⟩
    have sm3' := sm3.wkZ fun i z => by
      have z := Zr.app i z
      exact z
    refine sl_ok e4 sm3 (Pk.sees sm3 (Pk.mono (Pk.mono r1 t2) t3)) (((q.after t1).after t2).after t3 |>.wkZ fun i z => ?_).res
    rcases z with ((z | z) | z) | z
    · exact .inl z
    · exact .inr (List.mem_append_left _ z)
    · exact .inr (List.mem_append_right _ (List.mem_append_left _ z))
    · exact .inr (List.mem_append_right _ (List.mem_append_right _ z))
  · exact q.elim
theorem s_rev {k : Nat} {p1 p2 p3 : Pos} (ha : PE X xx (tX X cf .pk a)) : PE X (.Subscript xx (.Slice none none (some (.UnaryOp .USub (.Constant (.int 1) k p1) p2)) p3) pos) (tX X cf .val (.rev a)) := by
  refine PE.imp (pe_revL ha) fun σ H Q h => ?_
  obtain ⟨F, ρ, Z, dσ, st, s, q⟩ := h
  rw [evE] at q
  obtain ⟨d1, s1, e1, q⟩ := q.bind
  split at q
  · refine run1 s e1 fun v H1 F1 ρ1 sm t r => ?_
    obtain ⟨a, vs, rfl, h1, h2⟩ := Sees.lst sm.rf.fs (Pk.sees sm r)
    exact ⟨a, vs, rfl, SqL.of h1, (q.after t).res.lst sm h2.reverse⟩
  · exact q.elim

/-! ### calls -/
theorem s_call (K0 : XOk X G sc cf) {i : Nat} {es : List E} {xs : List Expr} {x : Str} {p : Pos} (hg : glB sc x = true) (hn : plainNm x = true) (hf : nameB G.fns i x = true) (h : AllE X cf es xs) : PE X (.Call (.Name x p) xs [] pos) (tX X cf .val (.call i es)) := by
  obtain ⟨n1, _, n3⟩ := nm_ok hn
  obtain ⟨f, fd, ps, k, hF, hr, hm, hk, hb⟩ := K0.fn i x (nameB_eq hf)
  have hgl : Gl X x := by show X.env.scope.names.lookup x = _; rw [K0.sc]; exact glB_eq hg
  have fin : ∀ {σ : L2.St} {H : Hp} {Q : VK} {F ρ Z dσ st ds s1}, Sm X.prog X.w X.K H F ρ Z σ dσ st → evEs cf es dσ st = .ok ds s1 → Out (cf i ds s1) (Rs X.prog X.w X.K .val H F ρ (Zr Z (rdEs es)) σ dσ Q) →
      tAs X cf .val es σ H fun vs H1 => spF X.prog X.w X.K cf i (vs ++ []) H1 Q E0 := fun {σ H Q F ρ Z dσ st ds s1} s e1 q => by
    refine ⟨F, ρ, Z, dσ, st, s, ?_⟩
    rw [e1]
    intro vs H1 F1 ρ1 sm t r
    refine ⟨F1, ρ1, ds, s1, sm.rf, by rw [List.append_nil]; exact r, ?_⟩
    cases e2 : cf i ds s1 with
    | ok d s2 =>
      rw [e2] at q
      intro v H2 F2 ρ2 rf2 t2 r2
      exact q v H2 F2 ρ2 (sm.step t2 rf2) (t.trans (t2.wk fun _ z => z.elim)) r2
    | exc _ _ => rw [e2] at q; exact q
    | bad => rw [e2] at q; exact q
  cases h with
  | nil =>
    refine PE.imp (pe_call0 hF hr hgl hm hk hb .nil pass0 n1) fun σ H Q h => ?_
    obtain ⟨F, ρ, Z, dσ, st, s, q⟩ := h
    rw [evE] at q
    obtain ⟨ds, s1, e1, q⟩ := q.bind
    obtain ⟨F', ρ', Z', dσ', st', s', q'⟩ := fin s e1 q
    exact q' [] H F' ρ' (s'.wkZ fun _ => .inl) Stp.refl .nil
  | @cons e x' es' xs' h1 h2 h3 h4 =>
    have hA := s_args (m := .val) (by simp) (AllE.cons h1 h2 h3 h4)
    refine PE.imp (pe_call hF hr hgl hm hk hb .nil pass0 hA n1 (star_ok h3 _ _) (nostar_ok h4.ns _ _)) fun σ H Q h => ?_
    obtain ⟨F, ρ, Z, dσ, st, s, q⟩ := h
    rw [evE] at q
    obtain ⟨ds, s1, e1, q⟩ := q.bind
    exact fin s e1 q
theorem sees_all {P : Program} {w : World} {K : PySem.W.Frag} {H F : Hp} {ρ : List Addr} {Z : Nat → Prop} {σ : L2.St} {dσ : Sg} {st : ST} (s : Sm P w K H F ρ Z σ dσ st) :
    ∀ {vs : List V} {ds : List D}, Paired (fun v d => Pk P w K F ρ σ dσ v d) vs ds → SeesL P w K H F ρ vs ds
  | _, _, .nil => .nil
  | _, _, .cons r t => .cons (Pk.sees s r) (sees_all s t)
theorem s_blt (K0 : XOk X G sc cf) {bf : Bf} {es : List E} {xs : List Expr} {x : Str} {p : Pos} (hg : glB sc x = true) (hx : x = bfNm bf) (hon : bfOn bf = true) (hi : isIsi bf = false) (h : AllE X cf es xs) (hne : xs ≠ []) :
    PE X (.Call (.Name x p) xs [] pos) (tX X cf .val (.blt bf es)) := by
  subst hx
  have hgl : Gl X (bfNm bf) := by show X.env.scope.names.lookup _ = _; rw [K0.sc]; exact glB_eq hg
  obtain ⟨n1, n2⟩ := bf_nn bf
  have hA := s_args (m := .pk) (by simp) h
  cases h with
  | nil => exact absurd rfl hne
  | @cons e x' es' xs' h1 h2 h3 h4 =>
    have pe : PE X (.Call (.Name (bfNm bf) p) (x' :: xs') [] pos) (tCB (rBf X.K bf) (tAs X cf .pk (e :: es'))) := by
      have hc := cr_bf (X := X) K0.calm K0.hu bf
      have hv := bf_boot bf
      cases bf <;> first
        | exact pe_callB hc hgl (K0.bl _) hv hA n1 n2 (star_ok h3 _ _) (nostar_ok h4.ns _ _)
        | exact pe_callTy hc hgl (K0.bl _) hv hA n1 n2 (star_ok h3 _ _) (nostar_ok h4.ns _ _)
    refine PE.imp pe fun σ H Q h => ?_
    obtain ⟨F, ρ, Z, dσ, st, s, q⟩ := h
    rw [evE] at q
    obtain ⟨ds, s1, e1, q⟩ := q.bind
    obtain ⟨d, e2, q⟩ := q.of
    refine ⟨F, ρ, Z, dσ, st, s, ?_⟩
    rw [e1]
    intro vs H1 F1 ρ1 sm t r
    exact bf_ok hi sm (sees_all sm r) e2 hon (q.after t).res
theorem s_isi (K0 : XOk X G sc cf) {bf : Bf} {x c' : Str} {p p' : Pos} (hg : glB sc x = true) (hx : x = bfNm bf) (hi : isIsi bf = true) (hc : glB sc c' = true) (hc' : c' = Str.ofString (bfCl bf)) (hns : nsB xx = true) (ha : PE X xx (tX X cf .pk a)) :
    PE X (.Call (.Name x p) [xx, .Name c' p'] [] pos) (tX X cf .val (.blt bf [a])) := by
  subst hx
  subst hc'
  have hgl : Gl X (bfNm bf) := by show X.env.scope.names.lookup _ = _; rw [K0.sc]; exact glB_eq hg
  have hgc : Gl X (Str.ofString (bfCl bf)) := by show X.env.scope.names.lookup _ = _; rw [K0.sc]; exact glB_eq hc
  obtain ⟨n1, n2⟩ := bf_nn bf
  have pc : PE X (.Name (Str.ofString (bfCl bf)) p') (tC (.ty (bfCl bf))) := by
    have hm : X.mg (Str.ofString (bfCl bf)) = none := by
      cases bf <;> first | (cases hi; done) | skip
      · exact K0.bl .int
      · exact K0.tyB
      · exact K0.bl .tuple
      · exact K0.bl .list
      · exact K0.bl .str
    have hv : bootBuiltins (Str.ofString (bfCl bf)) = some (.type (bfCl bf)) := by
      cases bf <;> first | (cases hi; done) | decide +kernel
    have hz : Str.ofString (bfCl bf) ≠ "__name__" ∧ (Str.ofString (bfCl bf) == ("__debug__" : Str)) = false := by
      cases bf <;> first | (cases hi; done) | decide +kernel
    exact pe_bltn hgc hm hv rfl hz.1 hz.2
  have hA : PA X [xx, .Name (Str.ofString (bfCl bf)) p'] (tCons (tX X cf .pk a) (tCons (tC (.ty (bfCl bf))) tNil)) := pa_cons ha (pa_cons pc pa_nil rfl) (star_ok hns _ _)
  have pe : PE X (.Call (.Name (bfNm bf) p) [xx, .Name (Str.ofString (bfCl bf)) p'] [] pos) (tCB (rBf X.K bf) (tCons (tX X cf .pk a) (tCons (tC (.ty (bfCl bf))) tNil))) := by
    have hc := cr_bf (X := X) K0.calm K0.hu bf
    have hv := bf_boot bf
    cases bf <;> first
      | (cases hi; done)
      | exact pe_callB hc hgl (K0.bl .isInt) hv hA n1 n2 (star_ok hns _ _) rfl
  refine PE.imp pe fun σ H Q h => ?_
  obtain ⟨F, ρ, Z, dσ, st, s, q⟩ := h
  rw [evE] at q
  obtain ⟨ds, s1, e1, q1⟩ := q.bind
  clear q
  obtain ⟨d, e2, q2⟩ := q1.of
  clear q1
  rw [evEs] at e1
  cases e3 : evE cf a dσ st with
  | ok x1 s2 =>
    rw [e3] at e1
    have e1' : (R.ok [x1] s2 : R (List D)) = .ok ds s1 := e1
    cases e1'
    refine run1 s e3 fun v H1 F1 ρ1 sm t r => ?_
    refine isi_ok hi sm.rf.fs (Pk.sees sm r) e2 fun v' r' => q2 v' H1 F1 ρ1 (sm.wkZ (Zr.wk fun i z => ?_)) t r'
    show i ∈ rdP a ++ []
    exact List.mem_append_left _ z
  | exc _ _ => rw [e3] at e1; cases e1
  | bad => rw [e3] at e1; cases e1
end
end PV
end
section
set_option Elab.async false
set_option linter.all false
set_option maxRecDepth 100000
set_option maxHeartbeats 2000000
/-! PvEn: enumerate(tuple). -/
namespace PV
open PySem PySem.Spec PyProof.Rows L2
theorem meets_enum1 {v : Value} {o : Obj} {G : Heap → Prop} (B : Begins v o G) :
    Meets (Builtin.«enumerate.__new__» ⟨[.type "enumerate", v], []⟩) (fun _ R s => G s.heap ∧
      R (.ok (.ret (.ref (s.heap.push o).objs.size))) { s with heap := (s.heap.push o).push { cls := .type "enumerate", data := .fields #[.none, .bool false, .ref s.heap.objs.size, rawInt 0, .none, .none] } }) :=
  .of_wp fun prog w A R s h => by
    obtain ⟨hp, g, d, tk, os⟩ := s
    obtain ⟨h1, h⟩ := h
    have hsub := sub_enumerate
    have q1 : ∀ {A' : Around} {E : Value → Shared → Prop} {Q : Value → Shared → Prop}, Q (.ref hp.objs.size) ⟨hp.push o, g, d, tk, os⟩ → wpAny (model prog w) A' (pyIter v) Q E ⟨hp, g, d, tk, os⟩ :=
      fun q => B.iter prog w _ _ ⟨hp, g, d, tk, os⟩ _ h1 q
    wp_walk using q1
    refine wpAny_stack_any fun st => wpAny_pure ?_
    split
    · rename_i c _ _ _ _ _
      cases (c == Value.type "enumerate")
      · wp_walk using q1
        exact ⟨_, rfl, h⟩
      · wp_walk using q1
        exact ⟨_, rfl, h⟩
    · wp_walk using q1
      exact ⟨_, rfl, h⟩
section
variable {prog : Program} {w : World} {A : Around} {E : Value → Shared → Prop} {s : Shared}
theorem call_enumB {v : Value} {o : Obj} {G : Heap → Prop} {Q : Value → Shared → Prop} (B : Begins v o G) (h1 : G s.heap)
    (h : ∀ h', IsEnum h' (s.heap.objs.size + 1) s.heap.objs.size 0 .none → h'.get? s.heap.objs.size = some o → h'.objs.size = s.heap.objs.size + 2 →
      (∀ b o, s.heap.get? b = some o → h'.get? b = some o) → Q (.ref (s.heap.objs.size + 1)) { s with heap := h' }) :
    wpAny (model prog w) A (call (.type "enumerate") [v]) Q E s := by
  refine callType_new F.called_enumerate (by decide) (F.typeCall_enumerate_1 _) (F.newCall_enumerate_1 _) (fun obj => F.args_object_init_2 obj _) F.entry_enumerate_new
    (meets_enum1 B) ⟨h1, ?_⟩
  have hz : (s.heap.push o).objs.size = s.heap.objs.size + 1 := Heap.size_push ..
  show _ ∧ _
  rw [hz]
  have he : IsEnum ((s.heap.push o).push { cls := .type "enumerate", data := .fields #[.none, .bool false, .ref s.heap.objs.size, rawInt 0, .none, .none] }) (s.heap.objs.size + 1) s.heap.objs.size 0 .none := by
    have := Heap.get?_push_size (s.heap.push o) (o := { cls := .type "enumerate", data := .fields #[.none, .bool false, .ref s.heap.objs.size, rawInt 0, .none, .none] }) rfl
    rw [hz] at this
    exact this
  refine ⟨⟨_, he, rfl⟩, h _ he (Heap.get?_push_of_some _ (Heap.get?_push_size _ B.free)) (by rw [Heap.size_push, hz]) fun b o x => Heap.get?_push_of_some _ (Heap.get?_push_of_some _ x)⟩
end
theorem enum_end1 {prog : Program} {w : World} {A : Around} {E : Value → Shared → Prop} {s : Shared} {e it : Addr} {i : Int} {old : Value} {Q : Option Value → Shared → Prop} (he : IsEnum s.heap e it i old)
    (hd : ∀ (Q : Value → Shared → Prop) (E : Value → Shared → Prop), (∀ h' e, Heap.ExtBut it s.heap h' → (∃ o, h'.get? e = some o ∧ o.cls = .type "StopIteration") → E (.ref e) { s with heap := h' }) → wpAny (model prog w) A.in1 (Builtin.SmallTypes.nextOf (.ref it)) Q E s)
    (hQ : ∀ h', Heap.ExtBut it s.heap h' → Q none { s with heap := h' }) : wpAny (model prog w) A (pyNext (.ref e)) Q E s := by
  have hT : s.TypeIs (.ref e) "enumerate" := ⟨_, he, rfl⟩
  unfold pyNext
  refine wpAny_bind (wpAny_attempt (wpAny_callSpecial?_slot (name := Str.ofString "__next__") hT F.slot_enumerate_next
    (wpAny_call_entry F.slot_enumerate_next hT F.entry_enumerate_next ?_ (F.args_enumerate_next_1 _))))
  show wpAny _ _ (field (.ref e) 2 >>= _) _ _ _
  refine wpAny_bind (wpAny_field he rfl (x := .ref it) rfl ?_)
  refine wpAny_bind (hd _ _ fun h' x he' hx' => ?_)
  obtain ⟨o, ho, hc⟩ := hx'
  refine wpAny_bind (wpAny_isInstance (T := "StopIteration") (b := true) ⟨o, ho, hc⟩ isSubtype_stop ?_)
  exact wpAny_pure (hQ _ he')
/-- the tuple at a, each item in a new pair -/
def IteT (K : PySem.W.Frag) (a : Addr) : It :=
  ⟨fun i H => ∃ (xs : List V) (x : V), SqT K H a xs ∧ xs[i]? = some x, fun i H v H' => ∃ T x, v = .ref T ∧ H T = none ∧ H' = upd H T (.tup [.int (i : Nat), x]) ∧ ∀ xs, SqT K H a xs → xs[i]? = some x, fun i H => ∃ xs : List V, SqT K H a xs ∧ xs.length ≤ i⟩
theorem turn_enumT {P : Program} {w : World} {K : PySem.W.Frag} {elts : List Expr} {kk : Nat} {tpos : Pos} (a e it : Addr) (hai : a ≠ it) (hae : a ≠ e) :
    Turn P w K (.Tuple elts kk tpos) (IteT K a) [e, it] e (fun i h => (∃ old, IsEnum h e it ((i : Nat) : Int) old) ∧ h.IsTupleIter it a i ∧ e ≠ it) where
  mem := by simp
  obj := fun i h st b hb => by
    obtain ⟨⟨old, he⟩, ⟨o, ho, hc, hd⟩, _⟩ := st
    have e' : b = e ∨ b = it := by simpa using hb
    rcases e' with z | z
    · rw [z]; exact ⟨_, he, fun v q => nomatch q⟩
    · rw [z]; exact ⟨o, ho, fun v q => by rw [hd] at q; cases q⟩
  keep := fun i h h' st k => let ⟨⟨old, he⟩, hi, hne⟩ := st; ⟨⟨old, k e (by simp) _ he⟩, hi.at fun o q => k it (by simp) o q, hne⟩
  item := by
    intro X hP hw hK hc i pins s σ H E I hf st hg
    subst hP hw hK
    obtain ⟨⟨old, he⟩, hit, hne⟩ := st
    obtain ⟨xs, x, hq, hx⟩ := hg
    obtain ⟨its, rv, p, hz⟩ := I.tuple hq
    obtain ⟨u, hu, ru⟩ := rv.get hx
    have hel : e < s.heap.objs.size := Heap.lt_size he
    have hil : it < s.heap.objs.size := by obtain ⟨_, q, _⟩ := hit; exact Heap.lt_size q
    have hlt : i < its.toArray.size := by
      have := (List.getElem?_eq_some_iff.mp hu).1
      simpa using this
    have D := Draws.tuple (prog := X.prog) (w := X.w) (A := X.A.in1) (I.ok.hd hc) it a hai its.toArray
    refine wpAny_pyNext_enum_itemD D he ⟨hit, show s.heap.IsTuple a its.toArray from p⟩ hlt hne (by simp only [List.mem_cons, List.not_mem_nil, or_false, not_or]; exact ⟨hne, fun z => hae z.symm⟩) fun u' h' tk hpu ho hst' hT hsz hk => ?_
    have hu' : u' = u := by
      have z : its.toArray[i]? = some u' := hpu
      rw [show its.toArray[i]? = some u by simpa using hu] at z
      exact (Option.some.inj z).symm
    subst hu'
    refine ⟨_, rfl, wpAny_letOwnedTupleGo_enum (s := { s with heap := h', toks := tk + 1 }) ho fun h'' he' sb => ?_⟩
    have hT2 : h''.get? s.heap.objs.size = some { cls := .type "tuple", data := .seq #[.int i tk, u'] } := (sb.2 _ (Nat.ne_of_gt hel)).trans hT
    have new : ObjOk X.prog X.w (upd H s.heap.objs.size (.tup [.int (i : Nat), x])) h'' s.heap.objs.size (.tup [.int (i : Nat), x]) :=
      ⟨by show 2 ≤ sizeLine; decide, [.int i tk, u'], .cons ⟨_, rfl⟩ (.cons ru .nil), ⟨_, hT2, rfl, _, rfl⟩⟩
    have I1 : Inv X pins σ (upd H s.heap.objs.size (.tup [.int (i : Nat), x])) { s with heap := h'', toks := tk + 1 } :=
      I.turnedNew (ch := [e, it]) (fun b ob hb q => (sb.2 b (fun z => hb (by simp [z]))).trans (hk b ob (fun z => hb (by simp [z])) (fun z => hb (by simp [z])) q)) hf (Nat.le_refl _) new
    refine ⟨.ref s.heap.objs.size, _, I1, rfl, ⟨_, x, rfl, I.hok.fresh (Nat.le_refl _), rfl, fun ys hy => by rw [I.tuple_inj hy hq]; exact hx⟩, ⟨⟨u', ?_⟩, hst'.1.at fun o q => (sb.2 it (Ne.symm hne)).trans q, hne⟩, fun b hb => ?_⟩
    · have e1 : ((i + 1 : Nat) : Int) = (i : Int) + 1 := by omega
      rw [e1]; exact he'
    · have hb' : b < s.heap.objs.size := by
        have e' : b = e ∨ b = it := by simpa using hb
        rcases e' with z | z
        · rw [z]; exact hel
        · rw [z]; exact hil
      rw [upd_ne (Nat.ne_of_lt hb')]
      exact (hf b hb).1
  done := by
    intro X hP hw hK hc i pins s σ H E I hf st hg
    subst hP hw hK
    obtain ⟨⟨old, he⟩, hit, hne⟩ := st
    obtain ⟨xs, hq, hx⟩ := hg
    obtain ⟨its, rv, p, hz⟩ := I.tuple hq
    obtain ⟨f0, f1, f2, f3, f4, f5⟩ := hf it (by simp)
    have hl := rv.length
    exact enum_end1 he (fun Q E hE => wpAny_nextOf_tuple_end (I.ok.hd hc) hit (show s.heap.IsTuple a its.toArray from p) (by simp; omega) hE) fun h' eb => ⟨rfl, I.turned (t' := s.toks) (fun b o hb q => eb b o hb q) f0 f1 f3 f4 f5⟩
  self := fun A i s Q E st h => let ⟨⟨_, he⟩, _⟩ := st; wpAny_pyIter_enum he h
def iEnumT (K : PySem.W.Frag) (ta : TA) : TI := fun σ H R => ta σ H fun vs H1 => ∃ a xs, vs = [.ref a] ∧ SqT K H1 a xs ∧ R (IteT K a) H1
theorem pi_enumT {X : Cx} {e : Expr} {ta : TA} {p pos tpos : Pos} {elts : List Expr} {kk : Nat} (hg : Gl X "enumerate") (hm : X.mg "enumerate" = none) (ha : PA X [e] ta) (hs : starEach [e] X.env = [(false, eval e X.env)] := by rfl) :
    PI X (.Tuple elts kk tpos) (.Call (.Name "enumerate" p) [e] [] pos) (iEnumT X.K ta) := by
  refine ⟨fun pins s σ H R I h => ?_⟩
  refine Call_ (ld_blt I hg hm boot_enumerate (PyProof.Rows.callWith_type1 (thn (ha.run pos pins s σ H _ I h) fun us s1 ⟨vs, H1, I1, r1, q1⟩ => ?_) hs rfl))
  obtain ⟨a, xs, ex, hq, q⟩ := q1
  subst ex
  cases r1 with
  | cons r rr =>
    cases rr
    cases r
    obtain ⟨its, rv, p', hz⟩ := I1.tuple hq
    have la : a < s1.heap.objs.size := by
      obtain ⟨o, ho, _⟩ := id p'
      exact Heap.lt_size ho
    refine call_enumB (begins_tuple a its.toArray) (show s1.heap.IsTuple a its.toArray from p') fun h' he hit hsz hk => wpAny_pyIter_enum he ?_
    have I2 : Inv X pins σ H1 { s1 with heap := h' } := I1.kept (t' := s1.toks) hk
    refine ⟨s1.heap.objs.size + 1, [s1.heap.objs.size + 1, s1.heap.objs.size], _, _, H1, rfl, I2, turn_enumT a (s1.heap.objs.size + 1) s1.heap.objs.size (Nat.ne_of_lt la) (Nat.ne_of_lt (Nat.lt_succ_of_lt la)), ⟨⟨.none, he⟩, ⟨_, hit, rfl, rfl⟩, Nat.succ_ne_self _⟩, fun b hb => ?_, q⟩
    have e' : b = s1.heap.objs.size + 1 ∨ b = s1.heap.objs.size := by simpa using hb
    have hle : s1.heap.objs.size ≤ b := by
      rcases e' with z | z
      · rw [z]; exact Nat.le_add_right _ _
      · rw [z]; exact Nat.le_refl _
    exact I1.fpOk hle (I1.hok.fresh hle)
end PV
end
section
set_option Elab.async false
set_option linter.all false
set_option maxRecDepth 100000
set_option maxHeartbeats 2000000
/-! PvS7: what loops and comprehensions walk; targets; comprehensions. -/
namespace PV
open PySem PySem.Spec PyProof.Rows L2

/-! ### walks -/
/-- J gives the data ds, one after another, as long as what is shared stands -/
def WalkD (P : Program) (w : World) (K : PySem.W.Frag) (F : Hp) (ρ : List Addr) (J : It) (ds : List D) : Prop := ∀ (i : Nat) (H2 : Hp), Fsub F H2 → (ds[i]? = none → J.stop i H2) ∧ ∀ d, ds[i]? = some d → J.go i H2 ∧
  ∀ x H3, J.yld i H2 x H3 → (H3 = H2 ∧ Rep P w K F ρ x d) ∨ ∃ p ys es, H2 p = none ∧ H3 = upd H2 p (.tup ys) ∧ x = .ref p ∧ d = .tup es ∧ Reps P w K F ρ ys es
section
variable {P : Program} {w : World} {K : PySem.W.Frag} {cf : CF} {H F H' F' : Hp} {ρ ρ' : List Addr} {Z Z' : Nat → Prop} {σ σ' : L2.St} {dσ dσ' : Sg} {st st' : ST} {d : D} {v : V} {vs us : List V} {ds es : List D} {a b : Addr}
theorem walk_list (h : F a = some (.lst vs)) (r : Reps P w K F ρ vs ds) : WalkD P w K F ρ (Itl K a) ds := fun i H2 hf => ⟨fun e => ⟨vs, SqL.of (hf _ _ h), by rw [r.length]; exact List.getElem?_eq_none_iff.mp e⟩, fun d e => by
  obtain ⟨v, h1, h2⟩ := r.get e
  exact ⟨⟨vs, v, SqL.of (hf _ _ h), h1⟩, fun x H3 y => by
    obtain ⟨e3, y⟩ := y
    have z := y vs (SqL.of (hf _ _ h))
    rw [h1] at z; cases z
    exact .inl ⟨e3, h2⟩⟩⟩
theorem walk_tup (h : SqT K F a vs) (r : Reps P w K F ρ vs ds) : WalkD P w K F ρ (Itt K a) ds := fun i H2 hf => ⟨fun e => ⟨vs, hf.sqT h, by rw [r.length]; exact List.getElem?_eq_none_iff.mp e⟩, fun d e => by
  obtain ⟨v, h1, h2⟩ := r.get e
  exact ⟨⟨vs, v, hf.sqT h, h1⟩, fun x H3 y => by
    obtain ⟨e3, y⟩ := y
    have z := y vs (hf.sqT h)
    rw [h1] at z; cases z
    exact .inl ⟨e3, h2⟩⟩⟩
theorem rngUp_get : ∀ (n : Nat) (lo : Int) (i : Nat), (rngUp lo n)[i]? = if i < n then some (.int (lo + i)) else none
  | 0, lo, i => by simp [rngUp]
  | n + 1, lo, 0 => by simp [rngUp]
  | n + 1, lo, i + 1 => by
    rw [rngUp, List.getElem?_cons_succ, rngUp_get n (lo + 1) i]
    have e : lo + 1 + (i : Int) = lo + ((i + 1 : Nat) : Int) := by omega
    rw [e]
    by_cases h : i < n
    · rw [if_pos h, if_pos (by omega)]
    · rw [if_neg h, if_neg (by omega)]
theorem rngDn_get : ∀ (n : Nat) (hi : Int) (i : Nat), (rngDn hi n)[i]? = if i < n then some (.int (hi - i)) else none
  | 0, hi, i => by simp [rngDn]
  | n + 1, hi, 0 => by simp [rngDn]
  | n + 1, hi, i + 1 => by
    rw [rngDn, List.getElem?_cons_succ, rngDn_get n (hi - 1) i]
    have e : hi - 1 - (i : Int) = hi - ((i + 1 : Nat) : Int) := by omega
    rw [e]
    by_cases h : i < n
    · rw [if_pos h, if_pos (by omega)]
    · rw [if_neg h, if_neg (by omega)]
theorem enumD_get : ∀ (ds : List D) (k : Int) (i : Nat), (enumD k ds)[i]? = (ds[i]?).map fun d => .tup [.int (k + i), d]
  | [], k, i => by simp [enumD]
  | d :: ds, k, 0 => by simp [enumD]
  | d :: ds, k, i + 1 => by
    rw [enumD, List.getElem?_cons_succ, enumD_get ds (k + 1) i, List.getElem?_cons_succ]
    have e : k + 1 + (i : Int) = k + ((i + 1 : Nat) : Int) := by omega
    rw [e]
theorem zipD_get : ∀ (xs ys : List D) (i : Nat), (zipD xs ys)[i]? = (match xs[i]?, ys[i]? with
    | some x, some y => some (.tup [x, y])
    | _, _ => none)
  | [], ys, i => by simp [zipD]
  | x :: xs, [], i => by
    have e : zipD (x :: xs) [] = [] := rfl
    rw [e, List.getElem?_nil]
    cases (x :: xs)[i]? <;> rfl
  | x :: xs, y :: ys, 0 => rfl
  | x :: xs, y :: ys, i + 1 => by
    rw [zipD, List.getElem?_cons_succ, List.getElem?_cons_succ, List.getElem?_cons_succ, zipD_get xs ys i]
theorem walk_rng (lo : Int) (n : Nat) : WalkD P w K F ρ (Itr lo n) (rngUp lo n) := fun i H2 hf => by
  rw [rngUp_get]
  by_cases h : i < n
  · rw [if_pos h]
    refine ⟨fun e => (by cases e), fun d e => ?_⟩
    cases e
    refine ⟨h, fun x H3 y => ?_⟩
    obtain ⟨e1, e2⟩ := y
    subst e2
    exact .inl ⟨e1, .int _⟩
  · rw [if_neg h]
    exact ⟨fun _ => Nat.le_of_not_lt h, fun d e => (by cases e)⟩
theorem walk_rngd (hi : Int) (n : Nat) : WalkD P w K F ρ (Itc hi (-1) n) (rngDn hi n) := fun i H2 hf => by
  rw [rngDn_get]
  by_cases h : i < n
  · rw [if_pos h]
    refine ⟨fun e => (by cases e), fun d e => ?_⟩
    cases e
    refine ⟨h, fun x H3 y => ?_⟩
    obtain ⟨e1, e2⟩ := y
    have e3 : hi + (i : Int) * (-1) = hi - i := by omega
    rw [e3] at e2
    subst e2
    exact .inl ⟨e1, .int _⟩
  · rw [if_neg h]
    exact ⟨fun _ => Nat.le_of_not_lt h, fun d e => (by cases e)⟩
theorem walk_enum (h : F a = some (.lst vs)) (r : Reps P w K F ρ vs ds) : WalkD P w K F ρ (Ite K a) (enumD 0 ds) := fun i H2 hf => by
  rw [enumD_get]
  refine ⟨fun e => ⟨vs, SqL.of (hf _ _ h), by rw [r.length]; exact List.getElem?_eq_none_iff.mp (Option.map_eq_none_iff.mp e)⟩, fun d e => ?_⟩
  obtain ⟨d', e', rfl⟩ := Option.map_eq_some_iff.mp e
  obtain ⟨v, h1, h2⟩ := r.get e'
  refine ⟨⟨vs, v, SqL.of (hf _ _ h), h1⟩, fun x H3 y => ?_⟩
  obtain ⟨T, x', e1, e2, e3, y⟩ := y
  have z := y vs (SqL.of (hf _ _ h))
  rw [h1] at z; cases z
  have e4 : (0 : Int) + (i : Int) = i := by omega
  rw [e4]
  exact .inr ⟨T, _, _, e2, e3, e1, rfl, .cons (.int _) (.cons h2 .nil)⟩
theorem walk_enumT (h : SqT K F a vs) (r : Reps P w K F ρ vs ds) : WalkD P w K F ρ (IteT K a) (enumD 0 ds) := fun i H2 hf => by
  rw [enumD_get]
  refine ⟨fun e => ⟨vs, hf.sqT h, by rw [r.length]; exact List.getElem?_eq_none_iff.mp (Option.map_eq_none_iff.mp e)⟩, fun d e => ?_⟩
  obtain ⟨d', e', rfl⟩ := Option.map_eq_some_iff.mp e
  obtain ⟨v, h1, h2⟩ := r.get e'
  refine ⟨⟨vs, v, hf.sqT h, h1⟩, fun x H3 y => ?_⟩
  obtain ⟨T, x', e1, e2, e3, y⟩ := y
  have z := y vs (hf.sqT h)
  rw [h1] at z; cases z
  have e4 : (0 : Int) + (i : Int) = i := by omega
  rw [e4]
  exact .inr ⟨T, _, _, e2, e3, e1, rfl, .cons (.int _) (.cons h2 .nil)⟩
theorem walk_zip (h : F a = some (.lst vs)) (r : Reps P w K F ρ vs ds) (h' : F b = some (.lst us)) (r' : Reps P w K F ρ us es) : WalkD P w K F ρ (Itz K a b) (zipD ds es) := fun i H2 hf => by
  rw [zipD_get]
  refine ⟨fun e => ⟨vs, us, SqL.of (hf _ _ h), SqL.of (hf _ _ h'), ?_⟩, fun d e => ?_⟩
  · rw [r.length, r'.length]
    cases e1 : ds[i]? with
    | none => exact .inl (List.getElem?_eq_none_iff.mp e1)
    | some x =>
      cases e2 : es[i]? with
      | none => exact .inr (List.getElem?_eq_none_iff.mp e2)
      | some y => rw [e1, e2] at e; cases e
  · cases e1 : ds[i]? with
    | none => rw [e1] at e; cases e
    | some x =>
      cases e2 : es[i]? with
      | none => rw [e1, e2] at e; cases e
      | some y =>
        rw [e1, e2] at e; cases e
        obtain ⟨v, h1, h2⟩ := r.get e1
        obtain ⟨u, g1, g2⟩ := r'.get e2
        refine ⟨⟨vs, us, v, u, SqL.of (hf _ _ h), SqL.of (hf _ _ h'), h1, g1⟩, fun x H3 q => ?_⟩
        obtain ⟨T, x', y', q1, q2, q3, q4, q5⟩ := q
        have z := q4 vs (SqL.of (hf _ _ h))
        rw [h1] at z; cases z
        have z := q5 us (SqL.of (hf _ _ h'))
        rw [g1] at z; cases z
        exact .inr ⟨T, _, _, q2, q3, q1, rfl, .cons h2 (.cons g2 .nil)⟩
theorem walk_zipT (h : SqT K F a vs) (r : Reps P w K F ρ vs ds) (h' : SqT K F b us) (r' : Reps P w K F ρ us es) : WalkD P w K F ρ (RZ.ItzT K a b) (zipD ds es) := fun i H2 hf => by
  rw [zipD_get]
  refine ⟨fun e => ⟨vs, us, hf.sqT h, hf.sqT h', ?_⟩, fun d e => ?_⟩
  · rw [r.length, r'.length]
    cases e1 : ds[i]? with
    | none => exact .inl (List.getElem?_eq_none_iff.mp e1)
    | some x =>
      cases e2 : es[i]? with
      | none => exact .inr (List.getElem?_eq_none_iff.mp e2)
      | some y => rw [e1, e2] at e; cases e
  · cases e1 : ds[i]? with
    | none => rw [e1] at e; cases e
    | some x =>
      cases e2 : es[i]? with
      | none => rw [e1, e2] at e; cases e
      | some y =>
        rw [e1, e2] at e; cases e
        obtain ⟨v, h1, h2⟩ := r.get e1
        obtain ⟨u, g1, g2⟩ := r'.get e2
        refine ⟨⟨vs, us, v, u, hf.sqT h, hf.sqT h', h1, g1⟩, fun x H3 q => ?_⟩
        obtain ⟨T, x', y', q1, q2, q3, q4, q5⟩ := q
        have z := q4 vs (hf.sqT h)
        rw [h1] at z; cases z
        have z := q5 us (hf.sqT h')
        rw [g1] at z; cases z
        exact .inr ⟨T, _, _, q2, q3, q1, rfl, .cons h2 (.cons g2 .nil)⟩
/-- one turn's datum -/
theorem WalkD.turn {J : It} {own : Addr → Prop} {F0 : Hp} {ρ0 : List Addr} {i : Nat} {x : V} {H3 : Hp} (hW : WalkD P w K F0 ρ0 J ds) (hF : Fsub F0 F) (hρ : Pre ρ0 ρ) (s : Sm P w K H F ρ Z σ dσ st) (e : ds[i]? = some d) (y : J.yld i H x H3) :
    ∃ F3, Sm P w K H3 F3 ρ Z σ dσ st ∧ Stp own H F ρ H3 F3 ρ ∧ Rep P w K F3 ρ x d := by
  rcases ((hW i H (hF.trans s.rf.fs)).2 d e).2 x H3 y with ⟨rfl, r⟩ | ⟨p, ys, es, hp, rfl, rfl, rfl, r⟩
  · exact ⟨F, s, Stp.refl, r.mono hF hρ⟩
  · have hf := s.rf.fnone hp
    exact ⟨_, s.allocS hp, Stp.allocS hp hf, .tup (SqT.of upd_same) ((r.mono hF hρ).mono (fsub_upd hf) (Pre.refl ρ))⟩

/-! ### slots stored -/
theorem Sm.setV (s : Sm P w K H F ρ Z σ dσ st) (i : Nat) (r : Rep P w K F ρ v d) : Sm P w K H F ρ Z (σ.set i (some v)) (setW dσ i (.val d)) st := by
  rw [setW_eq]
  refine ⟨s.rf, by rw [List.length_set, List.length_set]; exact s.len, fun j e h => ?_, fun j e h => ?_, fun j k a e1 e2 h1 h2 g1 g2 => ?_⟩
  · by_cases hj : i = j
    · subst hj
      have hl : i < dσ.length := by
        have := (List.getElem?_eq_some_iff.mp h).1
        rwa [List.length_set] at this
      rw [List.getElem?_set_self hl] at h
      cases h
      exact ⟨v, by rw [List.getElem?_set_self (by rw [← s.len]; exact hl)], r⟩
    · rw [List.getElem?_set_ne hj] at h ⊢
      exact s.val j e h
  · by_cases hj : i = j
    · subst hj
      have hl : i < dσ.length := by
        have := (List.getElem?_eq_some_iff.mp h).1
        rwa [List.length_set] at this
      rw [List.getElem?_set_self hl] at h
      cases h
    · rw [List.getElem?_set_ne hj] at h ⊢
      exact s.own j e h
  · have ne : ∀ {j e}, (dσ.set i (some (W.val d)))[j]? = some (some (W.own e)) → i ≠ j := fun {j e} h hj => by
      subst hj
      have hl : i < dσ.length := by
        have := (List.getElem?_eq_some_iff.mp h).1
        rwa [List.length_set] at this
      rw [List.getElem?_set_self hl] at h
      cases h
    rw [List.getElem?_set_ne (ne h1)] at g1
    rw [List.getElem?_set_ne (ne h2)] at g2
    rw [List.getElem?_set_ne (ne h1)] at h1
    rw [List.getElem?_set_ne (ne h2)] at h2
    exact s.sep j k a e1 e2 h1 h2 g1 g2
/-- the own slots of a state are own slots of another -/
def Sub (σ' : L2.St) (dσ' : Sg) (σ : L2.St) (dσ : Sg) : Prop := ∀ (j : Nat) (d : D), dσ'[j]? = some (some (W.own d)) → dσ[j]? = some (some (W.own d)) ∧ σ'[j]? = σ[j]?
theorem Sub.trans {σ'' : L2.St} {dσ'' : Sg} (h : Sub σ'' dσ'' σ' dσ') (h' : Sub σ' dσ' σ dσ) : Sub σ'' dσ'' σ dσ := fun j d e => ⟨(h' j d (h j d e).1).1, (h j d e).2.trans (h' j d (h j d e).1).2⟩
theorem Sub.refl : Sub σ dσ σ dσ := fun _ _ e => ⟨e, rfl⟩
theorem Sub.ow (h : Sub σ' dσ' σ dσ) (o : Ow σ' dσ' a) : Ow σ dσ a := by
  obtain ⟨i, d, h1, h2⟩ := o
  obtain ⟨g1, g2⟩ := h i d h1
  exact ⟨i, d, g1, by rw [← g2]; exact h2⟩
theorem sub_set (i : Nat) (d : D) (v : V) : Sub (σ.set i (some v)) (setW dσ i (.val d)) σ dσ := fun j e h => by
  rw [setW_eq] at h
  by_cases hj : i = j
  · subst hj
    have hl : i < dσ.length := by
      have := (List.getElem?_eq_some_iff.mp h).1
      rwa [List.length_set] at this
    rw [List.getElem?_set_self hl] at h
    cases h
  · rw [List.getElem?_set_ne hj] at h ⊢
    exact ⟨h, rfl⟩
/-- back from a block, or from behind a step of the frame's own -/
theorem Sm.back (s : Sm P w K H F ρ Z σ dσ st) (s' : Sm P w K H' F' ρ' Z' σ' dσ' st') (t : Stp (Ow σ' dσ') H F ρ H' F' ρ') (hs : Sub σ' dσ' σ dσ) : Sm P w K H' F' ρ' (fun i => Z i ∨ Z' i) σ dσ st' := by
  refine ⟨s'.rf, s.len, fun i d e => ?_, fun i d e => ?_, s.sep⟩
  · obtain ⟨v, h1, h2⟩ := s.val i d e
    exact ⟨v, h1, h2.mono t.f t.r⟩
  · obtain ⟨a, h1, h2, h3, h4⟩ := s.own i d e
    obtain ⟨u, q⟩ := h2.some
    refine ⟨a, h1, h2.mono t.f t.r fun o e => t.h a o e h3, fun z => ?_, ?_⟩
    · rcases t.q a z with z | z
      · exact h3 z
      · rw [q] at z; cases z
    · cases e' : F' a with
      | none => exact .inr rfl
      | some o =>
        refine .inl ?_
        rcases t.n a (by rw [e']; simp) with z' | z' | ⟨j, d', g1, g2⟩
        · rcases h4 with h4 | h4
          · exact .inl h4
          · exact absurd h4 z'
        · rw [q] at z'; cases z'
        · obtain ⟨k1, k2⟩ := hs j d' g1
          have hj : j = i := s.sep j i a d' d k1 e (by rw [← k2]; exact g2) h1
          subst hj
          obtain ⟨b, m1, m2, m3, m4⟩ := s'.own j d' g1
          rw [g2] at m1; cases m1
          rcases m4 with m4 | m4
          · exact .inr m4
          · rw [e'] at m4; cases m4
theorem wipe_get (σ : L2.St) : ∀ (vs : List Nat) (j : Nat), (wipe σ vs)[j]? = if j ∈ vs then (σ[j]?).map (fun _ => none) else σ[j]?
  | [], j => by simp [wipe]
  | v :: vs, j => by
    unfold wipe
    have ih := wipe_get σ vs j
    by_cases hj : v = j
    · subst hj
      rw [if_pos (List.mem_cons_self ..)]
      by_cases hl : v < σ.length
      · rw [List.getElem?_set_self (by rw [wipe_length]; exact hl), List.getElem?_eq_getElem hl]; rfl
      · rw [List.getElem?_eq_none (by rw [List.length_set, wipe_length]; omega), List.getElem?_eq_none (by omega)]; rfl
    · rw [List.getElem?_set_ne hj, ih]
      have e : (j ∈ v :: vs) = (j ∈ vs) := by
        simp only [List.mem_cons, eq_iff_iff]
        exact ⟨fun z => z.resolve_left fun q => hj q.symm, .inr⟩
      simp only [e]
theorem wipeW_get (σ : Sg) : ∀ (vs : List Nat) (j : Nat), (wipeW σ vs)[j]? = if j ∈ vs then (σ[j]?).map (fun _ => none) else σ[j]?
  | [], j => by simp [wipeW]
  | v :: vs, j => by
    unfold wipeW
    have ih := wipeW_get σ vs j
    by_cases hj : v = j
    · subst hj
      rw [if_pos (List.mem_cons_self ..)]
      by_cases hl : v < σ.length
      · rw [List.getElem?_set_self (by rw [wipeW_eq]; exact hl), List.getElem?_eq_getElem hl]; rfl
      · rw [List.getElem?_eq_none (by rw [List.length_set, wipeW_eq]; omega), List.getElem?_eq_none (by omega)]; rfl
    · rw [List.getElem?_set_ne hj, ih]
      have e : (j ∈ v :: vs) = (j ∈ vs) := by
        simp only [List.mem_cons, eq_iff_iff]
        exact ⟨fun z => z.resolve_left fun q => hj q.symm, .inr⟩
      simp only [e]
theorem wipe_set {vs : List Nat} {i : Nat} (h : i ∈ vs) (x : Option V) : wipe (σ.set i x) vs = wipe σ vs := by
  refine List.ext_getElem? fun j => ?_
  rw [wipe_get, wipe_get]
  by_cases hj : j ∈ vs
  · rw [if_pos hj, if_pos hj, List.getElem?_set]
    by_cases e : i = j
    · subst e
      rw [if_pos rfl]
      by_cases hl : i < σ.length
      · rw [if_pos hl, List.getElem?_eq_getElem hl]; rfl
      · rw [if_neg hl, List.getElem?_eq_none (by omega)]
    · rw [if_neg e]
  · rw [if_neg hj, if_neg hj, List.getElem?_set_ne (fun e : i = j => hj (e ▸ h))]
theorem wipe_wipe {vs : List Nat} : wipe (wipe σ vs) vs = wipe σ vs := by
  refine List.ext_getElem? fun j => ?_
  rw [wipe_get, wipe_get]
  by_cases hj : j ∈ vs
  · rw [if_pos hj, if_pos hj]
    cases σ[j]? <;> rfl
  · rw [if_neg hj, if_neg hj]
theorem wipeW_some {vs : List Nat} {j : Nat} {x : W} (h : (wipeW dσ vs)[j]? = some (some x)) : dσ[j]? = some (some x) ∧ (wipe σ vs)[j]? = σ[j]? := by
  rw [wipeW_get] at h
  by_cases hj : j ∈ vs
  · rw [if_pos hj] at h
    cases e : dσ[j]? <;> rw [e] at h <;> cases h
  · rw [if_neg hj] at h
    exact ⟨h, by rw [wipe_get, if_neg hj]⟩
theorem sub_wipe {vs : List Nat} : Sub (wipe σ vs) (wipeW dσ vs) σ dσ := fun j d e => wipeW_some e
theorem Sm.wiped (s : Sm P w K H F ρ Z σ dσ st) (vs : List Nat) : Sm P w K H F ρ Z (wipe σ vs) (wipeW dσ vs) st := by
  refine ⟨s.rf, by rw [wipe_length, wipeW_eq]; exact s.len, fun j e h => ?_, fun j e h => ?_, fun j k a e1 e2 h1 h2 g1 g2 => ?_⟩
  · obtain ⟨h1, h2⟩ := wipeW_some (σ := σ) h
    rw [h2]; exact s.val j e h1
  · obtain ⟨h1, h2⟩ := wipeW_some (σ := σ) h
    rw [h2]; exact s.own j e h1
  · obtain ⟨k1, k2⟩ := wipeW_some (σ := σ) h1
    obtain ⟨k3, k4⟩ := wipeW_some (σ := σ) h2
    rw [k2] at g1
    rw [k4] at g2
    exact s.sep j k a e1 e2 k1 k3 g1 g2

/-! ### targets -/
def setsV : L2.St → List Nat → List V → L2.St
  | σ, i :: is, v :: vs => setsV (σ.set i (some v)) is vs
  | σ, _, _ => σ
def gT (K : PySem.W.Frag) (t : Tg) : TG := fun v σ H Q => match t with
  | .one i => Q (σ.set i (some v)) H
  | .many is => ∃ a xs, v = .ref a ∧ SqT K H a xs ∧ xs.length = is.length ∧ Q (setsV σ is xs) H
def LocF (X : Cx) (x : Str) : Prop := Loc X.env.scope x ∧ (X.fn x = true ∨ X.env.scope.names.lookup x = some .local)
theorem PGs.imp {X : Cx} {ts : List Expr} {t t' : TGs} (h : PGs X ts t) (hi : ∀ vs σ H Q, t' vs σ H Q → t vs σ H Q) : PGs X ts t' := ⟨fun pins s σ H vs us Q I r hw => h.run pins s σ H vs us Q I r (hi _ _ _ _ hw)⟩
theorem PG.imp {X : Cx} {tg : Expr} {t t' : TG} (h : PG X tg t) (hi : ∀ v σ H Q, t' v σ H Q → t v σ H Q) : PG X tg t' := ⟨fun pins s σ H v u Q I r hw => h.run pins s σ H v u Q I r (hi _ _ _ _ hw)⟩
theorem tgs_ok {X : Cx} {scope : Scope} {own : List Nat} (hN : X.N.Nodup) (hl : ∀ x, locB scope x = true → LocF X x) : ∀ {is : List Nat} {es : List Expr}, tgC.tgsC X.N scope own is es = true →
    PGs X es (fun vs σ H Q => vs.length = is.length ∧ Q (setsV σ is vs) H) ∧ (assignEach es X.env).length = is.length ∧ (assignEach es X.env).findIdx? (·.1) = none
  | [], [], _ => ⟨PGs.imp pgs_nil fun vs σ H Q h => by
      obtain ⟨h1, h2⟩ := h
      have e : vs = [] := List.eq_nil_of_length_eq_zero h1
      subst e
      exact ⟨rfl, h2⟩, rfl, rfl⟩
  | i :: is, e0 :: es, h => by
    obtain ⟨x, p, rfl⟩ : ∃ x p, e0 = .Name x p := by
      cases e0 <;> first | exact ⟨_, _, rfl⟩ | cases h
    rw [tgC.tgsC, Bool.and_eq_true, Bool.and_eq_true, Bool.and_eq_true] at h
    obtain ⟨⟨⟨h1, h2⟩, h3⟩, h4⟩ := h
    obtain ⟨g1, g2, g3⟩ := tgs_ok hN hl h4
    obtain ⟨l1, l2⟩ := hl x h2
    refine ⟨PGs.imp (pgs_cons (pg_name hN (nameB_eq h1) l1 l2) g1 rfl) fun vs σ H Q h => ?_, ?_, ?_⟩
    · obtain ⟨k1, k2⟩ := h
      cases vs with
      | nil => cases k1
      | cons v vs => exact ⟨v, vs, rfl, Nat.succ.inj k1, k2⟩
    · show (assignEach es X.env).length + 1 = is.length + 1
      rw [g2]
    · show List.findIdx? (·.1) ((false, assign (.Name x p) X.env) :: assignEach es X.env) = none
      rw [List.findIdx?_cons, g3]
      rfl
  | [], _ :: _, h => by simp [tgC.tgsC] at h
  | _ :: _, [], h => by simp [tgC.tgsC] at h
end
end PV
end
section
set_option Elab.async false
set_option linter.all false
set_option maxRecDepth 100000
set_option maxHeartbeats 2000000
/-! PvS7b: targets, iterators. -/
namespace PV
open PySem PySem.Spec PyProof.Rows L2

theorem pg_T {X : Cx} {scope : Scope} {own : List Nat} {t : Tg} {tg : Expr} (hN : X.N.Nodup) (hc : X.calm = true) (hl : ∀ x, locB scope x = true → LocF X x) (h : tgC X.N scope own t tg = true) : PG X tg (gT X.K t) := by
  cases t with
  | one i =>
    obtain ⟨x, p, rfl⟩ : ∃ x p, tg = .Name x p := by
      cases tg <;> first | exact ⟨_, _, rfl⟩ | cases h
    simp only [tgC, Bool.and_eq_true] at h
    obtain ⟨⟨h1, h2⟩, h3⟩ := h
    obtain ⟨l1, l2⟩ := hl x h2
    exact PG.imp (pg_name hN (nameB_eq h1) l1 l2) fun v σ H Q q => q
  | many is =>
    obtain ⟨es, k, p, rfl⟩ : ∃ es k p, tg = .Tuple es k p := by
      cases tg <;> first | exact ⟨_, _, _, rfl⟩ | cases h
    obtain ⟨g1, g2, g3⟩ := tgs_ok hN hl (show tgC.tgsC X.N scope own is es = true from h)
    refine PG.imp (pg_tup hc g1 g2 g3) fun v σ H Q q => ?_
    obtain ⟨a, xs, h1, h2, h3, h4⟩ := q
    exact ⟨a, xs, h1, h2, h3, h3, h4⟩
def tgIn (own : List Nat) : Tg → Prop
  | .one i => i ∈ own
  | .many is => ∀ i ∈ is, i ∈ own
theorem tgs_in {N : List Str} {scope : Scope} {own : List Nat} : ∀ {is : List Nat} {es : List Expr}, tgC.tgsC N scope own is es = true → ∀ i ∈ is, i ∈ own
  | [], _, _, i, hi => by cases hi
  | _ :: _, [], h, _, _ => by simp [tgC.tgsC] at h
  | j :: is, e0 :: es, h, i, hi => by
    obtain ⟨x, p, rfl⟩ : ∃ x p, e0 = .Name x p := by
      cases e0 <;> first | exact ⟨_, _, rfl⟩ | cases h
    rw [tgC.tgsC, Bool.and_eq_true, Bool.and_eq_true] at h
    rcases List.mem_cons.mp hi with rfl | hi
    · exact List.contains_iff_mem.mp h.1.2
    · exact tgs_in h.2 i hi
theorem tgC_in {N : List Str} {scope : Scope} {own : List Nat} {t : Tg} {tg : Expr} (h : tgC N scope own t tg = true) : tgIn own t := by
  cases t with
  | one i =>
    obtain ⟨x, p, rfl⟩ : ∃ x p, tg = .Name x p := by
      cases tg <;> first | exact ⟨_, _, rfl⟩ | cases h
    simp only [tgC, Bool.and_eq_true] at h
    exact List.contains_iff_mem.mp h.2
  | many is =>
    obtain ⟨es, k, p, rfl⟩ : ∃ es k p, tg = .Tuple es k p := by
      cases tg <;> first | exact ⟨_, _, _, rfl⟩ | cases h
    exact tgs_in (show tgC.tgsC N scope own is es = true from h)
section
variable {P : Program} {w : World} {K : PySem.W.Frag} {cf : CF} {H F H' F' : Hp} {ρ ρ' : List Addr} {Z Z' : Nat → Prop} {σ σ' : L2.St} {dσ dσ' : Sg} {st st' : ST} {d : D} {v : V} {vs us : List V} {ds es : List D} {a b : Addr}
theorem Sm.many : ∀ {is : List Nat} {vs : List V} {ds : List D} {σ : L2.St} {dσ dσ' : Sg}, Sm P w K H F ρ Z σ dσ st → setMany dσ is ds = some dσ' → Reps P w K F ρ vs ds →
    vs.length = is.length ∧ Sm P w K H F ρ Z (setsV σ is vs) dσ' st ∧ Sub (setsV σ is vs) dσ' σ dσ ∧ ∀ own : List Nat, (∀ i ∈ is, i ∈ own) → wipe (setsV σ is vs) own = wipe σ own
  | [], _, _, σ, dσ, dσ', s, e, .nil => by
    cases e
    exact ⟨rfl, s, Sub.refl, fun _ _ => rfl⟩
  | [], _, _, _, _, _, _, e, .cons _ _ => by simp [setMany] at e
  | _ :: _, _, _, _, _, _, _, e, .nil => by simp [setMany] at e
  | i :: is, v :: vs, d :: ds, σ, dσ, dσ', s, e, .cons r t => by
    rw [setMany] at e
    obtain ⟨g1, g2, g3, g4⟩ := Sm.many (s.setV i r) e t
    refine ⟨congrArg (· + 1) g1, g2, g3.trans (sub_set i d v), fun own ho => ?_⟩
    show wipe (setsV (σ.set i (some v)) is vs) own = _
    rw [g4 own fun j hj => ho j (List.mem_cons_of_mem _ hj)]
    exact wipe_set (ho i (List.mem_cons_self ..)) _
/-- a datum is stored -/
theorem Sm.bind {t : Tg} (s : Sm P w K H F ρ Z σ dσ st) (e : bindT t d dσ = some dσ') (r : Rep P w K F ρ v d) :
    ∃ σ', (∀ Q : L2.St → Hp → Prop, Q σ' H → gT K t v σ H Q) ∧ Sm P w K H F ρ Z σ' dσ' st ∧ Sub σ' dσ' σ dσ ∧ ∀ own : List Nat, tgIn own t → wipe σ' own = wipe σ own := by
  cases t with
  | one i =>
    cases e
    exact ⟨σ.set i (some v), fun Q q => q, s.setV i r, sub_set i d v, fun own ho => wipe_set ho _⟩
  | many is =>
    cases d with
    | tup ds =>
      cases r with
      | tup h t =>
        obtain ⟨g1, g2, g3, g4⟩ := Sm.many s e t
        exact ⟨_, fun Q q => ⟨_, _, rfl, s.rf.fs.sqT h, g1, q⟩, g2, g3, g4⟩
    | _ => cases e
end

/-! ### iterators -/
def tI (X : Cx) (cf : CF) (it : E) : TI := fun σ H R => ∃ F ρ Z dσ st, Sm X.prog X.w X.K H F ρ Z σ dσ st ∧ Out (evE cf it dσ st) fun d st' => ∃ ds, d = .lst ds ∧
  ∀ J H' F' ρ', Sm X.prog X.w X.K H' F' ρ' (Zr Z (rdE it)) σ dσ st' → Stp (Ow σ dσ) H F ρ H' F' ρ' → WalkD X.prog X.w X.K F' ρ' J ds → R J H'
theorem PI.imp {X : Cx} {tg x : Expr} {t t' : TI} (h : PI X tg x t) (hi : ∀ σ H R, t' σ H R → t σ H R) : PI X tg x t' := ⟨fun pins s σ H R I hq => h.run pins s σ H R I (hi _ _ _ hq)⟩
theorem PI.or {X : Cx} {tg x : Expr} {t t' : TI} (h : PI X tg x t) (h' : PI X tg x t') : PI X tg x (fun σ H R => t σ H R ∨ t' σ H R) := ⟨fun pins s σ H R I hq => hq.elim (h.run pins s σ H R I) (h'.run pins s σ H R I)⟩
section
variable {X : Cx} {G : Cg} {sc : Scope} {cf : CF} {xx yy zz tg : Expr} {a b c e : E} {pos p p2 : Pos}
theorem okRng_le {i : Int} (h : okRng i = true) : -(2 ^ 62) ≤ i ∧ i < 2 ^ 62 := by
  simp only [okRng, Bool.and_eq_true, decide_eq_true_eq] at h
  omega
theorem gl_of (K0 : XOk X G sc cf) {x : Str} (h : glB sc x = true) : Gl X x := by
  show X.env.scope.names.lookup x = _
  rw [K0.sc]; exact glB_eq h
theorem s_itv (ha : PE X xx (tX X cf .val a)) : PI X tg xx (tI X cf (.itv a)) := by
  refine PI.imp (PI.or (pi_list ha) (pi_tup ha)) fun σ H R h => ?_
  obtain ⟨F, ρ, Z, dσ, st, s, q⟩ := h
  rw [evE] at q
  obtain ⟨d1, s1, e1, q⟩ := q.bind
  obtain ⟨d, e2, q⟩ := q.of
  obtain ⟨ds', e3, rfl⟩ := Option.map_eq_some_iff.mp e2
  obtain ⟨ds, hd, q9⟩ := q
  cases hd
  cases d1 <;> first | (cases e3; done) | skip
  · cases e3
    refine .inr (run1 s e1 fun v H1 F1 ρ1 sm t r => ?_)
    obtain ⟨a, vs, rfl, h1, h2⟩ := Rep.tup_ r
    exact ⟨a, rfl, ⟨vs, sm.rf.fs.sqT h1⟩, q9 _ H1 F1 ρ1 sm t (walk_tup h1 h2)⟩
  · cases e3
    refine .inl (run1 s e1 fun v H1 F1 ρ1 sm t r => ?_)
    obtain ⟨a, vs, rfl, h1, h2⟩ := Rep.lst_ r
    exact ⟨a, rfl, ⟨vs, SqL.of (sm.rf.fs _ _ h1)⟩, q9 _ H1 F1 ρ1 sm t (walk_list h1 h2)⟩
theorem s_rng1 (K0 : XOk X G sc cf) (hg : glB sc "range" = true) (hns : nsB xx = true) (ha : PE X xx (tX X cf .val a)) : PI X tg (.Call (.Name "range" p) [xx] [] pos) (tI X cf (.rng1 a)) := by
  refine PI.imp (pi_range1 (gl_of K0 hg) K0.rg (pa_cons ha pa_nil (star_ok hns _ _)) (star_ok hns _ _)) fun σ H R h => ?_
  obtain ⟨F, ρ, Z, dσ, st, s, q⟩ := h
  rw [evE] at q
  obtain ⟨d1, s1, e1, q⟩ := q.bind
  split at q
  · split at q
    · rename_i j hj
      obtain ⟨ds, hd, q⟩ := q
      cases hd
      refine run1 s e1 fun v H1 F1 ρ1 sm t r => ?_
      cases r
      exact ⟨j, rfl, (okRng_le hj).1, (okRng_le hj).2, q _ H1 F1 ρ1 sm t (walk_rng _ _)⟩
    · exact q.elim
  · exact q.elim
theorem s_rng2 (K0 : XOk X G sc cf) (hg : glB sc "range" = true) (hns : nsB xx = true) (hns' : nsB yy = true) (ha : PE X xx (tX X cf .val a)) (hb : PE X yy (tX X cf .val b)) : PI X tg (.Call (.Name "range" p) [xx, yy] [] pos) (tI X cf (.rng2 a b)) := by
  refine PI.imp (pi_range2 (gl_of K0 hg) K0.rg (pa_cons ha (pa_cons hb pa_nil (star_ok hns' _ _)) (star_ok hns _ _)) (by rw [star_ok hns, star_ok hns']; rfl) (star_ok hns' _ _)) fun σ H R h => ?_
  obtain ⟨F, ρ, Z, dσ, st, s, q⟩ := h
  rw [evE] at q
  obtain ⟨d1, s1, e1, q1⟩ := q.bind
  obtain ⟨d2, s2, e2, q2⟩ := q1.bind
  clear q q1
  split at q2
  · split at q2
    · rename_i i j hj
      rw [Bool.and_eq_true] at hj
      obtain ⟨ds, hd, q⟩ := q2
      cases hd
      refine run2 (by simp) s e1 e2 fun v u H1 F1 ρ1 sm t r r' => ?_
      cases r
      cases r'
      exact ⟨i, j, rfl, ⟨(okRng_le hj.1).1, (okRng_le hj.1).2, (okRng_le hj.2).1, (okRng_le hj.2).2⟩, q _ H1 F1 ρ1 sm t (walk_rng _ _)⟩
    · exact q2.elim
  · exact q2.elim
theorem s_rngd (K0 : XOk X G sc cf) {k : Nat} {p3 : Pos} (hg : glB sc "range" = true) (hns : nsB xx = true) (hns' : nsB yy = true) (ha : PE X xx (tX X cf .val a)) (hb : PE X yy (tX X cf .val b)) :
    PI X tg (.Call (.Name "range" p) [xx, yy, .UnaryOp .USub (.Constant (.int 1) k p2) p3] [] pos) (tI X cf (.rngd a b)) := by
  have hc : PE X (.UnaryOp .USub (.Constant (.int 1) k p2) p3) (tX X cf .val (.neg (.cst (.int 1)))) := s_neg (s_cst (by decide))
  refine PI.imp (pi_range3 (gl_of K0 hg) K0.rg (pa_cons ha (pa_cons hb (pa_cons hc pa_nil rfl) (star_ok hns' _ _)) (star_ok hns _ _)) (star_ok hns _ _) (nostar_ok (by simp only [List.all_cons, List.all_nil, hns']; rfl) _ _)) fun σ H R h => ?_
  obtain ⟨F, ρ, Z, dσ, st, s, q⟩ := h
  rw [evE] at q
  obtain ⟨d1, s1, e1, q1⟩ := q.bind
  obtain ⟨d2, s2, e2, q2⟩ := q1.bind
  clear q q1
  split at q2
  · split at q2
    · rename_i i j hj
      rw [Bool.and_eq_true] at hj
      obtain ⟨ds, hd, q⟩ := q2
      cases hd
      refine run3 (by simp) (by simp) (by simp) s e1 e2 (z := .int (-1)) (s3 := s2) (by rw [evE, evE]; rfl) fun v u u' H1 F1 ρ1 sm t r r' r'' => ?_
      cases r
      cases r'
      cases r''
      refine ⟨i, j, -1, _, rfl, RgC.neg (okRng_le hj.1).1 (okRng_le hj.1).2 (okRng_le hj.2).1 (okRng_le hj.2).2, q _ H1 F1 ρ1 (sm.wkZ (Zr.wk fun i z => ?_)) t (walk_rngd _ _)⟩
      show i ∈ rdE a ++ rdE b
      have z : i ∈ rdE a ++ (rdE b ++ rdE (.neg (.cst (.int 1)))) := z
      rw [rdE, rdE, List.append_nil] at z
      exact z
    · exact q2.elim
  · exact q2.elim
theorem s_enm (K0 : XOk X G sc cf) {elts : List Expr} {kk : Nat} {tp : Pos} (hg : glB sc "enumerate" = true) (hns : nsB xx = true) (ha : PE X xx (tX X cf .val a)) : PI X (.Tuple elts kk tp) (.Call (.Name "enumerate" p) [xx] [] pos) (tI X cf (.enm a)) := by
  refine PI.imp (PI.or (pi_enum (gl_of K0 hg) K0.en (pa_cons ha pa_nil (star_ok hns _ _)) (star_ok hns _ _)) (pi_enumT (gl_of K0 hg) K0.en (pa_cons ha pa_nil (star_ok hns _ _)) (star_ok hns _ _))) fun σ H R h => ?_
  obtain ⟨F, ρ, Z, dσ, st, s, q⟩ := h
  rw [evE] at q
  obtain ⟨d1, s1, e1, q⟩ := q.bind
  split at q
  · obtain ⟨ds, hd, q⟩ := q
    cases hd
    refine .inl (run1 s e1 fun v H1 F1 ρ1 sm t r => ?_)
    obtain ⟨a, vs, rfl, h1, h2⟩ := Rep.lst_ r
    exact ⟨a, vs, rfl, SqL.of (sm.rf.fs _ _ h1), q _ H1 F1 ρ1 sm t (walk_enum h1 h2)⟩
  · obtain ⟨ds, hd, q⟩ := q
    cases hd
    refine .inr (run1 s e1 fun v H1 F1 ρ1 sm t r => ?_)
    obtain ⟨a, vs, rfl, h1, h2⟩ := Rep.tup_ r
    exact ⟨a, vs, rfl, sm.rf.fs.sqT h1, q _ H1 F1 ρ1 sm t (walk_enumT h1 h2)⟩
  · exact q.elim
theorem s_zp (K0 : XOk X G sc cf) {elts : List Expr} {kk : Nat} {tp : Pos} (hg : glB sc "zip" = true) (hns : nsB xx = true) (hns' : nsB yy = true) (ha : PE X xx (tX X cf .val a)) (hb : PE X yy (tX X cf .val b)) :
    PI X (.Tuple elts kk tp) (.Call (.Name "zip" p) [xx, yy] [] pos) (tI X cf (.zp a b)) := by
  refine PI.imp (RZ.pi_zipA (gl_of K0 hg) K0.zp (pa_cons ha (pa_cons hb pa_nil (star_ok hns' _ _)) (star_ok hns _ _)) (star_ok hns _ _) (nostar_ok (by simp only [List.all_cons, List.all_nil, hns']; rfl) _ _)) fun σ H R h => ?_
  obtain ⟨F, ρ, Z, dσ, st, s, q⟩ := h
  rw [evE] at q
  obtain ⟨d1, s1, e1, q⟩ := q.bind
  obtain ⟨d2, s2, e2, q⟩ := q.bind
  split at q
  · obtain ⟨ds, hd, q⟩ := q
    cases hd
    refine run2 (by simp) s e1 e2 fun v u H1 F1 ρ1 sm t r r' => ?_
    obtain ⟨a, vs, rfl, h1, h2⟩ := Rep.lst_ r
    obtain ⟨b, us, rfl, g1, g2⟩ := Rep.lst_ r'
    exact ⟨a, b, vs, us, rfl, .inl ⟨SqL.of (sm.rf.fs _ _ h1), SqL.of (sm.rf.fs _ _ g1), q _ H1 F1 ρ1 sm t (walk_zip h1 h2 g1 g2)⟩⟩
  · obtain ⟨ds, hd, q⟩ := q
    cases hd
    refine run2 (by simp) s e1 e2 fun v u H1 F1 ρ1 sm t r r' => ?_
    obtain ⟨a, vs, rfl, h1, h2⟩ := Rep.tup_ r
    obtain ⟨b, us, rfl, g1, g2⟩ := Rep.tup_ r'
    exact ⟨a, b, vs, us, rfl, .inr ⟨sm.rf.fs.sqT h1, sm.rf.fs.sqT g1, q _ H1 F1 ρ1 sm t (walk_zipT h1 h2 g1 g2)⟩⟩
  · exact q.elim
end
end PV
end
section
set_option Elab.async false
set_option linter.all false
set_option maxRecDepth 100000
set_option maxHeartbeats 2000000
/-! PvS7c: comprehensions. -/
namespace PV
open PySem PySem.Spec PyProof.Rows L2
section
variable {P : Program} {w : World} {K : PySem.W.Frag} {cf : CF} {H F H' F' H'' F'' : Hp} {ρ ρ' ρ'' : List Addr} {Z Z' : Nat → Prop} {σ σ' : L2.St} {dσ dσ' : Sg} {st st' : ST} {d : D} {v : V} {vs us : List V} {ds es : List D} {a b p : Addr} {o : HO} {own : Addr → Prop}
theorem Sm.upd (s : Sm P w K H F ρ Z σ dσ st) (hf : F p = none) (hr : p ∉ ρ) (ho : ¬ Ow σ dσ p) : Sm P w K (upd H p o) F ρ Z σ dσ st := by
  refine ⟨⟨fun a u e => ?_, s.rf.rl, s.rf.nd, fun n d e => ?_⟩, s.len, s.val, fun i d e => ?_, s.sep⟩
  · rw [upd_ne (ne_of_none e hf)]; exact s.rf.fs a u e
  · obtain ⟨a, h1, h2, h3⟩ := s.rf.at_ n d e
    have ha : a ≠ p := fun z => hr (by rw [← z]; exact List.mem_of_getElem? h1)
    exact ⟨a, h1, h2, h3.mono (Fsub.refl F) (Pre.refl ρ) fun o q => by rw [upd_ne ha]; exact q⟩
  · obtain ⟨a, h1, h2, h3, h4⟩ := s.own i d e
    have ha : a ≠ p := fun z => ho ⟨i, d, e, by rw [← z]; exact h1⟩
    exact ⟨a, h1, h2.mono (Fsub.refl F) (Pre.refl ρ) fun o q => by rw [upd_ne ha]; exact q, h3, h4⟩
theorem Stp.upd (t : Stp own H F ρ H' F' ρ') (h0 : H p = none) : Stp own H F ρ (upd H' p o) F' ρ' :=
  ⟨fun a u e n => by rw [upd_ne (ne_of_none e h0)]; exact t.h a u e n, t.f, t.n, t.r, t.q, fun a e => by
    by_cases ha : a = p
    · subst ha; rw [upd_same]; simp
    · rw [upd_ne ha]; exact t.d a e⟩
theorem Stp.keepD (t : Stp own H F ρ H' F' ρ') (hD : H p = some o) (hF : F p = none) (hr : p ∉ ρ) (ho : ¬ own p) : H' p = some o ∧ F' p = none ∧ p ∉ ρ' := by
  refine ⟨t.h p o hD hr, ?_, fun z => ?_⟩
  · cases e : F' p with
    | none => rfl
    | some u =>
      rcases t.n p (by rw [e]; simp) with z | z | z
      · exact absurd hF z
      · rw [hD] at z; cases z
      · exact absurd z ho
  · rcases t.q p z with z | z
    · exact hr z
    · rw [hD] at z; cases z
end
theorem ownP_snd (N : List Str) (own : List Nat) : (ownP N own).map (·.2) = own := by
  unfold ownP
  rw [List.map_map]
  exact List.map_id' own
theorem locF_blk {X : Cx} {scope : Scope} {s : Shared} {H : Hp} {C : Addr} {cl : List (Str × Addr)} {fp : List Addr} {x : Str} (h : locB scope x = true) : LocF (X.blk s H scope (compEnvC scope cl C X.env) fp) x := by
  have e : (X.blk s H scope (compEnvC scope cl C X.env) fp).env.scope = relS scope X.env.scope := rfl
  rcases locB_eq h with k | k
  · have q : (relS scope X.env.scope).names.lookup x = some .local := lookup_relS_keep (by decide) k
    exact ⟨.inl q, .inr q⟩
  · have q : (relS scope X.env.scope).names.lookup x = some .cell := lookup_relS_keep (by decide) k
    refine ⟨.inr q, .inl ?_⟩
    show (scope.names.lookup x == some .cell) = true
    rw [k]
    rfl
theorem s_comp {X : Cx} {G : Cg} {sc : Scope} {cf : CF} (K0 : XOk X G sc cf) {it c e : E} {t : Tg} {own : List Nat} {scope : Scope} {tg iter elt : Expr} {ifs : List Expr}
    (hi : PI X tg iter (tI X cf it)) (hb : blkC G.N sc scope (ownP G.N own) = true) (ht : tgC G.N scope own t tg = true)
    (hc : ∀ (s : Shared) (H : Hp) (C : Addr) (cl : List (Str × Addr)) (fp : List Addr), PTs (X.blk s H scope (compEnvC scope cl C X.env) fp) ifs (tT X cf c))
    (he : ∀ (s : Shared) (H : Hp) (C : Addr) (cl : List (Str × Addr)) (fp : List Addr), PE (X.blk s H scope (compEnvC scope cl C X.env) fp) elt (tX X cf .val e))
    (hs : setB iter = false) : ∀ σ H Q, tX X cf .own (.comp e t it c own) σ H Q → tLc (tI X cf it) (gT X.K t) (tT X cf c) (tX X cf .val e) ((ownP G.N own).map (·.2)) σ H Q := by
  intro σ H Q h
  obtain ⟨F, ρ, Z, dσ, st, s, q⟩ := h
  rw [evE] at q
  obtain ⟨d1, s1, e1, q1⟩ := q.bind
  clear q
  rw [ownP_snd]
  split at q1
  · rename_i ds
    refine ⟨F, ρ, Z, dσ, st, s, ?_⟩
    rw [e1]
    refine ⟨ds, rfl, fun J H1 F1 ρ1 sm1 t1 hW => ?_⟩
    intro L hD
    let Z2 : Nat → Prop := Zr Z (rdE it ++ (rdE c ++ rdE e))
    let fin : List D → ST → Prop := fun r s3 => Rs X.prog X.w X.K .own H F ρ Z2 σ dσ Q (.lst r) s3
    let I : Nat → Hp → Prop := fun i H' => ∃ F2 ρ2 s2 acc vs, Sm X.prog X.w X.K H' F2 ρ2 Z2 σ dσ s2 ∧ Stp (Ow σ dσ) H F ρ H' F2 ρ2 ∧ Fsub F1 F2 ∧ Pre ρ1 ρ2 ∧ H' L = some (.lst vs) ∧ Reps X.prog X.w X.K F2 ρ2 vs acc ∧ F2 L = none ∧ L ∉ ρ2 ∧
      Out (compL t (wipeW dσ own) (fun σ' s => evE cf c σ' s) (fun σ' s => evE cf e σ' s) (ds.drop i) acc s2) fin
    have hH0 : H L = none := t1.none_ hD
    have hOw : ¬ Ow σ dσ L := sm1.notow hD
    refine ⟨fun i m H' => m = ds.length - i ∧ i ≤ ds.length ∧ I i H', ⟨_, rfl, Nat.zero_le _, F1, ρ1, s1, [], [], ?_, t1.upd hH0, Fsub.refl _, Pre.refl _, upd_same, .nil, sm1.rf.fnone hD, sm1.rf.notin hD, ?_⟩, ?_⟩
    · refine (sm1.alloc hD).wkZ fun i z => ?_
      rcases z with z | z
      · exact .inl z
      · exact .inr (List.mem_append_left _ z)
    · rw [List.drop_zero]
      obtain ⟨r, s3, e3, q2⟩ := q1.bind
      rw [e3]
      exact q2
    · rintro i m H2 ⟨rfl, hi', F2, ρ2, s2, acc, vs, sm2, t2, hF, hρ, hD2, r2, hFD, hρD, q2⟩
      have fs2 := hF.trans sm2.rf.fs
      by_cases hlt : i < ds.length
      · have hd : ds[i]? = some ds[i] := List.getElem?_eq_getElem hlt
        refine .inr ⟨((hW i H2 fs2).2 _ hd).1, I (i + 1), fun H' p' => ⟨ds.length - (i + 1), by omega, rfl, hlt, p'⟩, fun x H3 y => ?_⟩
        obtain ⟨F3, sm3, t3, r3⟩ := hW.turn (own := Ow σ dσ) hF hρ sm2 hd y
        rw [List.drop_eq_getElem_cons hlt, compL] at q2
        split at q2
        · exact q2.elim
        · rename_i σ' hbd
          obtain ⟨σb, gq, smb, subb, wipb⟩ := (sm3.wiped own).bind hbd r3
          have sub2 : Sub σb σ' σ dσ := subb.trans sub_wipe
          refine gq _ ⟨by rw [wipb own (tgC_in ht), wipe_wipe], ?_⟩
          obtain ⟨db, s4, e4, q3⟩ := q2.bind
          clear q2
          refine ⟨F3, ρ2, Z2, σ', s2, smb, ?_⟩
          rw [e4]
          have zz : ∀ i, (Z2 i ∨ Zr Z2 (rdE c) i) → Z2 i := fun i z => by
            rcases z with z | z | z
            · exact z
            · exact z
            · exact .inr (List.mem_append_right _ (List.mem_append_left _ z))
          have zz2 : ∀ i, (Z2 i ∨ Zr (Zr Z2 (rdE c)) (rdE e) i) → Z2 i := fun i z => by
            rcases z with z | z | z
            · exact z
            · exact zz i (.inr z)
            · exact .inr (List.mem_append_right _ (List.mem_append_right _ z))
          split at q3
          · refine ⟨true, rfl, fun H4 F4 ρ4 sm4 t4 => ?_⟩
            show tX X cf .val e σb H4 _
            obtain ⟨dv, s5, e5, q4⟩ := q3.bind
            clear q3
            refine run1 sm4 e5 fun v H5 F5 ρ5 sm5 t5 r5 => ?_
            split at q4
            · rename_i hsm
              have tb : Stp (Ow σb σ') H3 F3 ρ2 H5 F5 ρ5 := t4.trans t5
              have to : Stp (Ow σ dσ) H2 F2 ρ2 H5 F5 ρ5 := t3.trans (tb.wk fun a z => sub2.ow z)
              obtain ⟨k1, k2, k3⟩ := to.keepD hD2 hFD hρD hOw
              refine ⟨vs, k1, by rw [r2.length]; exact small_lt hsm, F5, ρ5, s5, acc ++ [dv], vs ++ [v], ?_, (t2.trans to).upd hH0, hF.trans to.f, hρ.trans to.r, upd_same, (r2.mono to.f to.r).append (.cons r5 .nil), k2, k3, q4⟩
              exact ((sm3.back sm5 tb sub2).wkZ zz2).upd k2 k3 hOw
            · exact q4.elim
          · refine ⟨false, rfl, fun H4 F4 ρ4 sm4 t4 => ?_⟩
            show I (i + 1) H4
            have to : Stp (Ow σ dσ) H2 F2 ρ2 H4 F4 ρ4 := t3.trans (t4.wk fun a z => sub2.ow z)
            obtain ⟨k1, k2, k3⟩ := to.keepD hD2 hFD hρD hOw
            exact ⟨F4, ρ4, s4, acc, vs, (sm3.back sm4 t4 sub2).wkZ zz, t2.trans to, hF.trans to.f, hρ.trans to.r, k1, r2.mono to.f to.r, k2, k3, q3⟩
          · exact q3.elim
      · have e0 : i = ds.length := by omega
        subst e0
        refine .inl ⟨(hW _ H2 fs2).1 (List.getElem?_eq_none (Nat.le_refl _)), ?_⟩
        rw [List.drop_length, compL] at q2
        exact q2 (.ref L) H2 F2 ρ2 sm2 t2 ⟨L, rfl, ⟨vs, hD2, r2⟩, hFD, hρD, hOw, hH0⟩
  · exact q1.elim
section
variable {X : Cx} {G : Cg} {sc : Scope} {cf : CF} {it c e : E} {t : Tg} {own : List Nat} {scope : Scope} {tg iter elt : Expr} {ifs : List Expr} {pos : Pos}
theorem pg_blk (K0 : XOk X G sc cf) (ht : tgC G.N scope own t tg = true) : ∀ (s : Shared) (H : Hp) (C : Addr) (cl : List (Str × Addr)) (fp : List Addr), PG (X.blk s H scope (compEnvC scope cl C X.env) fp) tg (gT X.K t) := fun s H C cl fp =>
  pg_T (X := X.blk s H scope (compEnvC scope cl C X.env) fp) (scope := scope) (own := own) (by show X.N.Nodup; rw [K0.N]; exact K0.nd) K0.calm (fun x h => locF_blk h) (by show tgC X.N scope own t tg = true; rw [K0.N]; exact ht)
theorem s_compE (K0 : XOk X G sc cf) 
    (hi : PI X tg iter (tI X cf it)) (hb : blkC G.N sc scope (ownP G.N own) = true) (ht : tgC G.N scope own t tg = true)
    (hc : ∀ (s : Shared) (H : Hp) (C : Addr) (cl : List (Str × Addr)) (fp : List Addr), PTs (X.blk s H scope (compEnvC scope cl C X.env) fp) ifs (tT X cf c))
    (he : ∀ (s : Shared) (H : Hp) (C : Addr) (cl : List (Str × Addr)) (fp : List Addr), PE (X.blk s H scope (compEnvC scope cl C X.env) fp) elt (tX X cf .val e))
    (hs : setB iter = false) : PE X (.ListComp elt [⟨tg, iter, ifs, 0⟩] scope pos) (tX X cf .own (.comp e t it c own)) :=
  PE.imp (pe_lc K0.calm (by rw [K0.N]; exact K0.nd) hi (by rw [K0.N, K0.sc]; exact blkOk_by hb) (pg_blk K0 ht) hc he (folded_ok hs _)) (s_comp K0 hi hb ht hc he hs)
theorem xok_blk (K0 : XOk X G sc cf) (s : Shared) (H : Hp) (C : Addr) (cl : List (Str × Addr)) (fp : List Addr) : XOk (X.blk s H scope (compEnvC scope cl C X.env) fp) G (relS scope sc) cf :=
  ⟨K0.N, K0.nd, by rw [← K0.sc]; rfl, K0.calm, K0.hu, K0.fn, K0.gc, K0.bl, K0.tyB, K0.rg, K0.en, K0.zp⟩
theorem pts_of {Y : Cx} (c1 : Str) : True := trivial
end
end PV
end
section
set_option Elab.async false
set_option linter.all false
set_option maxRecDepth 100000
set_option maxHeartbeats 2000000
/-! PvS7d: every checked expression is read. -/
namespace PV
open PySem PySem.Spec PyProof.Rows L2
def Ok (X : Cx) (cf : CF) (x : Expr) (e : E) : Prop := (∀ m, (m = .own → frsh e = true) → PE X x (tX X cf m e)) ∧ (ntB x = true → PT X x (tT X cf e))
theorem PE.no {X : Cx} {x : Expr} {t : TE} (h : ∀ σ H Q, t σ H Q → False) : PE X x t := ⟨fun pins s σ H Q I q => (h _ _ _ q).elim⟩
theorem PT.no {X : Cx} {x : Expr} {t : TT} (h : ∀ σ H Q, t σ H Q → False) : PT X x t := ⟨fun pins s σ H Q I q => (h _ _ _ q).elim⟩
section
variable {X : Cx} {G : Cg} {sc : Scope} {cf : CF} {x : Expr} {e : E}
theorem tg_tup {N : List Str} {scope : Scope} {own is : List Nat} {tg : Expr} (h : tgC N scope own (.many is) tg = true) : ∃ es k p, tg = .Tuple es k p := by
  cases tg <;> first | exact ⟨_, _, _, rfl⟩ | cases h
theorem Ok.v (h : Ok X cf x e) : PE X x (tX X cf .val e) := h.1 .val (by simp)
theorem Ok.p (h : Ok X cf x e) : PE X x (tX X cf .pk e) := h.1 .pk (by simp)
theorem Ok.val2 (hv : isVar e = false) (hf : frsh e = false) (h : PE X x (tX X cf .val e)) (ht : ntB x = true → PT X x (tT X cf e)) : Ok X cf x e :=
  ⟨fun m hm => of_val hv h m (fun z => by rw [hf] at hm; cases hm z), ht⟩
theorem Ok.val (hv : isVar e = false) (hf : frsh e = false) (hx : valB x = true) (h : PE X x (tX X cf .val e)) : Ok X cf x e := Ok.val2 hv hf h fun _ => t_val h hx
theorem Ok.own (hv : isVar e = false) (hx : valB x = true) (h : PE X x (tX X cf .own e)) : Ok X cf x e := ⟨fun m _ => of_own hv h m, fun _ => t_val (own_val h) hx⟩
theorem isNonE_eq : ∀ {e : E}, isNonE e = true → e = .cst .non
  | .cst d, h => by cases d <;> first | rfl | cases h
theorem okO_ok {o : Option Expr} (h : ∀ {x}, okE G e sc x = true → Ok X cf x e) (ho : (match o with
      | .none => isNonE e
      | some y => okE G e sc y && !isNonE e) = true) : PO X o (tO X cf e) := by
  cases o with
  | none =>
    exact s_bnd (.inl ⟨isNonE_eq ho, rfl⟩)
  | some x =>
    have ho : (okE G e sc x && !isNonE e) = true := ho
    rw [Bool.and_eq_true, Bool.not_eq_true'] at ho
    exact s_bnd (.inr ⟨x, rfl, ho.2, (h ho.1).v⟩)
end
section
variable {P : Program} {w : World} {K : PySem.W.Frag} {H F : Hp} {ρ : List Addr} {Z : Nat → Prop} {σ : L2.St} {dσ : Sg} {st : ST} {p : Addr} {d : D}
/-- a new list becomes a changing object -/
theorem Sm.newref (s : Sm P w K H F ρ Z σ dσ st) (ht : Top P w K F ρ H p d) (hf : F p = none) (hr : p ∉ ρ) (ho : ¬ Ow σ dσ p) : Sm P w K H F (ρ ++ [p]) Z σ dσ (st ++ [d]) := by
  refine ⟨s.rf.newref ht hf hr, s.len, fun i d e => ?_, fun i d e => ?_, s.sep⟩
  · obtain ⟨v, h1, h2⟩ := s.val i d e
    exact ⟨v, h1, h2.mono (Fsub.refl F) (pre_snoc _ _)⟩
  · obtain ⟨a, h1, h2, h3, h4⟩ := s.own i d e
    refine ⟨a, h1, h2.mono (Fsub.refl F) (pre_snoc _ _) fun _ q => q, fun z => ?_, h4⟩
    rcases List.mem_append.mp z with z | z
    · exact h3 z
    · have z : a = p := by simpa using z
      exact ho ⟨i, d, e, by rw [← z]; exact h1⟩
end
section
variable {X : Cx} {cf : CF} {x : Expr} {a : E}
theorem s_nrf (h : PE X x (tX X cf .own a)) : PE X x (tX X cf .val (.nrf a)) := by
  refine PE.imp h fun σ H Q q => ?_
  obtain ⟨F, ρ, Z, dσ, st, s, q⟩ := q
  rw [evE] at q
  obtain ⟨d1, s1, e1, q1⟩ := q.bind
  clear q
  refine run1 s e1 fun v H1 F1 ρ1 sm t r => ?_
  obtain ⟨p, rfl, h2, h3, h4, h5, h6⟩ := r
  have fin : ∀ {d : D}, d1 = d → Out (R.ok (D.rf s1.length) (s1 ++ [d])) (Rs X.prog X.w X.K .val H F ρ (Zr Z (rd .val (.nrf a))) σ dσ Q) → Q (.ref p) H1 := fun {d} e q => by
    subst e
    refine q (.ref p) H1 F1 (ρ1 ++ [p]) (sm.newref h2 h3 h4 h5) ⟨t.h, t.f, t.n, t.r.trans (pre_snoc _ _), fun b hb => ?_, t.d⟩ (.rf ?_)
    · rcases List.mem_append.mp hb with hb | hb
      · exact t.q b hb
      · have hb : b = p := by simpa using hb
        subst hb; exact .inr h6
    · rw [← sm.rf.rl, List.getElem?_append_right (Nat.le_refl _), Nat.sub_self]
      rfl
  split at q1
  · exact fin rfl q1
  · exact fin rfl q1
  · exact q1.elim
end
theorem iff_tac {p q : Prop} (h : p ↔ q) : p = q := propext h
mutual
theorem ok_E {G : Cg} {cf : CF} : ∀ (e : E) {X : Cx} {sc : Scope} {x : Expr}, XOk X G sc cf → okE G e sc x = true → Ok X cf x e
  | .cst d, X, sc, x, K0, h => by
    unfold okE at h
    split at h <;> first | (cases h; done) | contradiction | skip
    rename_i q
    cases q
    exact Ok.val rfl rfl rfl (s_cst h)
  | .var i, X, sc, x, K0, h => by
    unfold okE at h
    split at h <;> first | (cases h; done) | contradiction | skip
    rename_i q
    cases q
    exact ⟨fun m hm => s_var K0 h m (fun z => by cases hm z), fun _ => t_val (s_var K0 h .val (by simp)) rfl⟩
  | .glc d, X, sc, x, K0, h => by
    unfold okE at h
    split at h <;> first | (cases h; done) | contradiction | skip
    rename_i q
    cases q
    exact Ok.val rfl rfl rfl (s_glc K0 h)
  | .bin o a b, X, sc, x, K0, h => by
    unfold okE at h
    split at h <;> first | (cases h; done) | contradiction | skip
    rename_i q
    cases q
    simp only [Bool.and_eq_true] at h
    obtain ⟨⟨h1, h2⟩, h3⟩ := h
    rw [opIs_eq h1]
    exact Ok.val rfl rfl rfl (s_bin (ok_E a K0 h2).v (ok_E b K0 h3).v)
  | .neg a, X, sc, x, K0, h => by
    unfold okE at h
    split at h <;> first | (cases h; done) | contradiction | skip
    rename_i q
    cases q
    refine Ok.val2 rfl rfl (s_neg (ok_E a K0 h).v) fun _ => PT.no fun σ H Q q => ?_
    obtain ⟨F, ρ, Z, dσ, st, s, q⟩ := q
    rw [evE] at q
    obtain ⟨d1, s1, e1, q⟩ := q.bind
    split at q
    · obtain ⟨b, hb, _⟩ := q
      cases hb
    · exact q
  | .cmp o a b, X, sc, x, K0, h => by
    unfold okE at h
    split at h <;> first | (cases h; done) | contradiction | skip
    rename_i q
    cases q
    simp only [Bool.and_eq_true, Bool.not_eq_true'] at h
    obtain ⟨⟨⟨h1, h2⟩, h3⟩, h4⟩ := h
    rw [cpIs_eq h1]
    have z := s_cmp K0 (o := o) (pos := by assumption) h4 (ok_E a K0 h2).p (ok_E b K0 h3).p
    exact Ok.val2 rfl rfl z.1 fun _ => z.2
  | .chn o p a b c, X, sc, x, K0, h => by
    unfold okE at h
    split at h <;> first | (cases h; done) | contradiction | skip
    rename_i q
    cases q
    simp only [Bool.and_eq_true, Bool.not_eq_true'] at h
    obtain ⟨⟨⟨⟨⟨h1, h2⟩, h3⟩, h4⟩, h5⟩, h6⟩ := h
    rw [cpIs_eq h1, cpIs_eq h2]
    have z := s_chn K0 (o := o) (p := p) (pos := by assumption) h6 (ok_E a K0 h3).v (ok_E b K0 h4).v (ok_E c K0 h5).v
    exact Ok.val2 rfl rfl z.1 fun _ => z.2
  | .ands es, X, sc, x, K0, h => by
    unfold okE at h
    split at h <;> first | (cases h; done) | contradiction | skip
    rename_i xs _ q
    cases q
    rw [Bool.and_eq_true] at h
    have A := ok_Es es K0 h.1
    by_cases hx : xs = []
    · subst hx
      cases A
      exact Ok.val2 rfl rfl (PE.no fun σ H Q ⟨_, _, _, _, _, _, q⟩ => q) fun _ => PT.no fun σ H Q ⟨_, _, _, _, _, _, q⟩ => q
    · exact Ok.val2 rfl rfl (s_ands A hx) fun _ => (s_andsT A hx h.2).pt
  | .ors es, X, sc, x, K0, h => by
    unfold okE at h
    split at h <;> first | (cases h; done) | contradiction | skip
    rename_i xs _ q
    cases q
    rw [Bool.and_eq_true] at h
    have A := ok_Es es K0 h.1
    by_cases hx : xs = []
    · subst hx
      cases A
      exact Ok.val2 rfl rfl (PE.no fun σ H Q ⟨_, _, _, _, _, _, q⟩ => q) fun _ => PT.no fun σ H Q ⟨_, _, _, _, _, _, q⟩ => q
    · exact Ok.val2 rfl rfl (s_ors A hx) fun _ => (s_orsT A hx h.2).pt
  | .nt a, X, sc, x, K0, h => by
    unfold okE at h
    split at h <;> first | (cases h; done) | contradiction | skip
    rename_i q
    cases q
    rw [Bool.and_eq_true] at h
    have z := s_nt (pos := by assumption) ((ok_E a K0 h.1).2 h.2) (ok_E a K0 h.1).v
    exact Ok.val2 rfl rfl z.1 fun _ => z.2
  | .ite c a b, X, sc, x, K0, h => by
    unfold okE at h
    split at h <;> first | (cases h; done) | contradiction | skip
    rename_i q
    cases q
    simp only [Bool.and_eq_true] at h
    obtain ⟨⟨⟨h1, h2⟩, h3⟩, h4⟩ := h
    have zc := (ok_E c K0 h1).2 h2
    have za := ok_E a K0 h3
    have zb := ok_E b K0 h4
    have zv := s_ite (pos := by assumption) (m := .val) zc za.v zb.v (by simp)
    refine ⟨fun m hm => ?_, fun z => by cases z⟩
    cases m with
    | val => exact zv
    | pk => exact val_pk rfl zv
    | own =>
      have hf := hm rfl
      rw [frsh, Bool.and_eq_true] at hf
      exact s_ite zc (za.1 .own fun _ => hf.1) (zb.1 .own fun _ => hf.2) (by simp)
  | .tup es, X, sc, x, K0, h => by
    unfold okE at h
    split at h <;> first | (cases h; done) | contradiction | skip
    rename_i q
    cases q
    exact Ok.val rfl rfl rfl (s_tup (ok_Es es K0 h))
  | .lst es, X, sc, x, K0, h => by
    unfold okE at h
    split at h <;> first | (cases h; done) | contradiction | skip
    rename_i q
    cases q
    exact Ok.own rfl rfl (s_lst (ok_Es es K0 h))
  | .idx a i, X, sc, x, K0, h => by
    unfold okE at h
    split at h <;> first | (cases h; done) | contradiction | skip
    rename_i q
    cases q
    simp only [Bool.and_eq_true] at h
    obtain ⟨⟨h1, h2⟩, h3⟩ := h
    exact Ok.val rfl rfl rfl (s_idx (ok_E a K0 h1).p (ok_E i K0 h2).v h3)
  | .sl a lo hi, X, sc, x, K0, h => by
    unfold okE at h
    split at h <;> first | (cases h; done) | contradiction | skip
    rename_i q
    cases q
    rw [Bool.and_eq_true, Bool.and_eq_true] at h
    obtain ⟨⟨h1, h2⟩, h3⟩ := h
    exact Ok.val rfl rfl rfl (s_sl (ok_E a K0 h1).p (okO_ok (fun {x} hx => ok_E lo K0 hx) h2) (okO_ok (fun {x} hx => ok_E hi K0 hx) h3))
  | .rev a, X, sc, x, K0, h => by
    unfold okE at h
    split at h <;> first | (cases h; done) | contradiction | skip
    rename_i q
    cases q
    exact Ok.val rfl rfl rfl (s_rev (ok_E a K0 h).p)
  | .call f es, X, sc, x, K0, h => by
    unfold okE at h
    split at h <;> first | (cases h; done) | contradiction | skip
    rename_i q
    cases q
    simp only [Bool.and_eq_true] at h
    obtain ⟨⟨⟨h1, h2⟩, h3⟩, h4⟩ := h
    exact Ok.val rfl rfl rfl (s_call K0 h1 h2 h3 (ok_Es es K0 h4))
  | .blt b es, X, sc, x, K0, h => by
    unfold okE at h
    split at h <;> first | (cases h; done) | contradiction | skip
    rename_i q
    cases q
    rw [Bool.and_eq_true, Bool.and_eq_true, Bool.and_eq_true] at h
    obtain ⟨⟨⟨h1, h2⟩, h3⟩, h4⟩ := h
    split at h4
    · simp only [Bool.and_eq_true, decide_eq_true_eq] at h4
      obtain ⟨⟨⟨g1, g2⟩, g3⟩, g4⟩ := h4
      exact Ok.val rfl rfl rfl (s_isi K0 h1 (of_decide_eq_true h2) (by assumption) g3 g4 g2 (ok_E _ K0 g1).p)
    · exact Ok.val rfl rfl rfl (s_blt K0 h1 (of_decide_eq_true h2) h3 (by assumption) (ok_Es _ K0 h4) (by simp))
    · cases h4
  | .comp e t it c own, X, sc, x, K0, h => by
    unfold okE at h
    split at h <;> first | (cases h; done) | contradiction | skip
    rename_i q
    cases q
    simp only [Bool.and_eq_true, Bool.not_eq_true', decide_eq_true_eq, Bool.or_eq_true] at h
    obtain ⟨⟨⟨⟨⟨⟨⟨h1, h2⟩, h3⟩, h4⟩, h5⟩, h6⟩, h7⟩, h8⟩ := h
    subst h3
    refine Ok.own rfl rfl (s_compE K0 (ok_I it K0 h1 fun z => ?_) h4 h5 (fun s H C cl fp => ?_) (fun s H C cl fp => (ok_E e (xok_blk K0 s H C cl fp) h7).v) h2)
    · rcases h6 with h6 | h6
      · rw [z] at h6; cases h6
      · cases t with
        | one i => cases h6
        | many is => exact tg_tup h5
    · split at h8
      · split at h8
        · refine ⟨fun pins s' σ H' Q I q => pts_nil.run pins s' σ H' Q I ?_⟩
          obtain ⟨F, ρ, Z, dσ, st, s0, q⟩ := q
          rw [evE] at q
          obtain ⟨b, hb, q⟩ := q
          cases hb
          exact q _ F ρ (s0.wkZ fun _ => .inl) Stp.refl
        · cases h8
      · rw [Bool.and_eq_true] at h8
        exact pts_one ((ok_E c (xok_blk K0 s H C cl fp) h8.1).2 h8.2)
      · cases h8
  | .dc0, X, sc, x, K0, h => by
    unfold okE at h
    first | (cases h; done) | (split at h <;> first | (cases h; done) | contradiction)
  | .dc1 _ _, X, sc, x, K0, h => by
    unfold okE at h
    first | (cases h; done) | (split at h <;> first | (cases h; done) | contradiction)
  | .get1 _ _, X, sc, x, K0, h => by
    unfold okE at h
    first | (cases h; done) | (split at h <;> first | (cases h; done) | contradiction)
  | .get2 _ _ _, X, sc, x, K0, h => by
    unfold okE at h
    first | (cases h; done) | (split at h <;> first | (cases h; done) | contradiction)
  | .dcmp _ _ _ _ _, X, sc, x, K0, h => by
    unfold okE at h
    first | (cases h; done) | (split at h <;> first | (cases h; done) | contradiction)
  | .rng1 _, X, sc, x, K0, h => by
    unfold okE at h
    first | (cases h; done) | (split at h <;> first | (cases h; done) | contradiction)
  | .rng2 _ _, X, sc, x, K0, h => by
    unfold okE at h
    first | (cases h; done) | (split at h <;> first | (cases h; done) | contradiction)
  | .rngd _ _, X, sc, x, K0, h => by
    unfold okE at h
    first | (cases h; done) | (split at h <;> first | (cases h; done) | contradiction)
  | .enm _, X, sc, x, K0, h => by
    unfold okE at h
    first | (cases h; done) | (split at h <;> first | (cases h; done) | contradiction)
  | .zp _ _, X, sc, x, K0, h => by
    unfold okE at h
    first | (cases h; done) | (split at h <;> first | (cases h; done) | contradiction)
  | .itv _, X, sc, x, K0, h => by
    unfold okE at h
    first | (cases h; done) | (split at h <;> first | (cases h; done) | contradiction)
  | .nrf a, X, sc, x, K0, h => by
    have h : (okE G a sc x && frsh a && valB x) = true := by
      unfold okE at h
      exact h
    rw [Bool.and_eq_true, Bool.and_eq_true] at h
    exact Ok.val rfl rfl h.2 (s_nrf ((ok_E a K0 h.1.1).1 .own fun _ => h.1.2))
theorem ok_Es {G : Cg} {cf : CF} : ∀ (es : List E) {X : Cx} {sc : Scope} {xs : List Expr}, XOk X G sc cf → okEs G es sc xs = true → AllE X cf es xs
  | [], X, sc, xs, K0, h => by
    cases xs with
    | nil => exact .nil
    | cons _ _ => simp [okEs] at h
  | e :: es, X, sc, xs, K0, h => by
    cases xs with
    | nil => simp [okEs] at h
    | cons x xs =>
      rw [okEs, Bool.and_eq_true, Bool.and_eq_true] at h
      have z := ok_E e K0 h.1.1
      exact .cons (fun m hm => z.1 m fun q => absurd q hm) z.2 h.1.2 (ok_Es es K0 h.2)
theorem ok_I {G : Cg} {cf : CF} : ∀ (it : E) {X : Cx} {sc : Scope} {x tg : Expr}, XOk X G sc cf → okI G it sc x = true → (isPair it = true → ∃ es k p, tg = .Tuple es k p) → PI X tg x (tI X cf it)
  | .rng1 a, X, sc, x, tg, K0, h, ht => by
    unfold okI at h
    split at h <;> first | (cases h; done) | contradiction | skip
    · rename_i q
      cases q
      simp only [Bool.and_eq_true, decide_eq_true_eq] at h
      obtain ⟨⟨⟨h1, h2⟩, h3⟩, h4⟩ := h
      subst h2
      exact s_rng1 K0 h1 h4 (ok_E a K0 h3).v
  | .rng2 a b, X, sc, x, tg, K0, h, ht => by
    unfold okI at h
    split at h <;> first | (cases h; done) | contradiction | skip
    · rename_i q
      cases q
      simp only [Bool.and_eq_true, decide_eq_true_eq] at h
      obtain ⟨⟨⟨⟨⟨h1, h2⟩, h3⟩, h4⟩, h5⟩, h6⟩ := h
      subst h2
      exact s_rng2 K0 h1 h5 h6 (ok_E a K0 h3).v (ok_E b K0 h4).v
  | .rngd a b, X, sc, x, tg, K0, h, ht => by
    unfold okI at h
    split at h <;> first | (cases h; done) | contradiction | skip
    · rename_i q
      cases q
      simp only [Bool.and_eq_true, decide_eq_true_eq] at h
      obtain ⟨⟨⟨⟨⟨h1, h2⟩, h3⟩, h4⟩, h5⟩, h6⟩ := h
      subst h2
      exact s_rngd K0 h1 h5 h6 (ok_E a K0 h3).v (ok_E b K0 h4).v
  | .enm a, X, sc, x, tg, K0, h, ht => by
    obtain ⟨es, k, p, rfl⟩ := ht rfl
    unfold okI at h
    split at h <;> first | (cases h; done) | contradiction | skip
    · rename_i q
      cases q
      simp only [Bool.and_eq_true, decide_eq_true_eq] at h
      obtain ⟨⟨⟨h1, h2⟩, h3⟩, h4⟩ := h
      subst h2
      exact s_enm K0 h1 h4 (ok_E a K0 h3).v
  | .zp a b, X, sc, x, tg, K0, h, ht => by
    obtain ⟨es, k, p, rfl⟩ := ht rfl
    unfold okI at h
    split at h <;> first | (cases h; done) | contradiction | skip
    · rename_i q
      cases q
      simp only [Bool.and_eq_true, decide_eq_true_eq] at h
      obtain ⟨⟨⟨⟨⟨h1, h2⟩, h3⟩, h4⟩, h5⟩, h6⟩ := h
      subst h2
      exact s_zp K0 h1 h5 h6 (ok_E a K0 h3).v (ok_E b K0 h4).v
  | .itv a, X, sc, x, tg, K0, h, ht => s_itv (ok_E a K0 (by unfold okI at h; exact h)).v
  | .cst _, _, _, _, _, _, h, _ | .var _, _, _, _, _, _, h, _ | .glc _, _, _, _, _, _, h, _ | .bin _ _ _, _, _, _, _, _, h, _ | .neg _, _, _, _, _, _, h, _ | .cmp _ _ _, _, _, _, _, _, h, _ | .chn _ _ _ _ _, _, _, _, _, _, h, _
  | .ands _, _, _, _, _, _, h, _ | .ors _, _, _, _, _, _, h, _ | .nt _, _, _, _, _, _, h, _ | .ite _ _ _, _, _, _, _, _, h, _ | .tup _, _, _, _, _, _, h, _ | .lst _, _, _, _, _, _, h, _ | .dc0, _, _, _, _, _, h, _ | .dc1 _ _, _, _, _, _, _, h, _
  | .idx _ _, _, _, _, _, _, h, _ | .sl _ _ _, _, _, _, _, _, h, _ | .rev _, _, _, _, _, _, h, _ | .call _ _, _, _, _, _, _, h, _ | .blt _ _, _, _, _, _, _, h, _ | .get1 _ _, _, _, _, _, _, h, _ | .get2 _ _ _, _, _, _, _, _, h, _
  | .comp _ _ _ _ _, _, _, _, _, _, h, _ | .dcmp _ _ _ _ _, _, _, _, _, _, h, _ | .nrf _, _, _, _, _, _, h, _ => by
    unfold okI at h
    first | (cases h; done) | (split at h <;> first | (cases h; done) | contradiction)
end
end PV
end
section
set_option Elab.async false
set_option linter.all false
set_option maxRecDepth 100000
set_option maxHeartbeats 2000000
/-! PvS8: the states between statements. -/
namespace PV
open PySem PySem.Spec PyProof.Rows L2
/-- a frame's entry, and what is to be kept -/
structure Bs where
  H : Hp
  F : Hp
  ρ : List Addr
  Fk : Hp
  ρk : List Addr
def NoZ : Nat → Prop := fun _ => False
def subL (l z : List Nat) : Bool := l.all fun i => z.contains i
theorem subL_mem {l z : List Nat} (h : subL l z = true) : ∀ i, i ∈ l → i ∈ z := fun i hi => List.contains_iff_mem.mp (List.all_eq_true.mp h i hi)
section
variable {P : Program} {w : World} {K : PySem.W.Frag} {cf : CF} {H F H0 F0 H' F' H1 F1 : Hp} {ρ ρ0 ρ' ρ1 : List Addr} {Z Z' : Nat → Prop} {σ σ' : L2.St} {dσ dσ' : Sg} {st st' s1 : ST} {d : D} {v : V} {vs us : List V} {ds es : List D} {a b p : Addr} {o : HO} {own : Addr → Prop} {B : Bs}
/-- between statements: no slot is told; what is shared or owned is new since the entry; what is kept -/
structure At (P : Program) (w : World) (K : PySem.W.Frag) (B : Bs) (H F : Hp) (ρ : List Addr) (σ : L2.St) (dσ : Sg) (st : ST) : Prop where
  sm : Sm P w K H F ρ NoZ σ dσ st
  t : Stp (fun _ => False) B.H B.F B.ρ H F ρ
  ow : ∀ a, Ow σ dσ a → B.H a = none
  k : Fsub B.Fk F
  r : Pre B.ρk ρ
theorem Stp.ent (x : Stp (fun _ => False) H0 F0 ρ0 H F ρ) (y : Stp own H F ρ H' F' ρ') (ho : ∀ a, own a → H0 a = none) : Stp (fun _ => False) H0 F0 ρ0 H' F' ρ' := by
  have z := (x.wk (own' := own) fun _ q => q.elim).trans y
  exact ⟨z.h, z.f, fun a e => (z.n a e).imp id fun q => .inl (q.elim id (ho a)), z.r, z.q, z.d⟩
theorem frz_step (dσ : Sg) (i : Nat) (is : List Nat) : (∃ d, dσ[i]? = some (some (W.own d)) ∧ frz dσ (i :: is) = frz (setW dσ i (.val d)) is) ∨ ((∀ d, dσ[i]? ≠ some (some (W.own d))) ∧ frz dσ (i :: is) = frz dσ is) := by
  have e0 : frz dσ (i :: is) = frz (match dσ[i]? with
    | some (some (W.own d)) => setW dσ i (.val d)
    | _ => dσ) is := by
    rw [frz]
    all_goals rfl
  rw [e0]
  split
  · rename_i d e
    exact .inl ⟨d, e, rfl⟩
  · rename_i h
    exact .inr ⟨fun d e => h d e, rfl⟩
/-- an own slot that is shared by now -/
theorem Sm.toVal {i : Nat} (s : Sm P w K H F ρ Z σ dσ st) (h1 : σ[i]? = some (some v)) (r : Rep P w K F ρ v d) : Sm P w K H F ρ (fun j => Z j ∧ j ≠ i) σ (setW dσ i (.val d)) st := by
  have hl : i < dσ.length := by rw [s.len]; exact (List.getElem?_eq_some_iff.mp h1).1
  have ne : ∀ {j e}, (setW dσ i (.val d))[j]? = some (some (W.own e)) → i ≠ j := fun {j e} h hj => by
    subst hj
    rw [setW_eq, List.getElem?_set_self hl] at h
    cases h
  refine ⟨s.rf, by rw [setW_eq, List.length_set]; exact s.len, fun j e h => ?_, fun j e h => ?_, fun j k a e1 e2 g1 g2 => ?_⟩
  · rw [setW_eq] at h
    by_cases hj : i = j
    · subst hj
      rw [List.getElem?_set_self hl] at h
      cases h
      exact ⟨v, h1, r⟩
    · rw [List.getElem?_set_ne hj] at h
      exact s.val j e h
  · have hj := ne h
    rw [setW_eq, List.getElem?_set_ne hj] at h
    obtain ⟨a, k1, k2, k3, k4⟩ := s.own j e h
    exact ⟨a, k1, k2, k3, k4.imp (fun z => ⟨z, fun q => hj q.symm⟩) id⟩
  · have n1 := ne g1
    have n2 := ne g2
    rw [setW_eq, List.getElem?_set_ne n1] at g1
    rw [setW_eq, List.getElem?_set_ne n2] at g2
    exact s.sep j k a e1 e2 g1 g2
theorem sub_toVal (i : Nat) : Sub σ (setW dσ i (.val d)) σ dσ := fun j e h => by
  rw [setW_eq, List.getElem?_set] at h
  split at h
  · split at h <;> cases h
  · exact ⟨h, rfl⟩
theorem Sm.frz : ∀ (z : List Nat) {Z : Nat → Prop} {F : Hp} {dσ : Sg}, Sm P w K H F ρ Z σ dσ st → ∃ F', Sm P w K H F' ρ (fun j => Z j ∧ j ∉ z) σ (frz dσ z) st ∧ Stp (Ow σ dσ) H F ρ H F' ρ ∧ Sub σ (PV.frz dσ z) σ dσ
  | [], Z, F, dσ, s => ⟨F, s.wkZ fun i h => ⟨h, by simp⟩, Stp.refl, Sub.refl⟩
  | i :: is, Z, F, dσ, s => by
    rcases frz_step dσ i is with ⟨d, e, h⟩ | ⟨e, h⟩
    · obtain ⟨a, F1, h1, h2, h3, h4⟩ := s.freeze1 e
      obtain ⟨F2, g1, g2, g3⟩ := Sm.frz is (h2.toVal h1 h3)
      rw [h]
      refine ⟨F2, g1.wkZ fun j q => ?_, h4.trans (g2.wk fun a q => (sub_toVal i).ow q), g3.trans (sub_toVal i)⟩
      obtain ⟨⟨q1, q2⟩, q3⟩ := q
      refine ⟨q1.resolve_right q2, fun z => ?_⟩
      rcases List.mem_cons.mp z with z | z
      · exact q2 z
      · exact q3 z
    · obtain ⟨F2, g1, g2, g3⟩ := Sm.frz is s
      rw [h]
      have hne : ∀ d, (PV.frz dσ is)[i]? ≠ some (some (W.own d)) := fun d q => e d (g3 i d q).1
      refine ⟨F2, ⟨g1.rf, g1.len, g1.val, fun j d q => ?_, g1.sep⟩, g2, g3⟩
      obtain ⟨a, k1, k2, k3, k4⟩ := g1.own j d q
      refine ⟨a, k1, k2, k3, k4.imp (fun z => ⟨z.1, fun q' => ?_⟩) id⟩
      rcases List.mem_cons.mp q' with q' | q'
      · subst q'; exact hne d q
      · exact z.2 q'
/-- behind what a statement evaluates: the slots at z are shared from now on -/
theorem At.after {l z : List Nat} (x : At P w K B H F ρ σ dσ st) (s : Sm P w K H1 F1 ρ1 (Zr NoZ l) σ dσ s1) (t : Stp (Ow σ dσ) H F ρ H1 F1 ρ1) (hz : subL l z = true) :
    ∃ F2, At P w K B H1 F2 ρ1 σ (frz dσ z) s1 ∧ Stp (Ow σ dσ) H1 F1 ρ1 H1 F2 ρ1 ∧ Sub σ (frz dσ z) σ dσ := by
  obtain ⟨F2, g1, g2, g3⟩ := s.frz z
  refine ⟨F2, ⟨g1.wkZ fun i q => ?_, x.t.ent (t.trans g2) x.ow, fun a q => x.ow a (g3.ow q), (x.k.trans t.f).trans g2.f, (x.r.trans t.r).trans g2.r⟩, g2, g3⟩
  rcases q.1 with q1 | q1
  · exact q1
  · exact q.2 (subL_mem hz i q1)
/-- a value is stored -/
theorem At.setV (x : At P w K B H F ρ σ dσ st) (i : Nat) (r : Rep P w K F ρ v d) : At P w K B H F ρ (σ.set i (some v)) (setW dσ i (.val d)) st :=
  ⟨x.sm.setV i r, x.t, fun a q => x.ow a ((sub_set i d v).ow q), x.k, x.r⟩
theorem ow_set {i : Nat} {w : W} {q : Addr} (h : Ow (σ.set i (some (V.ref a))) (setW dσ i w) q) : q = a ∨ Ow σ dσ q := by
  obtain ⟨j, e, h1, h2⟩ := h
  rw [setW_eq, List.getElem?_set] at h1
  rw [List.getElem?_set] at h2
  split at h1
  · rename_i hj
    rw [if_pos hj] at h2
    split at h2
    · exact .inl (V.ref.inj (Option.some.inj (Option.some.inj h2))).symm
    · cases h2
  · rename_i hj
    rw [if_neg hj] at h2
    exact .inr ⟨j, e, h1, h2⟩
/-- a new list is stored -/
theorem At.setO (x : At P w K B H F ρ σ dσ st) (i : Nat) (ht : Top P w K F ρ H a d) (hf : F a = none) (hr : a ∉ ρ) (ho : ¬ Ow σ dσ a) (h0 : B.H a = none) : At P w K B H F ρ (σ.set i (some (.ref a))) (setW dσ i (.own d)) st := by
  refine ⟨⟨x.sm.rf, by rw [setW_eq, List.length_set, List.length_set]; exact x.sm.len, fun j e h => ?_, fun j e h => ?_, fun j k b e1 e2 g1 g2 m1 m2 => ?_⟩, x.t, fun b q => ?_, x.k, x.r⟩
  · rw [setW_eq] at h
    by_cases hj : i = j
    · subst hj
      have hl : i < dσ.length := by
        have := (List.getElem?_eq_some_iff.mp h).1
        rwa [List.length_set] at this
      rw [List.getElem?_set_self hl] at h
      cases h
    · rw [List.getElem?_set_ne hj] at h ⊢
      exact x.sm.val j e h
  · rw [setW_eq] at h
    by_cases hj : i = j
    · subst hj
      have hl : i < dσ.length := by
        have := (List.getElem?_eq_some_iff.mp h).1
        rwa [List.length_set] at this
      rw [List.getElem?_set_self hl] at h
      cases h
      exact ⟨a, by rw [List.getElem?_set_self (by rw [← x.sm.len]; exact hl)], ht, hr, .inr hf⟩
    · rw [List.getElem?_set_ne hj] at h ⊢
      exact x.sm.own j e h
  · by_cases hj : i = j
    · by_cases hk : i = k
      · rw [← hj, ← hk]
      · exfalso
        rw [setW_eq, List.getElem?_set_ne hk] at g2
        rw [List.getElem?_set_ne hk] at m2
        subst hj
        rw [List.getElem?_set] at m1
        rw [if_pos rfl] at m1
        split at m1
        · have : b = a := (V.ref.inj (Option.some.inj (Option.some.inj m1))).symm
          subst this
          exact ho ⟨k, e2, g2, m2⟩
        · cases m1
    · by_cases hk : i = k
      · exfalso
        rw [setW_eq, List.getElem?_set_ne hj] at g1
        rw [List.getElem?_set_ne hj] at m1
        subst hk
        rw [List.getElem?_set] at m2
        rw [if_pos rfl] at m2
        split at m2
        · have : b = a := (V.ref.inj (Option.some.inj (Option.some.inj m2))).symm
          subst this
          exact ho ⟨j, e1, g1, m1⟩
        · cases m2
      · rw [setW_eq, List.getElem?_set_ne hj] at g1
        rw [setW_eq, List.getElem?_set_ne hk] at g2
        rw [List.getElem?_set_ne hj] at m1
        rw [List.getElem?_set_ne hk] at m2
        exact x.sm.sep j k b e1 e2 g1 g2 m1 m2
  · rcases ow_set q with rfl | q
    · exact h0
    · exact x.ow b q
/-- an own list changes -/
theorem At.putSlot {i : Nat} {d' : D} (x : At P w K B H F ρ σ dσ st) (e : dσ[i]? = some (some (W.own d))) (h1 : σ[i]? = some (some (.ref a))) (ht : Top P w K F ρ (upd H a o) a d') : At P w K B (upd H a o) F ρ σ (setW dσ i (.own d')) st := by
  obtain ⟨b, k1, k2, k3, k4⟩ := x.sm.own i d e
  rw [h1] at k1; cases k1
  have hF : F a = none := k4.resolve_left fun q => q
  have h0 : B.H a = none := x.ow a ⟨i, d, e, h1⟩
  have hl : i < dσ.length := (List.getElem?_eq_some_iff.mp e).1
  have drop : ∀ {j e'}, i ≠ j → dσ[j]? = some (some (W.own e')) → ∀ b, σ[j]? = some (some (.ref b)) → b ≠ a := fun {j e'} hj q b m hb => hj (x.sm.sep i j a d e' e q h1 (by rw [m, hb]))
  refine ⟨⟨⟨fun c u q => ?_, x.sm.rf.rl, x.sm.rf.nd, fun n d q => ?_⟩, by rw [setW_eq, List.length_set]; exact x.sm.len, fun j e' q => ?_, fun j e' q => ?_, fun j k c e1 e2 g1 g2 m1 m2 => ?_⟩, x.t.upd h0, fun c q => ?_, x.k, x.r⟩
  · rw [upd_ne (ne_of_none q hF)]; exact x.sm.rf.fs c u q
  · obtain ⟨c, m1, m2, m3⟩ := x.sm.rf.at_ n d q
    have hc : c ≠ a := fun z => k3 (by rw [← z]; exact List.mem_of_getElem? m1)
    exact ⟨c, m1, m2, m3.mono (Fsub.refl F) (Pre.refl ρ) fun o q => by rw [upd_ne hc]; exact q⟩
  · rw [setW_eq] at q
    by_cases hj : i = j
    · subst hj
      rw [List.getElem?_set_self hl] at q
      cases q
    · rw [List.getElem?_set_ne hj] at q
      exact x.sm.val j e' q
  · rw [setW_eq] at q
    by_cases hj : i = j
    · subst hj
      rw [List.getElem?_set_self hl] at q
      cases q
      exact ⟨a, h1, ht, k3, .inr hF⟩
    · rw [List.getElem?_set_ne hj] at q
      obtain ⟨c, m1, m2, m3, m4⟩ := x.sm.own j e' q
      have hc := drop hj q c m1
      exact ⟨c, m1, m2.mono (Fsub.refl F) (Pre.refl ρ) fun o q => by rw [upd_ne hc]; exact q, m3, m4⟩
  · have conv : ∀ {j e'}, (setW dσ i (.own d'))[j]? = some (some (W.own e')) → ∃ e'', dσ[j]? = some (some (W.own e'')) := fun {j e'} q => by
      rw [setW_eq] at q
      by_cases hj : i = j
      · subst hj; exact ⟨d, e⟩
      · rw [List.getElem?_set_ne hj] at q; exact ⟨e', q⟩
    obtain ⟨_, z1⟩ := conv g1
    obtain ⟨_, z2⟩ := conv g2
    exact x.sm.sep j k c _ _ z1 z2 m1 m2
  · obtain ⟨j, e', g1, g2⟩ := q
    rw [setW_eq] at g1
    by_cases hj : i = j
    · subst hj
      exact x.ow c ⟨i, d, e, g2⟩
    · rw [List.getElem?_set_ne hj] at g1
      exact x.ow c ⟨j, e', g1, g2⟩
/-- a changing object changes -/
theorem At.putCell {n : Nat} {d' : D} (x : At P w K B H F ρ σ dσ st) (h1 : ρ[n]? = some a) (ht : Top P w K F ρ (upd H a o) a d') : At P w K B (upd H a o) F ρ σ dσ (st.set n d') := by
  have hm : a ∈ ρ := List.mem_of_getElem? h1
  have hF : F a = none := x.sm.rf.free hm
  obtain ⟨u0, hu0⟩ := x.sm.rf.some hm
  have h0 : ∀ c u, B.H c = some u → c ∉ B.ρ → c ≠ a := fun c u q n' z => by
    subst z
    rcases x.t.q c hm with z | z
    · exact n' z
    · rw [q] at z; cases z
  refine ⟨⟨⟨fun c u q => ?_, by rw [List.length_set]; exact x.sm.rf.rl, x.sm.rf.nd, fun m e q => ?_⟩, x.sm.len, x.sm.val, fun j e' q => ?_, x.sm.sep⟩, ⟨fun c u q n' => by rw [upd_ne (h0 c u q n')]; exact x.t.h c u q n', x.t.f, x.t.n, x.t.r, x.t.q, fun c q => ?_⟩, x.ow, x.k, x.r⟩
  · rw [upd_ne (ne_of_none q hF)]; exact x.sm.rf.fs c u q
  · by_cases hj : n = m
    · subst hj
      have hl : n < st.length := by rw [← x.sm.rf.rl]; exact (List.getElem?_eq_some_iff.mp h1).1
      rw [List.getElem?_set_self hl] at q
      cases q
      exact ⟨a, h1, hF, ht⟩
    · rw [List.getElem?_set_ne hj] at q
      obtain ⟨c, m1, m2, m3⟩ := x.sm.rf.at_ m e q
      have hc : c ≠ a := fun z => by
        subst z
        obtain ⟨l1, e1⟩ := List.getElem?_eq_some_iff.mp h1
        obtain ⟨l2, e2⟩ := List.getElem?_eq_some_iff.mp m1
        exact hj ((List.getElem_inj x.sm.rf.nd).mp (e1.trans e2.symm))
      exact ⟨c, m1, m2, m3.mono (Fsub.refl F) (Pre.refl ρ) fun o q => by rw [upd_ne hc]; exact q⟩
  · obtain ⟨c, m1, m2, m3, m4⟩ := x.sm.own j e' q
    have hc : c ≠ a := fun z => m3 (z ▸ hm)
    exact ⟨c, m1, m2.mono (Fsub.refl F) (Pre.refl ρ) fun o q => by rw [upd_ne hc]; exact q, m3, m4⟩
  · by_cases hc : c = a
    · subst hc; rw [upd_same]; simp
    · rw [upd_ne hc]; exact x.t.d c q
end

/-! ### a command's reading -/
def OutC (P : Program) (w : World) (K : PySem.W.Frag) (B : Bs) (D : Ends) : RC → Prop
  | .nx dσ st => ∀ σ H F ρ, At P w K B H F ρ σ dσ st → D.nx σ H
  | .brk dσ st => ∀ σ H F ρ, At P w K B H F ρ σ dσ st → D.bk σ H
  | .cnt dσ st => ∀ σ H F ρ, At P w K B H F ρ σ dσ st → D.ct σ H
  | .ret d st => ∀ v H F ρ, Rf P w K H F ρ st → Stp (fun _ => False) B.H B.F B.ρ H F ρ → Rep P w K F ρ v d → D.rt v H
  | .exc _ _ => False
  | .bad => False
def tC (X : Cx) (lf : Nat) (cf : CF) (c : C) : TS := fun D σ H => ∃ B F ρ dσ st, At X.prog X.w X.K B H F ρ σ dσ st ∧ OutC X.prog X.w X.K B D (evC lf cf c dσ st)
theorem PS.imp {X : Cx} {x : Stmt} {t t' : TS} (h : PS X x t) (hi : ∀ D σ H, t' D σ H → t D σ H) : PS X x t' := ⟨fun pins s σ H D I hq => h.run pins s σ H D I (hi _ _ _ hq)⟩
theorem PSs.imp {X : Cx} {x : List Stmt} {t t' : TS} (h : PSs X x t) (hi : ∀ D σ H, t' D σ H → t D σ H) : PSs X x t' := ⟨fun pins s σ H D I hq => h.run pins s σ H D I (hi _ _ _ hq)⟩
theorem thn_out {P : Program} {w : World} {K : PySem.W.Frag} {B : Bs} {D : Ends} {α : Type} {r : R α} {k : α → ST → RC} (h : OutC P w K B D (r.thn k)) : ∃ a s, r = .ok a s ∧ OutC P w K B D (k a s) := by
  cases r with
  | ok a s => exact ⟨a, s, rfl, h⟩
  | exc _ _ => exact h.elim
  | bad => exact h.elim
section
variable {X : Cx} {G : Cg} {sc : Scope} {lf : Nat} {cf : CF} {c a b : C} {st : Stmt} {sts : List Stmt}
theorem c_nil : PSs X [] (tC X lf cf .skip) := PSs.imp pss_nil fun D σ H h => by
  obtain ⟨B, F, ρ, dσ, st, x, q⟩ := h
  exact q σ H F ρ x
theorem c_cons (h1 : PS X st (tC X lf cf a)) (h2 : PSs X sts (tC X lf cf b)) : PSs X (st :: sts) (tC X lf cf (.seq a b)) := PSs.imp (pss_cons h1 h2) fun D σ H h => by
  obtain ⟨B, F, ρ, dσ, st, x, q⟩ := h
  refine ⟨B, F, ρ, dσ, st, x, ?_⟩
  rw [evC] at q
  cases e : evC lf cf a dσ st with
  | nx d' s' =>
    rw [e] at q
    exact fun σ' H' F' ρ' x' => ⟨B, F', ρ', d', s', x', q⟩
  | brk _ _ => rw [e] at q; exact q
  | cnt _ _ => rw [e] at q; exact q
  | ret _ _ => rw [e] at q; exact q
  | exc _ _ => rw [e] at q; exact q
  | bad => rw [e] at q; exact q
end
end PV
end
section
set_option Elab.async false
set_option linter.all false
set_option maxRecDepth 100000
set_option maxHeartbeats 2000000
/-! PvS8b: objects that a statement changes. -/
namespace PV
open PySem PySem.Spec PyProof.Rows L2
/-- what the object's value may be -/
def ObV (ρ : List Addr) (σ : L2.St) (o : E) (d : D) (v : V) : Prop := (∃ n a, d = .rf n ∧ ρ[n]? = some a ∧ v = .ref a) ∨ ∃ i, o = .var i ∧ σ[i]? = some (some v) ∧ isRf d = false
def tP (X : Cx) (cf : CF) (o : E) : TE := fun σ H Q => ∃ F ρ Z dσ st, Sm X.prog X.w X.K H F ρ Z σ dσ st ∧ Out (evE cf o dσ st) fun d st' => (isVar o = true ∨ isRf d = true) ∧
  ∀ v H' F' ρ', Sm X.prog X.w X.K H' F' ρ' (Zr Z (rdP o)) σ dσ st' → Stp (Ow σ dσ) H F ρ H' F' ρ' → ObV ρ' σ o d v → Q v H'
theorem ObV.mono {ρ ρ' : List Addr} {σ : L2.St} {o : E} {d : D} {v : V} (h : ObV ρ σ o d v) (r : Pre ρ ρ') : ObV ρ' σ o d v := h.imp (fun ⟨n, a, h1, h2, h3⟩ => ⟨n, a, h1, r _ _ h2, h3⟩) id
section
variable {X : Cx} {G : Cg} {sc : Scope} {cf : CF} {xx yy : Expr} {o v e : E}
theorem p_obj (K0 : XOk X G sc cf) (h : okE G o sc xx = true) : PE X xx (tP X cf o) := by
  have hO := ok_E (cf := cf) o K0 h
  cases hv : isVar o with
  | false =>
    refine PE.imp hO.p fun σ H Q q => ?_
    obtain ⟨F, ρ, Z, dσ, st, s, q⟩ := q
    refine ⟨F, ρ, Z, dσ, st, s, ?_⟩
    cases ev : evE cf o dσ st with
    | exc _ _ => rw [ev] at q; exact q
    | bad => rw [ev] at q; exact q
    | ok d s1 =>
      rw [ev] at q
      obtain ⟨g, q⟩ := q
      intro v H' F' ρ' sm t r
      have g : isRf d = true := g.resolve_left fun z => by rw [hv] at z; cases z
      cases d <;> first | (cases g; done) | skip
      obtain ⟨a, rfl, h2⟩ := Pk.rfv sm r
      exact q _ H' F' ρ' sm t (.inl ⟨_, a, rfl, h2, rfl⟩)
  | true =>
    cases o <;> first | (cases hv; done) | skip
    rename_i i
    unfold okE at h
    split at h <;> first | (cases h; done) | contradiction | skip
    rename_i q
    cases q
    simp only [Bool.and_eq_true] at h
    obtain ⟨⟨h1, h2⟩, h3⟩ := h
    obtain ⟨n1, n2, _⟩ := nm_ok h3
    refine PE.imp (pe_var (by rw [K0.N]; exact nameB_eq h1) (by rw [K0.sc]; exact visB_eq h2) n1 n2) fun σ H Q q => ?_
    obtain ⟨F, ρ, Z, dσ, st, s, q⟩ := q
    rw [evE] at q
    obtain ⟨d, hd, g, q⟩ := q.of
    rcases getW_eq hd with e | e
    · obtain ⟨v, k1, k2⟩ := s.val i d e
      refine ⟨v, k1, q v H F ρ (s.wkZ fun _ => .inl) Stp.refl ?_⟩
      cases hr : isRf d with
      | false => exact .inr ⟨i, rfl, k1, hr⟩
      | true =>
        cases d <;> first | (cases hr; done) | skip
        cases k2 with
        | rf k => exact .inl ⟨_, _, rfl, k, rfl⟩
    · obtain ⟨a, k1, k2, _⟩ := s.own i d e
      refine ⟨_, k1, q _ H F ρ (s.wkZ fun _ => .inl) Stp.refl (.inr ⟨i, rfl, k1, ?_⟩)⟩
      cases d <;> first | rfl | exact k2.elim
end
theorem place_ref {o : E} {n : Nat} {σ : Sg} {st : ST} {p : Pl} (h : place o (.rf n) σ st = some p) : ∃ d, st[n]? = some d ∧ p = .cell n d := by
  unfold place at h
  obtain ⟨d, h1, h2⟩ := Option.map_eq_some_iff.mp h
  exact ⟨d, h1, h2.symm⟩
theorem place_var {o : E} {d : D} {σ : Sg} {st : ST} {p : Pl} (hr : isRf d = false) (h : place o d σ st = some p) : ∃ i e, o = .var i ∧ σ[i]? = some (some (W.own e)) ∧ p = .slot i e := by
  cases d <;> first | (cases hr; done) | skip
  all_goals
    unfold place at h
    simp only at h
    split at h
    · rename_i i
      split at h
      · rename_i e he
        cases h
        exact ⟨i, e, rfl, he, rfl⟩
      · cases h
    · cases h
theorem place_guard {o : E} {d : D} {σ : Sg} {st : ST} {p : Pl} (h : place o d σ st = some p) : isVar o = true ∨ isRf d = true := by
  cases hr : isRf d with
  | true => exact .inr rfl
  | false =>
    obtain ⟨i, e, rfl, _⟩ := place_var hr h
    exact .inl rfl
section
variable {P : Program} {w : World} {K : PySem.W.Frag} {B : Bs} {H F : Hp} {ρ : List Addr} {Z : Nat → Prop} {σ : L2.St} {dσ : Sg} {st : ST} {o : E} {d : D} {v : V} {p : Pl}
theorem place_top (s : Sm P w K H F ρ Z σ dσ st) (h : place o d dσ st = some p) (hv : ObV ρ σ o d v) : ∃ a, v = .ref a ∧ Top P w K F ρ H a p.d := by
  rcases hv with ⟨n, a, rfl, h1, rfl⟩ | ⟨i, rfl, h1, hr⟩
  · obtain ⟨e, g1, rfl⟩ := place_ref h
    obtain ⟨b, g2, _, g3⟩ := s.rf.at_ n e g1
    rw [h1] at g2; cases g2
    exact ⟨a, rfl, g3⟩
  · obtain ⟨j, e, g1, g2, rfl⟩ := place_var hr h
    cases g1
    obtain ⟨a, k1, k2, _⟩ := s.own i e g2
    rw [h1] at k1; cases k1
    exact ⟨a, rfl, k2⟩
theorem place_ok (x : At P w K B H F ρ σ dσ st) (h : place o d dσ st = some p) (hv : ObV ρ σ o d v) : ∃ a, v = .ref a ∧ Top P w K F ρ H a p.d ∧
    ∀ (u : HO) (d' : D), Top P w K F ρ (upd H a u) a d' → At P w K B (upd H a u) F ρ σ (putAt p d' dσ st).1 (putAt p d' dσ st).2 := by
  rcases hv with ⟨n, a, rfl, h1, rfl⟩ | ⟨i, rfl, h1, hr⟩
  · obtain ⟨e, g1, rfl⟩ := place_ref h
    obtain ⟨b, g2, _, g3⟩ := x.sm.rf.at_ n e g1
    rw [h1] at g2; cases g2
    exact ⟨a, rfl, g3, fun u d' t => x.putCell h1 t⟩
  · obtain ⟨j, e, g1, g2, rfl⟩ := place_var hr h
    cases g1
    obtain ⟨a, k1, k2, _⟩ := x.sm.own i e g2
    rw [h1] at k1; cases k1
    exact ⟨a, rfl, k2, fun u d' t => x.putSlot g2 h1 t⟩
end
def rGet0 : V → V → Hp → VK → Prop := fun o i H Q => ∃ p xs k x, o = .ref p ∧ i = .int k ∧ H p = some (.lst xs) ∧ 0 ≤ k ∧ xs[k.toNat]? = some x ∧ Q x H
theorem get_list {X : Cx} : PGet X rGet0 := by
  intro pins s σ H o i ov iv Q I ro ri h
  obtain ⟨p, xs, k, x, rfl, rfl, hp, h0, hx, q⟩ := h
  cases ro
  obtain ⟨t, rfl⟩ := ri
  obtain ⟨its, r, pl, hz⟩ := I.list (SqL.of hp)
  obtain ⟨w, ew, rw'⟩ := r.get hx
  have hl := (List.getElem?_eq_some_iff.mp hx).1
  have hn := line63
  exact wpAny_getItem_list pl.isList h0 (by omega) (by simpa using ew) ⟨x, H, I, rw', q⟩
/-- an expression that is no comprehension -/
def ncB : Expr → Bool
  | .ListComp _ _ _ _ => false
  | .SetComp _ _ _ _ => false
  | .DictComp _ _ _ _ _ => false
  | _ => true
theorem sw_nc {e : Expr} (h : ncB e = true) (t : Option Expr) (l : Nat) (env : Env) : swapsWith e t l env = pure false := by
  cases e <;> first | rfl | cases h
theorem sw_sub {e x y : Expr} {p : Pos} (l : Nat) (env : Env) : swapsWith e (some (.Subscript x y p)) l env = pure false := by
  cases e <;> rfl
theorem asub_ok {x y : Expr} {p : Pos} {env : Env} (h : plainIxB y = true) : ∀ v, assign (.Subscript x y p) env v = (do
      let ov ← holding [v] (eval x env)
      let iv ← holding [v, ov] (eval y env)
      standAt p
      holding [v, ov, iv] (setItem ov iv v)
      release [v, ov, iv] []) := by
  cases y <;> first | exact fun _ => rfl | cases h
theorem stoD_eq : ∀ {a k v d' : D}, stoD a k v = some d' → ∃ ds ii, a = .lst ds ∧ k = .int ii ∧ 0 ≤ ii ∧ ii < (ds.length : Int) ∧ d' = .lst (ds.set ii.toNat v)
  | a, k, v, d', h => by
    cases a <;> first | (cases h; done) | skip
    rename_i ds
    cases k <;> first | (cases h; done) | skip
    rename_i ii
    rw [stoD] at h
    split at h
    · rename_i h0
      split at h
      · rename_i h1
        cases h
        exact ⟨ds, ii, rfl, rfl, h0, h1, rfl⟩
      · cases h
    · cases h
theorem zr3 {Z : Nat → Prop} {a b c : List Nat} : ∀ i, Zr (Zr (Zr Z a) b) c i → Zr Z (a ++ (b ++ c)) i := fun i w => by
  rcases w with ((w | w) | w) | w
  · exact .inl w
  · exact .inr (List.mem_append_left _ w)
  · exact .inr (List.mem_append_right _ (List.mem_append_left _ w))
  · exact .inr (List.mem_append_right _ (List.mem_append_right _ w))
/-- an object whose method is asked for plainly -/
def obB : Expr → Bool
  | .Name _ _ => true
  | .Subscript _ _ _ => true
  | _ => false
theorem ab_ok {e : Expr} (h : obB e = true) (a : Str) (env : Env) (w : Sem Value) : attributeBase e a env w = w := by
  cases e <;> first | rfl | cases h
section
variable {X : Cx} {G : Cg} {sc : Scope} {lf : Nat} {cf : CF} {xx yy zz : Expr} {o v i e : E} {pos ap cp p : Pos} {z : List Nat} {op : Op}
theorem c_app (K0 : XOk X G sc cf) (ho : okE G o sc xx = true) (hv : okE G v sc yy = true) (hns : nsB yy = true) (hb : obB xx = true) (hl : (ap.endLine == cp.line) = true) (hz : subL (rdP o ++ rdE v) z = true) :
    PS X (.Expr (.Call (.Attribute xx "append" ap) [yy] [] cp) pos) (tC X lf cf (.app o v z)) := by
  have pe := pe_bm (X := X) (cpos := cp) PySem.F.plainAttrs_list PySem.F.slot_list_append PySem.F.type_list_append mt_append (p_obj K0 ho) (pa_cons (ok_E v K0 hv).v pa_nil (star_ok hns _ _)) (ab_ok hb _ _ _)
    (by rw [star_ok hns]; rfl) hl (star_ok hns _ _) rfl
  refine PS.imp (ps_expr pe rfl) fun D σ H h => ?_
  obtain ⟨B, F, ρ, dσ, st, x, q⟩ := h
  rw [evC] at q
  obtain ⟨d1, s1, e1, q⟩ := thn_out q
  split at q
  · exact q.elim
  rename_i hls
  obtain ⟨dv, s2, e2, q⟩ := thn_out q
  have hls : lsP (place o d1 dσ s1) = true := by
    cases h : lsP (place o d1 dσ s1) with
    | true => rfl
    | false => exact absurd h hls
  obtain ⟨p0, hp0⟩ : ∃ p0, place o d1 dσ s1 = some p0 := by
    cases h : place o d1 dσ s1 with
    | none => rw [h] at hls; cases hls
    | some p0 => exact ⟨p0, rfl⟩
  refine ⟨F, ρ, NoZ, dσ, st, x.sm, ?_⟩
  rw [e1]
  refine ⟨place_guard hp0, fun v1 H1 F1 ρ1 sm1 t1 ov => ⟨?_, ?_⟩⟩
  · obtain ⟨a, rfl, ht⟩ := place_top sm1 hp0 ov
    refine .inl ⟨rfl, ?_⟩
    rw [hp0] at hls
    cases p0 with
    | slot j d =>
      cases d <;> first | (cases hls; done) | skip
      obtain ⟨us, hu, _⟩ := ht
      exact ⟨us, SqL.of hu⟩
    | cell j d =>
      cases d <;> first | (cases hls; done) | skip
      obtain ⟨us, hu, _⟩ := ht
      exact ⟨us, SqL.of hu⟩
  · refine run1 sm1 e2 fun u H2 F2 ρ2 sm2 t2 r2 => ?_
    obtain ⟨F3, x3, t3, _⟩ := x.after (sm2.wkZ Zr.app) (t1.trans t2) hz
    split at q
    · rename_i p hp
      split at q
      · rename_i ds hd
        split at q
        · rename_i hc
          rw [Bool.and_eq_true] at hc
          obtain ⟨a, rfl, ht, put⟩ := place_ok x3 hp (ov.mono t2.r)
          rw [hd] at ht
          obtain ⟨us, hu, ru⟩ := ht
          refine ⟨a, us, u, rfl, rfl, hu, by rw [ru.length]; exact small_lt hc.1, ?_⟩
          exact q σ _ F3 ρ2 (put _ (.lst (ds ++ [dv])) ⟨us ++ [u], upd_same, ru.append (.cons (Rep.mono t3.f t3.r r2) .nil)⟩)
        · exact q.elim
      · exact q.elim
    · exact q.elim
theorem c_ext (K0 : XOk X G sc cf) (ho : okE G o sc xx = true) (hv : okE G v sc yy = true) (hns : nsB yy = true) (hb : obB xx = true) (hl : (ap.endLine == cp.line) = true) (hz : subL (rdP o ++ rdE v) z = true) :
    PS X (.Expr (.Call (.Attribute xx "extend" ap) [yy] [] cp) pos) (tC X lf cf (.ext o v z)) := by
  have pe := pe_bm (X := X) (cpos := cp) PySem.F.plainAttrs_list PySem.F.slot_list_extend PySem.F.type_list_extend mt_extend (p_obj K0 ho) (pa_cons (ok_E v K0 hv).v pa_nil (star_ok hns _ _)) (ab_ok hb _ _ _)
    (by rw [star_ok hns]; rfl) hl (star_ok hns _ _) rfl
  refine PS.imp (ps_expr pe rfl) fun D σ H h => ?_
  obtain ⟨B, F, ρ, dσ, st, x, q⟩ := h
  rw [evC] at q
  obtain ⟨d1, s1, e1, q⟩ := thn_out q
  split at q
  · exact q.elim
  rename_i hls
  obtain ⟨dv, s2, e2, q⟩ := thn_out q
  have hls : lsP (place o d1 dσ s1) = true := by
    cases h : lsP (place o d1 dσ s1) with
    | true => rfl
    | false => exact absurd h hls
  obtain ⟨p0, hp0⟩ : ∃ p0, place o d1 dσ s1 = some p0 := by
    cases h : place o d1 dσ s1 with
    | none => rw [h] at hls; cases hls
    | some p0 => exact ⟨p0, rfl⟩
  refine ⟨F, ρ, NoZ, dσ, st, x.sm, ?_⟩
  rw [e1]
  refine ⟨place_guard hp0, fun v1 H1 F1 ρ1 sm1 t1 ov => ⟨?_, ?_⟩⟩
  · obtain ⟨a, rfl, ht⟩ := place_top sm1 hp0 ov
    refine .inl ⟨rfl, ?_⟩
    rw [hp0] at hls
    cases p0 with
    | slot j d =>
      cases d <;> first | (cases hls; done) | skip
      obtain ⟨us, hu, _⟩ := ht
      exact ⟨us, SqL.of hu⟩
    | cell j d =>
      cases d <;> first | (cases hls; done) | skip
      obtain ⟨us, hu, _⟩ := ht
      exact ⟨us, SqL.of hu⟩
  · refine run1 sm1 e2 fun u H2 F2 ρ2 sm2 t2 r2 => ?_
    obtain ⟨F3, x3, t3, _⟩ := x.after (sm2.wkZ Zr.app) (t1.trans t2) hz
    split at q
    · rename_i p vs hp
      split at q
      · rename_i ds hd
        split at q
        · rename_i hc
          obtain ⟨a, rfl, ht, put⟩ := place_ok x3 hp (ov.mono t2.r)
          rw [hd] at ht
          obtain ⟨us, hu, ru⟩ := ht
          obtain ⟨b, zs, rfl, hb, rz⟩ := Rep.lst_ (Rep.mono t3.f t3.r r2)
          refine ⟨a, b, us, zs, rfl, rfl, hu, x3.sm.rf.fs _ _ hb, by rw [ru.length, rz.length, ← List.length_append]; exact small_le hc, ?_⟩
          exact q σ _ F3 ρ2 (put _ (.lst (ds ++ vs)) ⟨us ++ zs, upd_same, ru.append rz⟩)
        · exact q.elim
      · exact q.elim
    · exact q.elim
theorem c_sidx (K0 : XOk X G sc cf) (ho : okE G o sc xx = true) (hi : okE G i sc yy = true) (hv : okE G v sc zz = true) (hx : plainIxB yy = true) (hz : subL (rdE v ++ (rdP o ++ rdE i)) z = true) :
    PS X (.Assign [.Subscript xx yy p] zz pos) (tC X lf cf (.sidx o i v z)) := by
  refine PS.imp (ps_asg (ok_E v K0 hv).v (pg_sub (p_obj K0 ho) (ok_E i K0 hi).v set_list (asub_ok hx)) (show swapsWith zz (some (.Subscript xx yy p)) pos.line X.env = pure false from sw_sub _ _) rfl rfl) fun D σ H h => ?_
  obtain ⟨B, F, ρ, dσ, st, x, q⟩ := h
  rw [evC] at q
  obtain ⟨dv, s1, e1, q⟩ := thn_out q
  obtain ⟨d1, s2, e2, q⟩ := thn_out q
  obtain ⟨k, s3, e3, q⟩ := thn_out q
  refine run1 x.sm e1 fun u H1 F1 ρ1 sm1 t1 r1 => ?_
  split at q
  · rename_i p hp
    refine ⟨F1, ρ1, _, dσ, s1, sm1, ?_⟩
    rw [e2]
    refine ⟨place_guard hp, fun v1 H2 F2 ρ2 sm2 t2 ov => ?_⟩
    refine run1 sm2 e3 fun ki H3 F3 ρ3 sm3 t3 r3 => ?_
    obtain ⟨F4, x4, t4, _⟩ := x.after (l := rdE v ++ (rdP o ++ rdE i)) (sm3.wkZ zr3) ((t1.trans t2).trans t3) hz
    split at q
    · rename_i d' hd'
      split at q
      · exact q.elim
      · obtain ⟨a, rfl, ht, put⟩ := place_ok x4 hp (ov.mono t3.r)
        have r1' : Rep X.prog X.w X.K F4 ρ3 u dv := Rep.mono ((t2.f.trans t3.f).trans t4.f) ((t2.r.trans t3.r).trans t4.r) r1
        obtain ⟨ds, ii, hpd, rfl, h0, h1, rfl⟩ := stoD_eq hd'
        rw [hpd] at ht
        obtain ⟨us, hu, ru⟩ := ht
        cases r3
        refine ⟨a, us, ii, ii.toNat, rfl, rfl, hu, ?_, ?_⟩
        · unfold ixN
          rw [if_pos h0, ru.length, if_pos h1]
        · exact q σ _ F4 ρ3 (put _ (.lst (ds.set ii.toNat dv)) ⟨us.set ii.toNat u, upd_same, ru.set _ r1'⟩)
    · exact q.elim
  · exact q.elim
end
end PV
end
section
set_option Elab.async false
set_option linter.all false
set_option maxRecDepth 100000
set_option maxHeartbeats 2000000
/-! PvS8c: statements. -/
namespace PV
open PySem PySem.Spec PyProof.Rows L2
structure SOk (X : Cx) (G : Cg) (sc : Scope) (cf : CF) : Prop where
  x : XOk X G sc cf
  fn : ∀ y, X.fn y = true
  hp : PassesOwn (model X.prog X.w) X.A X.env X.xe
  kind : sc.kind = .function
def mE (e : E) : Md := if frsh e then .own else .val
theorem mE_ok (e : E) : mE e = .own → frsh e = true := fun h => by
  unfold mE at h
  split at h
  · assumption
  · cases h
theorem rd_mE (e : E) : rd (mE e) e = rdE e := by
  unfold mE
  split <;> rfl
section
variable {X : Cx} {G : Cg} {sc : Scope} {lf : Nat} {cf : CF} {xx yy zz : Expr} {o v i e c it : E} {a b : C} {pos ap cp p : Pos} {z : List Nat} {op : Op} {sts stt : List Stmt} {t : Tg} {tg : Expr}
theorem SOk.N (S : SOk X G sc cf) : X.N.Nodup := by rw [S.x.N]; exact S.x.nd
theorem SOk.loc (S : SOk X G sc cf) {y : Str} (h : locB sc y = true) : LocF X y := ⟨by rw [S.x.sc]; exact locB_eq h, .inl (S.fn y)⟩
theorem c_ret (S : SOk X G sc cf) (he : okE G e sc xx = true) : PS X (.Return (some xx) pos) (tC X lf cf (.ret e)) := by
  refine PS.imp (ps_ret (ok_E e S.x he).v) fun D σ H h => ?_
  obtain ⟨B, F, ρ, dσ, st, x, q⟩ := h
  rw [evC] at q
  obtain ⟨d, s1, e1, q⟩ := thn_out q
  exact run1 x.sm e1 fun v H1 F1 ρ1 sm t r => q v H1 F1 ρ1 sm.rf (x.t.ent t x.ow) r
theorem c_retN : PS X (.Return none pos) (tC X lf cf (.ret (.cst .non))) := by
  refine PS.imp ps_retN fun D σ H h => ?_
  obtain ⟨B, F, ρ, dσ, st, x, q⟩ := h
  rw [evC] at q
  obtain ⟨d, s1, e1, q⟩ := thn_out q
  rw [evE] at e1
  cases e1
  exact q .non H F ρ x.sm.rf x.t .non
theorem c_exs (S : SOk X G sc cf) (he : okE G e sc xx = true) (hn : ncB xx = true) (hz : subL (rdE e) z = true) : PS X (.Expr xx pos) (tC X lf cf (.exs e z)) := by
  refine PS.imp (ps_expr (ok_E e S.x he).v (sw_nc hn _ _ _)) fun D σ H h => ?_
  obtain ⟨B, F, ρ, dσ, st, x, q⟩ := h
  rw [evC] at q
  obtain ⟨d, s1, e1, q⟩ := thn_out q
  refine run1 x.sm e1 fun v H1 F1 ρ1 sm t r => ?_
  obtain ⟨F2, x2, _, _⟩ := x.after sm t hz
  exact q σ H1 F2 ρ1 x2
theorem c_if (S : SOk X G sc cf) (hc : okE G c sc xx = true) (hn : ntB xx = true) (hz : subL (rdE c) z = true) (ha : PSs X sts (tC X lf cf a)) (hb : PSs X stt (tC X lf cf b)) : PS X (.If xx sts stt pos) (tC X lf cf (.ite c z a b)) := by
  refine PS.imp (ps_if ((ok_E c S.x hc).2 hn) ha hb) fun D σ H h => ?_
  obtain ⟨B, F, ρ, dσ, st, x, q⟩ := h
  rw [evC] at q
  obtain ⟨d, s1, e1, q⟩ := thn_out q
  refine ⟨F, ρ, NoZ, dσ, st, x.sm, ?_⟩
  rw [e1]
  split at q
  · refine ⟨true, rfl, fun H1 F1 ρ1 sm t => ?_⟩
    refine iteT ?_
    obtain ⟨F2, x2, _, _⟩ := x.after sm t hz
    exact ⟨B, F2, ρ1, _, _, x2, q⟩
  · refine ⟨false, rfl, fun H1 F1 ρ1 sm t => ?_⟩
    refine iteF ?_
    obtain ⟨F2, x2, _, _⟩ := x.after sm t hz
    exact ⟨B, F2, ρ1, _, _, x2, q⟩
  · exact q.elim
theorem c_brk : PS X (.Break pos) (tC X lf cf .brk) := PS.imp ps_break fun D σ H h => by
  obtain ⟨B, F, ρ, dσ, st, x, q⟩ := h
  exact q σ H F ρ x
theorem c_cnt : PS X (.Continue pos) (tC X lf cf .cnt) := PS.imp ps_continue fun D σ H h => by
  obtain ⟨B, F, ρ, dσ, st, x, q⟩ := h
  exact q σ H F ρ x
theorem c_pass : PS X (.Pass pos) (tC X lf cf .skip) := PS.imp ps_pass fun D σ H h => by
  obtain ⟨B, F, ρ, dσ, st, x, q⟩ := h
  exact q σ H F ρ x
theorem c_doc {s : Str} {k : Nat} : PS X (.Expr (.Constant (.str s) k p) pos) (tC X lf cf .skip) := PS.imp ps_doc fun D σ H h => by
  obtain ⟨B, F, ρ, dσ, st, x, q⟩ := h
  exact q σ H F ρ x
theorem c_rse {n : Nat} {s : Stmt} : PS X s (tC X lf cf (.rse n)) := PS.imp ps_never fun D σ H h => by
  obtain ⟨B, F, ρ, dσ, st, x, q⟩ := h
  exact q
theorem c_while (S : SOk X G sc cf) (hc : okE G c sc xx = true) (hn : ntB xx = true) (hz : subL (rdE c) z = true) (hb : PSs X sts (tC X lf cf b)) : PS X (.While xx sts [] pos) (tC X lf cf (.whl c z b)) := by
  refine PS.imp (ps_while S.hp ((ok_E c S.x hc).2 hn) hb) fun D σ H h => ?_
  obtain ⟨B, F, ρ, dσ, st, x, q⟩ := h
  rw [evC] at q
  refine ⟨fun m σ H => ∃ F ρ dσ st, At X.prog X.w X.K B H F ρ σ dσ st ∧ OutC X.prog X.w X.K B D (whileL (fun σ' s => evE cf c σ' s) (fun σ' => frz σ' z) (fun σ' s => evC lf cf b σ' s) m dσ st), ⟨lf, F, ρ, dσ, st, x, q⟩, ?_⟩
  clear q x
  rintro m σ H ⟨F, ρ, dσ, st, x, q⟩
  cases m with
  | zero => exact q.elim
  | succ m =>
    rw [whileL] at q
    obtain ⟨d, s1, e1, q⟩ := thn_out q
    refine ⟨F, ρ, NoZ, dσ, st, x.sm, ?_⟩
    rw [e1]
    split at q
    · refine ⟨true, rfl, fun H1 F1 ρ1 sm t => ?_⟩
      refine iteT ?_
      obtain ⟨F2, x2, _, _⟩ := x.after sm t hz
      refine ⟨_, fun σ' H' n => ⟨m, Nat.lt_succ_self m, n⟩, B, F2, ρ1, _, _, x2, ?_⟩
      cases e2 : evC lf cf b (frz dσ z) s1 with
      | nx d' s' =>
        rw [e2] at q
        exact fun σ' H' F' ρ' x' => ⟨F', ρ', d', s', x', q⟩
      | cnt d' s' =>
        rw [e2] at q
        exact fun σ' H' F' ρ' x' => ⟨F', ρ', d', s', x', q⟩
      | brk d' s' => rw [e2] at q; exact q
      | ret _ _ => rw [e2] at q; exact q
      | exc _ _ => rw [e2] at q; exact q
      | bad => rw [e2] at q; exact q
    · refine ⟨false, rfl, fun H1 F1 ρ1 sm t => ?_⟩
      refine iteF ?_
      obtain ⟨F2, x2, _, _⟩ := x.after sm t hz
      exact q σ H1 F2 ρ1 x2
    · exact q.elim
theorem At.bind {P : Program} {w : World} {K : PySem.W.Frag} {B : Bs} {H F : Hp} {ρ : List Addr} {σ : L2.St} {dσ dσ' : Sg} {st : ST} {d : D} {v : V} {t : Tg} (x : At P w K B H F ρ σ dσ st) (e : bindT t d dσ = some dσ') (r : Rep P w K F ρ v d) :
    ∃ σ', (∀ Q : L2.St → Hp → Prop, Q σ' H → gT K t v σ H Q) ∧ At P w K B H F ρ σ' dσ' st := by
  obtain ⟨σ', h1, h2, h3, _⟩ := x.sm.bind e r
  exact ⟨σ', h1, h2, x.t, fun a q => x.ow a (h3.ow q), x.k, x.r⟩
def tgL : Tg → List Nat
  | .one i => [i]
  | .many is => is
theorem c_for (S : SOk X G sc cf) (hi : okI G it sc xx = true) (hs : setB xx = false) (ht : tgC G.N sc (tgL t) t tg = true) (hm : (!isPair it || isMany t) = true) (hz : subL (rdE it) z = true) (hb : PSs X sts (tC X lf cf b)) :
    PS X (.For tg xx sts [] pos) (tC X lf cf (.for_ t it z b)) := by
  have pi : PI X tg xx (tI X cf it) := ok_I it S.x hi fun w => by
    rw [w] at hm
    cases t with
    | one i => cases hm
    | many is => exact PV.tg_tup ht
  have pg : PG X tg (gT X.K t) := pg_T (scope := sc) (own := tgL t) S.N S.x.calm (fun y h => S.loc h) (by rw [S.x.N]; exact ht)
  refine PS.imp (ps_for S.hp S.x.calm pi pg hb (folded_ok hs _)) fun D σ H h => ?_
  obtain ⟨B, F, ρ, dσ, st, x, q⟩ := h
  rw [evC] at q
  obtain ⟨d, s1, e1, q⟩ := thn_out q
  split at q
  · rename_i ds
    refine ⟨F, ρ, NoZ, dσ, st, x.sm, ?_⟩
    rw [e1]
    refine ⟨ds, rfl, fun J H1 F1 ρ1 sm1 t1 hW => ?_⟩
    obtain ⟨F2, x2, t2, _⟩ := x.after sm1 t1 hz
    -- what is kept: the iterator's list
    let B2 : Bs := ⟨B.H, B.F, B.ρ, F1, ρ1⟩
    refine ⟨fun i m σ H => m = ds.length - i ∧ i ≤ ds.length ∧ ∃ F ρ dσ st, At X.prog X.w X.K B2 H F ρ σ dσ st ∧ OutC X.prog X.w X.K B D (forL t (fun σ' s => evC lf cf b σ' s) (ds.drop i) dσ st), ⟨_, rfl, Nat.zero_le _, F2, ρ1, _, _, ⟨x2.sm, x2.t, x2.ow, t2.f, Pre.refl _⟩, by rw [List.drop_zero]; exact q⟩, ?_⟩
    have back : ∀ {H F ρ σ dσ st}, At X.prog X.w X.K B2 H F ρ σ dσ st → At X.prog X.w X.K B H F ρ σ dσ st := fun {H F ρ σ dσ st} y => ⟨y.sm, y.t, y.ow, ((x.k.trans t1.f)).trans y.k, (x.r.trans t1.r).trans y.r⟩
    clear q
    rintro i m σ3 H3 ⟨rfl, hi', F3, ρ3, dσ3, s3, x3, q3⟩
    have fs3 := x3.k.trans x3.sm.rf.fs
    by_cases hlt : i < ds.length
    · have hd : ds[i]? = some ds[i] := List.getElem?_eq_getElem hlt
      rw [List.drop_eq_getElem_cons hlt, forL] at q3
      refine .inr ⟨((hW i H3 fs3).2 _ hd).1, _, fun σ' H' n => ⟨ds.length - (i + 1), by omega, rfl, hlt, n⟩, fun xv H4 y => ?_⟩
      obtain ⟨F4, sm4, t4, r4⟩ := hW.turn (own := fun _ => False) x3.k x3.r x3.sm hd y
      have x4 : At X.prog X.w X.K B2 H4 F4 ρ3 σ3 dσ3 s3 := ⟨sm4, x3.t.trans t4, x3.ow, x3.k.trans t4.f, x3.r⟩
      split at q3
      · exact q3.elim
      · rename_i dσ5 hbd
        obtain ⟨σ5, gq, x5⟩ := x4.bind hbd r4
        refine gq _ ⟨B2, F4, ρ3, _, _, x5, ?_⟩
        cases e2 : evC lf cf b dσ5 s3 with
        | nx d' s' =>
          rw [e2] at q3
          exact fun σ' H' F' ρ' x' => ⟨F', ρ', d', s', x', q3⟩
        | cnt d' s' =>
          rw [e2] at q3
          exact fun σ' H' F' ρ' x' => ⟨F', ρ', d', s', x', q3⟩
        | brk d' s' =>
          rw [e2] at q3
          exact fun σ' H' F' ρ' x' => q3 σ' H' F' ρ' (back x')
        | ret _ _ => rw [e2] at q3; exact q3
        | exc _ _ => rw [e2] at q3; exact q3
        | bad => rw [e2] at q3; exact q3
    · have e0 : i = ds.length := by omega
      subst e0
      refine .inl ⟨(hW _ H3 fs3).1 (List.getElem?_eq_none (Nat.le_refl _)), ?_⟩
      rw [List.drop_length, forL] at q3
      exact q3 σ3 H3 F3 ρ3 (back x3)
  · exact q.elim

def ifsOk (G : Cg) (sc scope : Scope) (c : E) (ifs : List Expr) : Bool := match ifs with
      | [] => (match c with
        | .cst (.bl true) => true
        | _ => false)
      | [x] => okE G c (relS scope sc) x && ntB x
      | _ => false
theorem comp_ifs {ifs : List Expr} {scope : Scope} {c : E} (K0 : XOk X G sc cf) (h8 : ifsOk G sc scope c ifs = true) : ∀ (s : Shared) (H : Hp) (C : Addr) (cl : List (Str × Addr)) (fp : List Addr), PTs (X.blk s H scope (compEnvC scope cl C X.env) fp) ifs (tT X cf c) := fun s H C cl fp => by
  unfold ifsOk at h8
  split at h8
  · split at h8
    · refine ⟨fun pins s' σ H' Q I q => pts_nil.run pins s' σ H' Q I ?_⟩
      obtain ⟨F, ρ, Z, dσ, st, s0, q⟩ := q
      rw [evE] at q
      obtain ⟨b, hb, q⟩ := q
      cases hb
      exact q _ F ρ (s0.wkZ fun _ => .inl) Stp.refl
    · cases h8
  · rw [Bool.and_eq_true] at h8
    exact pts_one ((ok_E c (xok_blk K0 s H C cl fp) h8.1).2 h8.2)
  · cases h8
/-! ### name = e -/
def lcB (sc : Scope) (y : Str) (p : Pos) : Expr → Bool
  | .ListComp _ _ scope cp => (match sc.names.lookup y with
    | some .local => true
    | _ => false) && (p.line == cp.line) && !(scope.names.any fun (n, k) => n == y && (k == .local || k == .cell))
  | _ => false
def asgB : E → Expr → Bool
  | .nrf _, .ListComp _ _ _ _ => false
  | _, .SetComp _ _ _ _ => false
  | _, .DictComp _ _ _ _ _ => false
  | _, _ => true
theorem okE_comp {own : List Nat} {x : Expr} (h : okE G (.comp e t it c own) sc x = true) : ∃ elt tg iter ifs scope cp, x = .ListComp elt [⟨tg, iter, ifs, 0⟩] scope cp ∧ okI G it sc iter = true ∧ setB iter = false ∧
    blkC G.N sc scope (ownP G.N own) = true ∧ tgC G.N scope own t tg = true ∧ (isPair it = false ∨ isMany t = true) ∧ okE G e (relS scope sc) elt = true ∧ ifsOk G sc scope c ifs = true := by
  unfold okE at h
  split at h <;> first | (cases h; done) | contradiction | skip
  rename_i q
  cases q
  simp only [Bool.and_eq_true, Bool.not_eq_true', decide_eq_true_eq, Bool.or_eq_true] at h
  obtain ⟨⟨⟨⟨⟨⟨⟨g1, g2⟩, g3⟩, g4⟩, g5⟩, g6⟩, g7⟩, g8⟩ := h
  subst g3
  exact ⟨_, _, _, _, _, _, rfl, g1, g2, g4, g5, g6, g7, g8⟩
theorem asg_ok (S : SOk X G sc cf) {k : Nat} {y : Str} (he : okE G e sc xx = true) (hy : nameB G.N k y = true) (hl : locB sc y = true) (ha : asgB e xx = true) : PS X (.Assign [.Name y p] xx pos) (tAsg (tX X cf (mE e) e) (gName k)) := by
  have hk : X.env.scope.kind = .function := by rw [S.x.sc]; exact S.kind
  have hN : X.N[k]? = some y := by rw [S.x.N]; exact nameB_eq hy
  have hpe : PE X xx (tX X cf (mE e) e) := (ok_E e S.x he).1 _ (mE_ok e)
  cases hlc : lcB sc y p xx with
  | false =>
    refine ps_set S.N hN (S.loc hl).1 hpe ?_ (S.loc hl).2
    cases xx with
    | ListComp elt gs scope cp =>
      unfold swapsWith
      have e0 : (X.env.blockKind == .function && X.env.kindOf y == some .local && p.line == cp.line && !(scope.names.any fun (n, k) => n == y && (k == .local || k == .cell))) = false := by
        have hkd : X.env.kindOf y = sc.names.lookup y := by unfold Env.kindOf; rw [S.x.sc]
        rw [hkd]
        unfold lcB at hlc
        cases hh : sc.names.lookup y with
        | none => simp
        | some kk =>
          rw [hh] at hlc
          cases kk <;> first | (simp; done) | skip
          simp only [Bool.true_and] at hlc
          rw [Bool.and_assoc, hlc, Bool.and_false]
      show (pure (X.env.blockKind == .function && X.env.kindOf y == some .local && p.line == cp.line && !(scope.names.any fun (n, k) => n == y && (k == .local || k == .cell))) : Sem Bool) = pure false
      rw [e0]
    | SetComp _ _ _ _ => cases e <;> cases ha
    | DictComp _ _ _ _ _ => cases e <;> cases ha
    | _ => exact sw_nc rfl _ _ _
  | true =>
    cases xx <;> first | (cases hlc; done) | skip
    rename_i elt gs scope cp
    unfold lcB at hlc
    simp only [Bool.and_eq_true, Bool.not_eq_true'] at hlc
    obtain ⟨⟨h1, h2⟩, h3⟩ := hlc
    have hyl : X.env.scope.names.lookup y = some .local := by
      rw [S.x.sc]
      split at h1
      · assumption
      · cases h1
    have hsw : swapsWith (.ListComp elt gs scope cp) (some (.Name y p)) pos.line X.env = pure true := sw_true hk hyl h2 h3
    -- the form
    cases e <;> first | (cases ha; done) | (unfold okE at he; first | (cases he; done) | (split at he <;> first | (cases he; done) | contradiction)) | skip
    rename_i e t it c own
    obtain ⟨elt', tg, iter, ifs, scope', cp', hx, g1, g2, g4, g5, g6, g7, g8⟩ := okE_comp he
    cases hx
    have K0 := S.x
    have hi : PI X _ _ (tI X cf it) := ok_I it K0 g1 fun w => by
      rcases g6 with g6 | g6
      · rw [w] at g6; cases g6
      · cases t with
        | one i => cases g6
        | many is => exact PV.tg_tup g5
    have hcc := comp_ifs (c := c) K0 g8
    have hee := fun (s : Shared) (H : Hp) (C : Addr) (cl : List (Str × Addr)) (fp : List Addr) => (ok_E e (xok_blk (scope := scope) K0 s H C cl fp) g7).v
    exact PS.imp (ps_setLc K0.calm S.N hN hyl hsw hi (by rw [K0.N, K0.sc]; exact blkOk_by g4) (pg_blk K0 g5) hcc hee (folded_ok g2 _)) fun D σ H q => s_comp K0 hi g4 g5 hcc hee g2 σ H _ q
theorem c_asg (S : SOk X G sc cf) {k : Nat} {y : Str} (he : okE G e sc xx = true) (hy : nameB G.N k y = true) (hl : locB sc y = true) (ha : asgB e xx = true) (hz : subL (rdE e) z = true) : PS X (.Assign [.Name y p] xx pos) (tC X lf cf (.asg k e z)) := by
  refine PS.imp (asg_ok S he hy hl ha) fun D σ H h => ?_
  obtain ⟨B, F, ρ, dσ, st, x, q⟩ := h
  rw [evC] at q
  obtain ⟨d, s1, e1, q⟩ := thn_out q
  refine run1 x.sm e1 fun v H1 F1 ρ1 sm t r => ?_
  rw [rd_mE] at sm
  obtain ⟨F2, x2, t2, sub2⟩ := x.after sm t hz
  unfold mE at r
  unfold wrap at q
  cases hf : frsh e with
  | false =>
    rw [hf] at r q
    exact q _ H1 F2 ρ1 (x2.setV k (Rep.mono t2.f t2.r r))
  | true =>
    rw [hf] at r q
    obtain ⟨a, rfl, r2, r3, r4, r5, r6⟩ := r
    obtain ⟨u, hu⟩ := r2.some
    obtain ⟨k1, k2, k3⟩ := t2.keepD hu r3 r4 r5
    exact q _ H1 F2 ρ1 (x2.setO k (r2.mono t2.f t2.r fun _ w => w) k2 k3 (fun w => r5 (sub2.ow w)) (x.t.none_ r6))
end
end PV
end
section
set_option Elab.async false
set_option linter.all false
set_option maxRecDepth 100000
set_option maxHeartbeats 2000000
/-! PvS8d: several targets; o[i] += e. -/
namespace PV
open PySem PySem.Spec PyProof.Rows L2
def ntupB : Expr → Bool
  | .Tuple _ _ _ => false
  | _ => true
theorem sw_tup {e : Expr} (es : List Expr) (k : Nat) (p : Pos) (l : Nat) (env : Env) : swapsWith e (some (.Tuple es k p)) l env = pure false := by
  cases e <;> rfl
theorem ss_nt {e : Expr} (h : ntupB e = true) (es : List Expr) (k : Nat) (p : Pos) (env : Env) : swappedStores [.Tuple es k p] e env = pure none := by
  cases e <;> first | rfl | cases h
section
variable {P : Program} {w : World} {K : PySem.W.Frag} {B : Bs} {H F Hs H' F' : Hp} {ρ ρ' : List Addr} {σ σ' : L2.St} {dσ dσ' : Sg} {st : ST} {d : D} {v : V}
theorem At.many {is : List Nat} {vs : List V} {ds : List D} (x : At P w K B H F ρ σ dσ st) (e : setMany dσ is ds = some dσ') (r : Reps P w K F ρ vs ds) : vs.length = is.length ∧ At P w K B H F ρ (setsV σ is vs) dσ' st := by
  obtain ⟨h1, h2, h3, _⟩ := x.sm.many e r
  exact ⟨h1, h2, x.t, fun a q => x.ow a (h3.ow q), x.k, x.r⟩
/-! values of which some are new lists -/
def frV : List V → List E → List V
  | v :: vs, e :: es => if frsh e then v :: frV vs es else frV vs es
  | _, _ => []
inductive VlO (P : Program) (w : World) (K : PySem.W.Frag) (F : Hp) (ρ : List Addr) (H Hs : Hp) (σ : L2.St) (dσ : Sg) : List V → List E → List D → Prop
  | nil : VlO P w K F ρ H Hs σ dσ [] [] []
  | val {v : V} {vs : List V} {e : E} {es : List E} {d : D} {ds : List D} : frsh e = false → Rep P w K F ρ v d → VlO P w K F ρ H Hs σ dσ vs es ds → VlO P w K F ρ H Hs σ dσ (v :: vs) (e :: es) (d :: ds)
  | own {a : Addr} {vs : List V} {e : E} {es : List E} {d : D} {ds : List D} : frsh e = true → Top P w K F ρ H a d → F a = none → a ∉ ρ → ¬ Ow σ dσ a → Hs a = none → V.ref a ∉ frV vs es → VlO P w K F ρ H Hs σ dσ vs es ds → VlO P w K F ρ H Hs σ dσ (.ref a :: vs) (e :: es) (d :: ds)
theorem VlO.none_ {vs : List V} {es : List E} {ds : List D} {a : Addr} (h : VlO P w K F ρ H Hs σ dσ vs es ds) (ha : V.ref a ∈ frV vs es) : Hs a = none := by
  induction h with
  | nil => cases ha
  | val h1 _ _ ih =>
    rw [frV, h1] at ha
    exact ih ha
  | own h1 _ _ _ _ h6 _ _ ih =>
    rw [frV, h1, if_pos rfl] at ha
    rcases List.mem_cons.mp ha with ha | ha
    · cases ha; exact h6
    · exact ih ha
theorem VlO.later {vs : List V} {es : List E} {ds : List D} {own : Addr → Prop} (h : VlO P w K F ρ H Hs σ dσ vs es ds) (t : Stp own H F ρ H' F' ρ') (ho : ∀ a, own a → Ow σ dσ a) (hs : ∀ a, Ow σ' dσ' a → Ow σ dσ a) : VlO P w K F' ρ' H' Hs σ' dσ' vs es ds := by
  induction h with
  | nil => exact .nil
  | val h1 h2 _ ih => exact .val h1 (h2.mono t.f t.r) ih
  | own h1 h2 h3 h4 h5 h6 h7 _ ih =>
    obtain ⟨u, hu⟩ := h2.some
    obtain ⟨k1, k2, k3⟩ := t.keepD hu h3 h4 (fun q => h5 (ho _ q))
    exact .own h1 (h2.mono t.f t.r fun o q => by rw [hu] at q; cases q; exact k1) k2 k3 (fun q => h5 (hs _ q)) h6 h7 ih
theorem VlO.wk {vs : List V} {es : List E} {ds : List D} (h : VlO P w K F ρ H Hs σ dσ vs es ds) (hs : ∀ a, V.ref a ∈ frV vs es → ¬ Ow σ' dσ' a) : VlO P w K F ρ H Hs σ' dσ' vs es ds := by
  induction h with
  | nil => exact .nil
  | val h1 h2 _ ih => exact .val h1 h2 (ih fun a q => hs a (by rw [frV, h1]; exact q))
  | own h1 h2 h3 h4 h5 h6 h7 _ ih =>
    refine .own h1 h2 h3 h4 (hs _ (by rw [frV, h1, if_pos rfl]; exact List.mem_cons_self ..)) h6 h7 (ih fun a q => hs a ?_)
    rw [frV, h1, if_pos rfl]
    exact List.mem_cons_of_mem _ q
theorem VlO.early {vs : List V} {es : List E} {ds : List D} {Hs' : Hp} (h : VlO P w K F ρ H Hs σ dσ vs es ds) (hs : ∀ a, Hs a = none → Hs' a = none) : VlO P w K F ρ H Hs' σ dσ vs es ds := by
  induction h with
  | nil => exact .nil
  | val k1 k2 _ ih => exact .val k1 k2 ih
  | own k1 k2 k3 k4 k5 k6 k7 _ ih => exact .own k1 k2 k3 k4 k5 (hs _ k6) k7 ih
theorem VlO.notow {vs : List V} {es : List E} {ds : List D} {a : Addr} (h : VlO P w K F ρ H Hs σ dσ vs es ds) (ha : V.ref a ∈ frV vs es) : ¬ Ow σ dσ a := by
  induction h with
  | nil => cases ha
  | val h1 _ _ ih =>
    rw [frV, h1] at ha
    exact ih ha
  | own h1 _ _ _ h5 _ _ _ ih =>
    rw [frV, h1, if_pos rfl] at ha
    rcases List.mem_cons.mp ha with ha | ha
    · cases ha; exact h5
    · exact ih ha
theorem VlO.length {vs : List V} {es : List E} {ds : List D} (h : VlO P w K F ρ H Hs σ dσ vs es ds) : vs.length = ds.length := by
  induction h with
  | nil => rfl
  | val _ _ _ ih => exact congrArg (· + 1) ih
  | own _ _ _ _ _ _ _ _ ih => exact congrArg (· + 1) ih
theorem At.setMW : ∀ {is : List Nat} {vs : List V} {es : List E} {ds : List D} {σ : L2.St} {dσ dσ' : Sg}, At P w K B H F ρ σ dσ st → VlO P w K F ρ H Hs σ dσ vs es ds → (∀ a, Hs a = none → B.H a = none) → setMW dσ is (wraps es ds) = some dσ' →
    vs.length = is.length ∧ At P w K B H F ρ (setsV σ is vs) dσ' st
  | [], _, _, _, σ, dσ, dσ', x, .nil, _, e => by cases e; exact ⟨rfl, x⟩
  | [], _, _, _, σ, dσ, dσ', x, .val _ _ _, _, e => by simp [wraps, PV.setMW] at e
  | [], _, _, _, σ, dσ, dσ', x, .own _ _ _ _ _ _ _ _, _, e => by simp [wraps, PV.setMW] at e
  | _ :: _, _, _, _, σ, dσ, dσ', x, .nil, _, e => by simp [wraps, PV.setMW] at e
  | i :: is, v :: vs, e0 :: es, d :: ds, σ, dσ, dσ', x, .val h1 h2 h3, hB, e => by
    rw [wraps, PV.setMW, wrap, h1] at e
    obtain ⟨g1, g2⟩ := At.setMW (x.setV i h2) (h3.wk fun a q w => h3.notow q ((sub_set i d v).ow w)) hB e
    exact ⟨congrArg (· + 1) g1, g2⟩
  | i :: is, .ref a :: vs, e0 :: es, d :: ds, σ, dσ, dσ', x, .own h1 h2 h3 h4 h5 h6 h7 h8, hB, e => by
    rw [wraps, PV.setMW, wrap, h1] at e
    obtain ⟨g1, g2⟩ := At.setMW (x.setO i h2 h3 h4 h5 (hB a h6)) (h8.wk fun b q w => by
      rcases ow_set w with rfl | w
      · exact h7 q
      · exact h8.notow q w) hB e
    exact ⟨congrArg (· + 1) g1, g2⟩
theorem At.alloc {p : Addr} {u : HO} (x : At P w K B H F ρ σ dσ st) (hp : H p = none) : At P w K B (upd H p u) F ρ σ dσ st :=
  ⟨x.sm.alloc hp, x.t.trans (Stp.alloc hp), x.ow, x.k, x.r⟩
end
inductive AllK (X : Cx) (cf : CF) : List E → List Expr → Prop
  | nil : AllK X cf [] []
  | cons {e : E} {x : Expr} {es : List E} {xs : List Expr} : Ok X cf x e → nsB x = true → AllK X cf es xs → AllK X cf (e :: es) (x :: xs)
theorem allK {X : Cx} {G : Cg} {sc : Scope} {cf : CF} (K0 : XOk X G sc cf) : ∀ {es : List E} {xs : List Expr}, okEs G es sc xs = true → AllK X cf es xs
  | [], [], _ => .nil
  | [], _ :: _, h => by simp [okEs] at h
  | _ :: _, [], h => by simp [okEs] at h
  | e :: es, x :: xs, h => by
    rw [okEs, Bool.and_eq_true, Bool.and_eq_true] at h
    exact .cons (ok_E e K0 h.1.1) h.1.2 (allK K0 h.2)
def tAo (X : Cx) (cf : CF) (es : List E) : TA := fun σ H Q => ∃ F ρ Z dσ st, Sm X.prog X.w X.K H F ρ Z σ dσ st ∧ Out (evEs cf es dσ st) fun ds st' =>
  ∀ vs H' F' ρ', Sm X.prog X.w X.K H' F' ρ' (Zr Z (rdEs es)) σ dσ st' → Stp (Ow σ dσ) H F ρ H' F' ρ' → VlO X.prog X.w X.K F' ρ' H' H σ dσ vs es ds → Q vs H'
section
variable {X : Cx} {G : Cg} {sc : Scope} {lf : Nat} {cf : CF} {xx yy zz : Expr} {o v i e c it : E} {a b : C} {pos ap cp p : Pos} {z : List Nat} {op : Op}
theorem AllK.ns {es : List E} {xs : List Expr} (h : AllK X cf es xs) : xs.all nsB = true := by
  induction h with
  | nil => rfl
  | cons _ h3 _ ih => rw [List.all_cons, h3, ih]; rfl
theorem s_argsO {es : List E} {xs : List Expr} (h : AllK X cf es xs) : PA X xs (tAo X cf es) := by
  induction h with
  | nil =>
    refine PA.imp pa_nil fun σ H Q h => ?_
    obtain ⟨F, ρ, Z, dσ, st, s, q⟩ := h
    exact q [] H F ρ (s.wkZ fun _ => .inl) Stp.refl .nil
  | @cons e x es xs h1 h3 _ ih =>
    refine PA.imp (pa_cons (h1.1 (mE e) (mE_ok e)) ih (star_ok h3 _ _)) fun σ H Q h => ?_
    obtain ⟨F, ρ, Z, dσ, st, s, q⟩ := h
    rw [evEs] at q
    obtain ⟨d1, s1, e1, q⟩ := q.bind
    obtain ⟨ds, s2, e2, q⟩ := q.bind
    refine run1 s e1 fun v H1 F1 ρ1 sm1 t1 r1 => ⟨F1, ρ1, _, dσ, s1, sm1, ?_⟩
    rw [rd_mE] at sm1
    rw [e2]
    intro vs H2 F2 ρ2 sm2 t2 r2
    have r2' : VlO X.prog X.w X.K F2 ρ2 H2 H σ dσ vs es ds := r2.early fun a q => t1.none_ q
    have sm2' : Sm X.prog X.w X.K H2 F2 ρ2 (Zr Z (rdEs (e :: es))) σ dσ s2 := sm2.wkZ fun i w => by
      rw [rd_mE] at w
      exact Zr.app i w
    refine q (v :: vs) H2 F2 ρ2 sm2' (t1.trans t2) ?_
    unfold mE at r1
    cases hf : frsh e with
    | false =>
      rw [hf] at r1
      exact .val hf (Rep.mono t2.f t2.r r1) r2'
    | true =>
      rw [hf] at r1
      obtain ⟨a, rfl, k2, k3, k4, k5, k6⟩ := r1
      obtain ⟨u, hu⟩ := k2.some
      obtain ⟨m1, m2, m3⟩ := t2.keepD hu k3 k4 k5
      exact .own hf (k2.mono t2.f t2.r fun o w => by rw [hu] at w; cases w; exact m1) m2 m3 k5 k6 (fun w => by
        have z := r2.none_ w
        rw [hu] at z; cases z) r2'
theorem c_unp (S : SOk X G sc cf) {is : List Nat} {ts : List Expr} {k : Nat} (he : okE G e sc xx = true) (ht : tgC.tgsC G.N sc is is ts = true) (hn : ntupB xx = true) (hz : subL (rdE e) z = true) : PS X (.Assign [.Tuple ts k p] xx pos) (tC X lf cf (.unp is e z)) := by
  have pg : PG X (.Tuple ts k p) (gT X.K (.many is)) := pg_T (scope := sc) (own := is) S.N S.x.calm (fun y h => S.loc h) (by rw [S.x.N]; exact ht)
  refine PS.imp (ps_asg (ok_E e S.x he).v pg (show swapsWith xx (some (.Tuple ts k p)) pos.line X.env = pure false from sw_tup _ _ _ _ _) (ss_nt hn _ _ _ _) rfl) fun D σ H h => ?_
  obtain ⟨B, F, ρ, dσ, st, x, q⟩ := h
  rw [evC] at q
  obtain ⟨d, s1, e1, q⟩ := thn_out q
  refine run1 x.sm e1 fun v H1 F1 ρ1 sm t r => ?_
  obtain ⟨F2, x2, t2, _⟩ := x.after sm t hz
  split at q
  · rename_i ds
    split at q
    · rename_i dσ' hs
      obtain ⟨a, vs, rfl, h1, h2⟩ := Rep.tup_ (Rep.mono t2.f t2.r r)
      obtain ⟨g1, g2⟩ := x2.many hs h2
      exact ⟨a, vs, rfl, x2.sm.rf.fs.sqT h1, g1, q _ H1 F2 ρ1 g2⟩
    · exact q.elim
  · exact q.elim
/-- which names a tuple's values are put into from the right; none: the model has no answer -/
def swS (sc : Scope) (ts vs : List Expr) : Option (Option (List Str)) :=
  if (!(ts.length == 2 || ts.length == 3) || vs.length != ts.length) = true then some none
  else if (vs.any fun | .Starred .. => true | _ => false) = true then some none
  else
    let line := (ts.head?.map (·.pos.line)).getD 0
    let names := ts.filterMap fun
      | .Name id pos => if (sc.names.lookup id == some .local && pos.line == line) = true then some id else none
      | _ => none
    if (names.length != ts.length || names.eraseDups.length != names.length) = true then some none
    else if vs.all (foldedForSure 8) = true then some none
    else if vs.all (constantsAlone 8) = true then none
    else some (some names)
theorem sw_aux {b1 b2 b3 b4 b5 : Bool} {n : List Str} {r : Option (List Str)} {u : Sem (Option (List Str))} (h : (if b1 = true then some none else if b2 = true then some none else if b3 = true then some none else if b4 = true then some none else if b5 = true then none else some (some n)) = some r) :
    (if b1 = true then pure none else if b2 = true then pure none else if b3 = true then pure none else if b4 = true then pure none else if b5 = true then u else pure (some n)) = (pure r : Sem (Option (List Str))) := by
  cases b1 <;> cases b2 <;> cases b3 <;> cases b4 <;> cases b5 <;> first | (cases h; rfl) | (cases h; done)
theorem swS_eq {ts vs : List Expr} {k k2 : Nat} {p p2 : Pos} {env : Env} {r : Option (List Str)} (hk : env.scope.kind = .function) (hs : env.scope = sc) (h : swS sc ts vs = some r) : swappedStores [.Tuple ts k p] (.Tuple vs k2 p2) env = pure r := by
  have hb : env.blockKind = .function := by unfold Env.blockKind; rw [hk]; rfl
  subst hs
  unfold swS at h
  unfold swappedStores
  simp only [hb, bne_self_eq_false, Bool.or_false]
  exact sw_aux h
theorem par_reading {is : List Nat} {es : List E} {B : Bs} {D : Ends} {σ : L2.St} {H F : Hp} {ρ : List Addr} {dσ : Sg} {st : ST} (hz : subL (rdEs es) z = true) (x : At X.prog X.w X.K B H F ρ σ dσ st) (q : OutC X.prog X.w X.K B D (evC lf cf (.par is es z) dσ st)) {R : List V → Hp → Prop}
    (h : ∀ vs H1, vs.length ≤ sizeLine → vs.length = is.length → (∀ H2, (∀ a u, H1 a = some u → H2 a = some u) → (∃ p u, H1 p = none ∧ H2 = upd H1 p u) ∨ H2 = H1 → D.nx (setsV σ is vs) H2) → R vs H1) (hl : is.length ≤ sizeLine) : tAo X cf es σ H R := by
  rw [evC] at q
  obtain ⟨ds, s1, e1, q⟩ := thn_out q
  refine ⟨F, ρ, NoZ, dσ, st, x.sm, ?_⟩
  rw [e1]
  intro vs H1 F1 ρ1 sm t r
  obtain ⟨F2, x2, t2, sub2⟩ := x.after sm t hz
  split at q
  · rename_i dσ' hs
    have r2 : VlO X.prog X.w X.K F2 ρ1 H1 H σ (frz dσ z) vs es ds := r.later t2 (fun _ w => w) fun a w => sub2.ow w
    obtain ⟨g1, g2⟩ := x2.setMW r2 (fun a w => x.t.none_ w) hs
    refine h vs H1 (by rw [g1]; exact hl) g1 fun H2 hh hp => ?_
    rcases hp with ⟨p, u, hp, rfl⟩ | rfl
    · exact q _ _ F2 ρ1 (g2.alloc hp)
    · exact q _ _ F2 ρ1 g2
  · exact q.elim
theorem c_par2 (S : SOk X G sc cf) {i j : Nat} {n m : Str} {es : List E} {aa bb : Expr} {px py pt p2 : Pos} {kt k2 : Nat} (he : okEs G es sc [aa, bb] = true) (ht : tgC.tgsC G.N sc [i, j] [i, j] [.Name n px, .Name m py] = true) (hij : i ≠ j)
    (hx : sc.names.lookup n = some .local) (hy : sc.names.lookup m = some .local) (hw : swS sc [.Name n px, .Name m py] [aa, bb] = some (some [n, m])) (hz : subL (rdEs es) z = true) :
    PS X (.Assign [.Tuple [.Name n px, .Name m py] kt pt] (.Tuple [aa, bb] k2 p2) pos) (tC X lf cf (.par [i, j] es z)) := by
  have hk : X.env.scope.kind = .function := by rw [S.x.sc]; exact S.kind
  simp only [tgC.tgsC, Bool.and_eq_true] at ht
  refine PS.imp (ps_par S.x.calm S.N (by rw [S.x.N]; exact nameB_eq ht.1.1.1) (by rw [S.x.N]; exact nameB_eq ht.2.1.1.1) hij (by rw [S.x.sc]; exact hx) (by rw [S.x.sc]; exact hy) (s_argsO (allK S.x he)) (swS_eq hk S.x.sc hw)) fun D σ H h => ?_
  obtain ⟨B, F, ρ, dσ, st, x, q⟩ := h
  refine par_reading hz x q (fun vs H1 _ hl k => ?_) (by show 2 ≤ sizeLine; decide)
  cases vs with
  | nil => cases hl
  | cons v vs =>
    cases vs with
    | nil => cases hl
    | cons w vs =>
      cases vs with
      | nil => exact ⟨v, w, rfl, k H1 (fun _ _ q => q) (.inr rfl)⟩
      | cons _ _ => cases hl
theorem c_par3 (S : SOk X G sc cf) {i j l : Nat} {n m o : Str} {es : List E} {aa bb cc : Expr} {px py pz pt p2 : Pos} {kt k2 : Nat} (he : okEs G es sc [aa, bb, cc] = true) (ht : tgC.tgsC G.N sc [i, j, l] [i, j, l] [.Name n px, .Name m py, .Name o pz] = true) (hij : i ≠ j) (hil : i ≠ l) (hjl : j ≠ l)
    (hx : sc.names.lookup n = some .local) (hy : sc.names.lookup m = some .local) (ho : sc.names.lookup o = some .local) (hw : swS sc [.Name n px, .Name m py, .Name o pz] [aa, bb, cc] = some (some [n, m, o])) (hz : subL (rdEs es) z = true) :
    PS X (.Assign [.Tuple [.Name n px, .Name m py, .Name o pz] kt pt] (.Tuple [aa, bb, cc] k2 p2) pos) (tC X lf cf (.par [i, j, l] es z)) := by
  have hk : X.env.scope.kind = .function := by rw [S.x.sc]; exact S.kind
  simp only [tgC.tgsC, Bool.and_eq_true] at ht
  refine PS.imp (ps_par3 S.x.calm S.N (by rw [S.x.N]; exact nameB_eq ht.1.1.1) (by rw [S.x.N]; exact nameB_eq ht.2.1.1.1) (by rw [S.x.N]; exact nameB_eq ht.2.2.1.1.1) hij hil hjl (by rw [S.x.sc]; exact hx) (by rw [S.x.sc]; exact hy) (by rw [S.x.sc]; exact ho) (s_argsO (allK S.x he)) (swS_eq hk S.x.sc hw)) fun D σ H h => ?_
  obtain ⟨B, F, ρ, dσ, st, x, q⟩ := h
  refine par_reading hz x q (fun vs H1 _ hl k => ?_) (by show 3 ≤ sizeLine; decide)
  cases vs with
  | nil => cases hl
  | cons v vs =>
    cases vs with
    | nil => cases hl
    | cons w vs =>
      cases vs with
      | nil => cases hl
      | cons u vs =>
        cases vs with
        | nil => exact ⟨v, w, u, rfl, k H1 (fun _ _ q => q) (.inr rfl)⟩
        | cons _ _ => cases hl
theorem c_parN (S : SOk X G sc cf) {is : List Nat} {ts xs : List Expr} {es : List E} {pt p2 : Pos} {kt k2 : Nat} (he : okEs G es sc xs = true) (ht : tgC.tgsC G.N sc is is ts = true) (hw : swS sc ts xs = some none) (hl : is.length ≤ 100) (hz : subL (rdEs es) z = true) :
    PS X (.Assign [.Tuple ts kt pt] (.Tuple xs k2 p2) pos) (tC X lf cf (.par is es z)) := by
  have hk : X.env.scope.kind = .function := by rw [S.x.sc]; exact S.kind
  have pg : PG X (.Tuple ts kt pt) (gT X.K (.many is)) := pg_T (scope := sc) (own := is) S.N S.x.calm (fun y h => S.loc h) (by rw [S.x.N]; exact ht)
  refine PS.imp (ps_asg (pe_tup (s_argsO (allK S.x he))) pg rfl (swS_eq hk S.x.sc hw) rfl) fun D σ H h => ?_
  obtain ⟨B, F, ρ, dσ, st, x, q⟩ := h
  refine par_reading hz x q (fun vs H1 hv hl k => ⟨hv, fun p hp => ⟨p, vs, rfl, SqT.of upd_same, hl, k _ (hsub_upd hp) (.inl ⟨p, _, hp, rfl⟩)⟩⟩) (Nat.le_trans hl (by decide))
theorem aug_ok {y : Expr} (h : plainIxB y = true) : ∀ ov iv new, augStore y ov iv new = (do holding [new, ov, iv] (setItem ov iv new); release [new, ov, iv] []; pure .next) := by
  cases y <;> first | exact fun _ _ _ => rfl | cases h
theorem idx0_eq : ∀ {a k d : D}, idx0 a k = some d → ∃ ds ii, a = .lst ds ∧ k = .int ii ∧ 0 ≤ ii ∧ ds[ii.toNat]? = some d
  | a, k, d, h => by
    cases a <;> first | (cases h; done) | skip
    rename_i ds
    cases k <;> first | (cases h; done) | skip
    rename_i ii
    rw [idx0] at h
    split at h
    · rename_i h0
      exact ⟨ds, ii, rfl, rfl, h0, h⟩
    · cases h
/-- an int is added to a slot's -/
theorem c_aug (S : SOk X G sc cf) {k : Nat} {y : Str} (he : okE G v sc xx = true) (hy : nameB G.N k y = true) (hl : locB sc y = true) (hz : subL (rdE v) z = true) : PS X (.AugAssign (.Name y p) .Add xx pos) (tC X lf cf (.aug k .add v z)) := by
  refine PS.imp (ps_aug S.N (by rw [S.x.N]; exact nameB_eq hy) (S.loc hl).1 (ok_E v S.x he).v ip_add (S.loc hl).2) fun D σ H h => ?_
  obtain ⟨B, F, ρ, dσ, st, x, q⟩ := h
  rw [evC] at q
  split at q
  · rename_i a hd0
    obtain ⟨d1, s1, e1, q⟩ := thn_out q
    split at q
    · rename_i b _
      obtain ⟨v0, k1, k2⟩ := x.sm.peek hd0
      have k2 := Pk.int x.sm k2
      subst k2
      refine ⟨_, k1, run1 x.sm e1 fun v1 H1 F1 ρ1 sm t r => ?_⟩
      cases r
      obtain ⟨F2, x2, t2, _⟩ := x.after sm t hz
      exact ⟨a, b, rfl, rfl, q _ H1 F2 ρ1 (x2.setV k (.int _))⟩
    · exact q.elim
  · exact q.elim
theorem c_aidx (S : SOk X G sc cf) (ho : okE G o sc xx = true) (hi : okE G i sc yy = true) (hv : okE G v sc zz = true) (hx : plainIxB yy = true) (hz : subL (rdP o ++ (rdE i ++ rdE v)) z = true) :
    PS X (.AugAssign (.Subscript xx yy p) .Add zz pos) (tC X lf cf (.aidx o i .add v z)) := by
  refine PS.imp (ps_augS (p_obj S.x ho) (ok_E i S.x hi).v get_list (ok_E v S.x hv).v ip_add set_list (aug_ok hx)) fun D σ H h => ?_
  obtain ⟨B, F, ρ, dσ, st, x, q⟩ := h
  rw [evC] at q
  obtain ⟨d1, s1, e1, q⟩ := thn_out q
  obtain ⟨k, s2, e2, q⟩ := thn_out q
  split at q
  · exact q.elim
  rename_i x2 hx2
  obtain ⟨p0, hp0, hpd⟩ := Option.map_eq_some_iff.mp hx2
  split at q
  · rename_i a _ ha
    obtain ⟨dv, s3, e3, q⟩ := thn_out q
    obtain ⟨ds, ii, rfl, rfl, h0, hget⟩ := idx0_eq ha
    split at q
    · rename_i b
      refine ⟨F, ρ, NoZ, dσ, st, x.sm, ?_⟩
      rw [e1]
      refine ⟨place_guard hp0, fun v1 H1 F1 ρ1 sm1 t1 ov => ?_⟩
      refine run1 sm1 e2 fun ki H2 F2 ρ2 sm2 t2 r2 => ?_
      cases r2
      obtain ⟨q0, rfl, ht0⟩ := place_top sm2 hp0 (ov.mono t2.r)
      rw [hpd] at ht0
      obtain ⟨us0, hu0, ru0⟩ := ht0
      obtain ⟨w0, hw0, rw0⟩ := ru0.get hget
      cases rw0
      refine ⟨q0, us0, ii, .int a, rfl, rfl, hu0, h0, hw0, ?_⟩
      refine run1 sm2 e3 fun vv H3 F3 ρ3 sm3 t3 r3 => ?_
      cases r3
      refine ⟨a, b, rfl, rfl, ?_⟩
      obtain ⟨F4, x4, t4, _⟩ := x.after (l := rdP o ++ (rdE i ++ rdE v)) (sm3.wkZ zr3) ((t1.trans t2).trans t3) hz
      split at q
      · rename_i p hp
        split at q
        · rename_i d' hd'
          obtain ⟨a', e', ht, put⟩ := place_ok x4 hp ((ov.mono t2.r).mono t3.r)
          cases e'
          obtain ⟨ds', ii', hpd', hk', g0, g1, rfl⟩ := stoD_eq hd'
          cases hk'
          rw [hpd'] at ht
          obtain ⟨us, hu, ru⟩ := ht
          refine ⟨q0, us, ii, ii.toNat, rfl, rfl, hu, ?_, ?_⟩
          · unfold ixN
            rw [if_pos h0, ru.length, if_pos g1]
          · exact q σ _ F4 ρ3 (put _ (.lst (ds'.set ii.toNat (.int (a + b)))) ⟨us.set ii.toNat (.int (a + b)), upd_same, ru.set _ (.int _)⟩)
        · exact q.elim
      · exact q.elim
    · exact q.elim
  · exact q.elim
end
end PV
end
section
set_option Elab.async false
set_option linter.all false
set_option maxRecDepth 100000
set_option maxHeartbeats 2000000
/-! PvS9: checked bodies; the table of defs. -/
namespace PV
open PySem PySem.Spec PyProof.Rows L2
def lclB (sc : Scope) (x : Str) : Bool := match sc.names.lookup x with
  | some .local => true
  | _ => false
theorem lclB_eq {sc : Scope} {x : Str} (h : lclB sc x = true) : sc.names.lookup x = some .local := by
  unfold lclB at h
  split at h
  · assumption
  · cases h
def parB (sc : Scope) (is : List Nat) (ts xs : List Expr) : Bool := match swS sc ts xs with
  | some none => true
  | some (some names) => (match is, ts, xs, names with
    | [i, j], [.Name n _, .Name m _], [_, _], [n', m'] => !(Nat.beq i j) && lclB sc n && lclB sc m && decide (n' = n) && decide (m' = m)
    | [i, j, l], [.Name n _, .Name m _, .Name o _], [_, _, _], [n', m', o'] => !(Nat.beq i j) && !(Nat.beq i l) && !(Nat.beq j l) && lclB sc n && lclB sc m && lclB sc o && decide (n' = n) && decide (m' = m) && decide (o' = o)
    | _, _, _, _ => false)
  | none => false
mutual
def okS (G : Cg) (sc : Scope) : C → Stmt → Bool
  | .asg k e z, .Assign [.Name y _] xx _ => okE G e sc xx && nameB G.N k y && locB sc y && asgB e xx && subL (rdE e) z
  | .unp is e z, .Assign [.Tuple ts _ _] xx _ => okE G e sc xx && tgC.tgsC G.N sc is is ts && ntupB xx && subL (rdE e) z
  | .par is es z, .Assign [.Tuple ts _ _] (.Tuple xs _ _) _ => okEs G es sc xs && tgC.tgsC G.N sc is is ts && parB sc is ts xs && Nat.ble is.length 100 && subL (rdEs es) z
  | .sidx o i v z, .Assign [.Subscript x y _] vv _ => okE G o sc x && okE G i sc y && okE G v sc vv && plainIxB y && subL (rdE v ++ (rdP o ++ rdE i)) z
  | .aidx o i .add v z, .AugAssign (.Subscript x y _) .Add vv _ => okE G o sc x && okE G i sc y && okE G v sc vv && plainIxB y && subL (rdP o ++ (rdE i ++ rdE v)) z
  | .aug k .add v z, .AugAssign (.Name y _) .Add xx _ => okE G v sc xx && nameB G.N k y && locB sc y && subL (rdE v) z
  | .app o v z, .Expr (.Call (.Attribute x nm ap) [y] [] cp) _ => decide (nm = ("append" : Str)) && okE G o sc x && okE G v sc y && nsB y && obB x && (ap.endLine == cp.line) && subL (rdP o ++ rdE v) z
  | .ext o v z, .Expr (.Call (.Attribute x nm ap) [y] [] cp) _ => decide (nm = ("extend" : Str)) && okE G o sc x && okE G v sc y && nsB y && obB x && (ap.endLine == cp.line) && subL (rdP o ++ rdE v) z
  | .ret e, .Return (some xx) _ => okE G e sc xx
  | .ret e, .Return .none _ => isNonE e
  | .ite c z a b, .If xx ss tt _ => okE G c sc xx && ntB xx && subL (rdE c) z && okL G sc a ss && okL G sc b tt
  | .whl c z b, .While xx ss [] _ => okE G c sc xx && ntB xx && subL (rdE c) z && okL G sc b ss
  | .for_ t it z b, .For tg xx ss [] _ => okI G it sc xx && !setB xx && tgC G.N sc (tgL t) t tg && (!isPair it || isMany t) && subL (rdE it) z && okL G sc b ss
  | .brk, .Break _ => true
  | .cnt, .Continue _ => true
  | .skip, .Pass _ => true
  | .skip, .Expr (.Constant (.str _) _ _) _ => true
  | .exs e z, .Expr xx _ => okE G e sc xx && ncB xx && subL (rdE e) z
  | .rse _, .Raise _ _ _ => true
  | _, _ => false
def okL (G : Cg) (sc : Scope) : C → List Stmt → Bool
  | .skip, [] => true
  | .seq a b, s :: rest => okS G sc a s && okL G sc b rest
  | _, _ => false
end
section
variable {X : Cx} {G : Cg} {sc : Scope} {lf : Nat} {cf : CF}
theorem c_par (S : SOk X G sc cf) {is : List Nat} {ts xs : List Expr} {es : List E} {z : List Nat} {pt p2 pos : Pos} {kt k2 : Nat} (he : okEs G es sc xs = true) (ht : tgC.tgsC G.N sc is is ts = true) (hp : parB sc is ts xs = true) (hl : is.length ≤ 100) (hz : subL (rdEs es) z = true) :
    PS X (.Assign [.Tuple ts kt pt] (.Tuple xs k2 p2) pos) (tC X lf cf (.par is es z)) := by
  unfold parB at hp
  split at hp
  · rename_i hw
    exact c_parN S he ht hw hl hz
  · rename_i names hw
    split at hp
    · simp only [Bool.and_eq_true, Bool.not_eq_true', decide_eq_true_eq] at hp
      obtain ⟨⟨⟨⟨h1, h2⟩, h3⟩, rfl⟩, rfl⟩ := hp
      exact c_par2 S he ht (Nat.ne_of_beq_eq_false h1) (lclB_eq h2) (lclB_eq h3) hw hz
    · simp only [Bool.and_eq_true, Bool.not_eq_true', decide_eq_true_eq] at hp
      obtain ⟨⟨⟨⟨⟨⟨⟨⟨h1, h2⟩, h3⟩, h4⟩, h5⟩, h6⟩, rfl⟩, rfl⟩, rfl⟩ := hp
      exact c_par3 S he ht (Nat.ne_of_beq_eq_false h1) (Nat.ne_of_beq_eq_false h2) (Nat.ne_of_beq_eq_false h3) (lclB_eq h4) (lclB_eq h5) (lclB_eq h6) hw hz
    · cases hp
  · cases hp
mutual
theorem ok_S (S : SOk X G sc cf) : ∀ (c : C) {s : Stmt}, okS G sc c s = true → PS X s (tC X lf cf c)
  | .asg k e z, s, h => by
    unfold okS at h
    split at h <;> first | (cases h; done) | contradiction | skip
    rename_i q; cases q
    simp only [Bool.and_eq_true] at h
    obtain ⟨⟨⟨⟨h1, h2⟩, h3⟩, h4⟩, h5⟩ := h
    exact c_asg S h1 h2 h3 h4 h5
  | .unp is e z, s, h => by
    unfold okS at h
    split at h <;> first | (cases h; done) | contradiction | skip
    rename_i q; cases q
    simp only [Bool.and_eq_true] at h
    obtain ⟨⟨⟨h1, h2⟩, h3⟩, h4⟩ := h
    exact c_unp S h1 h2 h3 h4
  | .par is es z, s, h => by
    unfold okS at h
    split at h <;> first | (cases h; done) | contradiction | skip
    rename_i q; cases q
    simp only [Bool.and_eq_true] at h
    obtain ⟨⟨⟨⟨h1, h2⟩, h3⟩, h4⟩, h5⟩ := h
    exact c_par S h1 h2 h3 (Nat.le_of_ble_eq_true h4) h5
  | .sidx o i v z, s, h => by
    unfold okS at h
    split at h <;> first | (cases h; done) | contradiction | skip
    rename_i q; cases q
    simp only [Bool.and_eq_true] at h
    obtain ⟨⟨⟨⟨h1, h2⟩, h3⟩, h4⟩, h5⟩ := h
    exact c_sidx S.x h1 h2 h3 h4 h5
  | .aidx o i op v z, s, h => by
    unfold okS at h
    split at h <;> first | (cases h; done) | contradiction | skip
    rename_i q; cases q
    simp only [Bool.and_eq_true] at h
    obtain ⟨⟨⟨⟨h1, h2⟩, h3⟩, h4⟩, h5⟩ := h
    exact c_aidx S h1 h2 h3 h4 h5
  | .aug k op v z, s, h => by
    unfold okS at h
    split at h <;> first | (cases h; done) | contradiction | skip
    rename_i q; cases q
    simp only [Bool.and_eq_true] at h
    obtain ⟨⟨⟨h1, h2⟩, h3⟩, h4⟩ := h
    exact c_aug S h1 h2 h3 h4
  | .app o v z, s, h => by
    unfold okS at h
    split at h <;> first | (cases h; done) | contradiction | skip
    rename_i q; cases q
    simp only [Bool.and_eq_true, decide_eq_true_eq] at h
    obtain ⟨⟨⟨⟨⟨⟨h1, h2⟩, h3⟩, h4⟩, h5⟩, h6⟩, h7⟩ := h
    subst h1
    exact c_app S.x h2 h3 h4 h5 h6 h7
  | .ext o v z, s, h => by
    unfold okS at h
    split at h <;> first | (cases h; done) | contradiction | skip
    rename_i q; cases q
    simp only [Bool.and_eq_true, decide_eq_true_eq] at h
    obtain ⟨⟨⟨⟨⟨⟨h1, h2⟩, h3⟩, h4⟩, h5⟩, h6⟩, h7⟩ := h
    subst h1
    exact c_ext S.x h2 h3 h4 h5 h6 h7
  | .ret e, s, h => by
    unfold okS at h
    split at h <;> first | (cases h; done) | contradiction | skip
    · rename_i q; cases q
      exact c_ret S h
    · rename_i q; cases q
      rw [isNonE_eq h]
      exact c_retN
  | .ite c z a b, s, h => by
    unfold okS at h
    split at h <;> first | (cases h; done) | contradiction | skip
    rename_i q; cases q
    simp only [Bool.and_eq_true] at h
    obtain ⟨⟨⟨⟨h1, h2⟩, h3⟩, h4⟩, h5⟩ := h
    exact c_if S h1 h2 h3 (ok_L S a h4) (ok_L S b h5)
  | .whl c z b, s, h => by
    unfold okS at h
    split at h <;> first | (cases h; done) | contradiction | skip
    rename_i q; cases q
    simp only [Bool.and_eq_true] at h
    obtain ⟨⟨⟨h1, h2⟩, h3⟩, h4⟩ := h
    exact c_while S h1 h2 h3 (ok_L S b h4)
  | .for_ t it z b, s, h => by
    unfold okS at h
    split at h <;> first | (cases h; done) | contradiction | skip
    rename_i q; cases q
    rw [Bool.and_eq_true, Bool.and_eq_true, Bool.and_eq_true, Bool.and_eq_true, Bool.and_eq_true, Bool.not_eq_true'] at h
    obtain ⟨⟨⟨⟨⟨h1, h2⟩, h3⟩, h4⟩, h5⟩, h6⟩ := h
    exact c_for S h1 h2 h3 h4 h5 (ok_L S b h6)
  | .brk, s, h => by
    unfold okS at h
    split at h <;> first | (cases h; done) | contradiction | skip
    exact c_brk
  | .cnt, s, h => by
    unfold okS at h
    split at h <;> first | (cases h; done) | contradiction | skip
    exact c_cnt
  | .skip, s, h => by
    unfold okS at h
    split at h <;> first | (cases h; done) | contradiction | skip
    · exact c_pass
    · exact c_doc
  | .exs e z, s, h => by
    unfold okS at h
    split at h <;> first | (cases h; done) | contradiction | skip
    rename_i q; cases q
    simp only [Bool.and_eq_true] at h
    exact c_exs S h.1.1 h.1.2 h.2
  | .rse n, s, h => c_rse
  | .seq _ _, s, h => by
    unfold okS at h
    first | (cases h; done) | (split at h <;> first | (cases h; done) | contradiction)
  | .popA _ _ _ _, s, h => by
    unfold okS at h
    first | (cases h; done) | (split at h <;> first | (cases h; done) | contradiction)
  | .popP _ _ _ _ _, s, h => by
    unfold okS at h
    first | (cases h; done) | (split at h <;> first | (cases h; done) | contradiction)
theorem ok_L (S : SOk X G sc cf) : ∀ (c : C) {ss : List Stmt}, okL G sc c ss = true → PSs X ss (tC X lf cf c)
  | .skip, [], _ => c_nil
  | .seq a b, s :: rest, h => by
    rw [okL, Bool.and_eq_true] at h
    exact c_cons (ok_S S a h.1) (ok_L S b h.2)
  | .skip, _ :: _, h => by cases h
  | .seq _ _, [], h => by cases h
  | .asg _ _ _, _, h | .unp _ _ _, _, h | .par _ _ _, _, h | .sidx _ _ _ _, _, h | .aidx _ _ _ _ _, _, h | .aug _ _ _ _, _, h | .app _ _ _, _, h | .ext _ _ _, _, h | .ret _, _, h | .ite _ _ _ _, _, h | .whl _ _ _, _, h | .for_ _ _ _ _, _, h | .brk, _, h | .cnt, _, h | .exs _ _, _, h | .rse _, _, h | .popA _ _ _ _, _, h | .popP _ _ _ _ _, _, h => by
    unfold okL at h
    first | (cases h; done) | (split at h <;> first | (cases h; done) | contradiction)
end
end

/-! ### the table -/
structure FI where
  name : Str
  N : List Str
  ps : List Str
  st : Stmt
  fn : Fn
def okF (fns : List Str) (gcs : List (Str × D)) (fi : FI) : Bool :=
  C8.scC fi.N fi.ps (defScope fi.st) && okL ⟨fi.N, fns, gcs⟩ (defScope fi.st) fi.fn.body (defBody fi.st) && Nat.beq fi.fn.np fi.ps.length && Nat.beq fi.fn.ns fi.N.length
/-- what the top leaves, as the table's defs need it -/
structure Hd (P : Program) (w : World) (K : PySem.W.Frag) (mg : Str → Option Value) (fis : List FI) (gcs : List (Str × D)) : Prop where
  fn : ∀ (i : Nat) (fi : FI), fis[i]? = some fi → ∃ f fd, FunD K fi.name fi.name (defArgs fi.st) (defBody fi.st) (defScope fi.st) [] [] f fd ∧ mg fi.name = some (.ref f) ∧ Binds K fd fi.ps []
  gc : ∀ x d, (x, d) ∈ gcs → ∃ u v, mg x = some u ∧ RelV v u ∧ ∀ F ρ, Rep P w K F ρ v d
  bl : ∀ b : Bf, mg (bfNm b) = none
  tyB : mg "bool" = none
  rg : mg "range" = none
  en : mg "enumerate" = none
  zp : mg "zip" = none
section
variable {P : Program} {w : World} {K : PySem.W.Frag} {mg : Str → Option Value} {base : Heap} {fis : List FI} {gcs : List (Str × D)} {lf : Nat}
theorem start_get {N : List Str} {vs : List V} {i : Nat} {v : V} (h : vs[i]? = some v) : (L2.start N vs)[i]? = some (some v) := by
  have hl := (List.getElem?_eq_some_iff.mp h).1
  unfold L2.start
  rw [List.getElem?_append_left (by rw [List.length_map]; exact hl), List.getElem?_map, h]
  rfl
theorem startW_get {n : Nat} {ds : List D} {i : Nat} {x : W} (h : (startW n ds)[i]? = some (some x)) : ∃ d, ds[i]? = some d ∧ x = .val d := by
  unfold startW at h
  by_cases hl : i < ds.length
  · rw [List.getElem?_append_left (by rw [List.length_map]; exact hl), List.getElem?_map, List.getElem?_eq_getElem hl] at h
    cases h
    exact ⟨_, List.getElem?_eq_getElem hl, rfl⟩
  · rw [List.getElem?_append_right (by rw [List.length_map]; omega), List.getElem?_replicate] at h
    split at h <;> cases h
theorem at_start {H F : Hp} {ρ : List Addr} {st : ST} {vs : List V} {ds : List D} {N : List Str} {n : Nat} (rf : Rf P w K H F ρ st) (r : Reps P w K F ρ vs ds) (hn : n = N.length) (hl : ds.length ≤ n) : At P w K ⟨H, F, ρ, F, ρ⟩ H F ρ (L2.start N vs) (startW n ds) st := by
  refine ⟨⟨rf, ?_, fun i d e => ?_, fun i d e => ?_, fun i j a d e h1 h2 g1 g2 => ?_⟩, Stp.refl, fun a ⟨i, d, e, _⟩ => ?_, Fsub.refl _, Pre.refl _⟩
  · unfold L2.start startW
    rw [List.length_append, List.length_append, List.length_map, List.length_map, List.length_replicate, List.length_replicate, r.length, hn]
  · obtain ⟨d', h1, h2⟩ := startW_get e
    cases h2
    obtain ⟨v, g1, g2⟩ := r.get h1
    exact ⟨v, start_get g1, g2⟩
  · obtain ⟨_, _, h2⟩ := startW_get e
    cases h2
  · obtain ⟨_, _, h2⟩ := startW_get h1
    cases h2
  · obtain ⟨_, _, h2⟩ := startW_get e
    cases h2
/-- every def of the table keeps what the evaluator says of it, at every depth -/
theorem table (hd : Hd P w K mg fis gcs) (ok : fis.all (okF (fis.map (·.name)) gcs) = true) : ∀ (n i : Nat) (fi : FI), fis[i]? = some fi → ∀ f fd, FunD K fi.name fi.name (defArgs fi.st) (defBody fi.st) (defScope fi.st) [] [] f fd →
    FnOk P w K mg base CX0 n f fd fi.ps (spF P w K (callF (fis.map (·.fn)) lf n) i)
  | 0, i, fi, hi, f, fd, F => ⟨fun vs H Q E ⟨_, _, _, _, _, _, q⟩ => q.elim, fun A outer s H args us vs Q E hr e0 hb hv hsp => by
      obtain ⟨_, _, _, _, _, _, q⟩ := hsp
      exact q.elim⟩
  | n + 1, i, fi, hi, f, fd, F => by
    have hok := List.all_eq_true.mp ok fi (List.mem_of_getElem? hi)
    unfold okF at hok
    rw [Bool.and_eq_true, Bool.and_eq_true, Bool.and_eq_true] at hok
    obtain ⟨⟨⟨h1, h2⟩, h3⟩, h4⟩ := hok
    have S := C8.fnScope_by h1
    have hnp := Nat.eq_of_beq_eq_true h3
    have hns := Nat.eq_of_beq_eq_true h4
    have hfn : (fis.map (·.fn))[i]? = some fi.fn := by rw [List.getElem?_map, hi]; rfl
    have hpre : fi.ps.length ≤ fi.N.length := by
      have := congrArg List.length S.pre
      rw [List.length_take] at this
      omega
    have unf : ∀ {ds : List D} {st : ST} {c : D → ST → Prop}, Out (callF (fis.map (·.fn)) lf (n + 1) i ds st) c → ds.length = fi.fn.np ∧ Out (match evC lf (callF (fis.map (·.fn)) lf n) fi.fn.body (startW fi.fn.ns ds) st with
        | .ret d s => R.ok d s
        | .nx _ s => .ok .non s
        | .exc c s => .exc c s
        | _ => .bad) c := fun {ds st c} q => by
      rw [callF, hfn] at q
      dsimp only at q
      split at q
      · rename_i hb
        exact ⟨Nat.eq_of_beq_eq_true hb, q⟩
      · exact q.elim
    refine F.ok S (fun vs H Q E h => ?_) (fun cdv A outer s H vs Q E hr h => ?_)
    · obtain ⟨F', ρ, ds, st, rf, r, q⟩ := h
      rw [r.length, (unf q).1, hnp]
    · obtain ⟨F', ρ, ds, st, rf, r, q⟩ := h
      obtain ⟨hl, q⟩ := unf q
      have SO : SOk (cxOf CX0 P w K mg base fi.N fi.name (defScope fi.st) f cdv A outer s H E) ⟨fi.N, fis.map (·.name), gcs⟩ (defScope fi.st) (callF (fis.map (·.fn)) lf n) := by
        refine ⟨⟨rfl, S.nd, rfl, rfl, ?_, fun j x hx => ?_, hd.gc, hd.bl, hd.tyB, hd.rg, hd.en, hd.zp⟩, fun y => rfl, passes_of rfl, S.kind⟩
        · have := hr.un
          show (A.deeper _).units + 65 < cLine
          omega
        · have hx : (fis.map (·.name))[j]? = some x := hx
          rw [List.getElem?_map] at hx
          cases hj : fis[j]? with
          | none => rw [hj] at hx; cases hx
          | some fj =>
            rw [hj] at hx
            cases hx
            obtain ⟨g, gd, FD, hm, hb⟩ := hd.fn j fj hj
            exact ⟨g, gd, fj.ps, n, table hd ok n j fj hj g gd FD, hr, hm, FD.kp, hb⟩
      refine ⟨_, ok_L (lf := lf) SO fi.fn.body h2, ⟨H, F', ρ, F', ρ⟩, F', ρ, _, st, at_start rf r hns (by rw [hl, hnp, hns]; exact hpre), ?_⟩
      cases e : evC lf (callF (fis.map (·.fn)) lf n) fi.fn.body (startW fi.fn.ns ds) st with
      | ret d s1 =>
        rw [e] at q
        exact fun v H1 F1 ρ1 rf1 t1 r1 => q v H1 F1 ρ1 rf1 t1 r1
      | nx _ s1 =>
        rw [e] at q
        exact fun σ1 H1 F1 ρ1 x1 => q .non H1 F1 ρ1 x1.sm.rf x1.t .non
      | brk _ _ => rw [e] at q; exact q.elim
      | cnt _ _ => rw [e] at q; exact q.elim
      | exc _ _ => rw [e] at q; exact q.elim
      | bad => rw [e] at q; exact q.elim
end
end PV
end
section
set_option Elab.async false
set_option linter.all false
set_option maxRecDepth 100000
set_option maxHeartbeats 2000000
/-! PvS9b: the law's end. -/
namespace PV
open PySem PySem.Spec PyProof.Rows L2
theorem room_n {n : Nat} (h : n ≤ 200) : Room n callerA := by
  refine ⟨rfl, ?_, ?_⟩
  · have e : callerA.depth + 3 * 200 + 5 < recursionLimit := by decide
    omega
  · have e : callerA.units + 16 * 200 + 200 < cLine := by decide
    omega
theorem law_sp {P : Program} {w : World} {K : PySem.W.Frag} {H : Hp} {a : Addr} {ns : List Int} {cf : CF} {i : Nat} {E : XK} (hS : SqL K H a (ns.map V.int)) (h : ∃ st, cf i [.scr (ns.map D.int)] [] = .ok (.bl true) st) :
    spF P w K cf i [.ref a] H (fun v _ => v = .bl true) E := by
  obtain ⟨st, h⟩ := h
  refine ⟨H, [], [.scr (ns.map D.int)], [], ⟨Fsub.refl H, rfl, List.nodup_nil, fun n d e => by simp at e⟩, .cons (.scr hS (reps_ints ns)) .nil, ?_⟩
  rw [h]
  intro v H' F' ρ' _ _ r
  cases r
  rfl
where reps_ints : ∀ ns : List Int, Reps P w K H [] (ns.map V.int) (ns.map D.int)
  | [] => .nil
  | n :: ns => .cons (.int n) (reps_ints ns)
end PV
end
section
set_option Elab.async false
set_option linter.all false
set_option maxRecDepth 100000
set_option maxHeartbeats 2000000
/-! PvF: the evaluator by closed parts (quick in the kernel), the same as PvD's. -/
namespace PV
open PySem
abbrev Den := CF → Sg → ST → R D
abbrev Dens := CF → Sg → ST → R (List D)
abbrev CDen := Nat → CF → Sg → ST → RC
def dCst (d : D) : Den := fun _ _ st => .ok d st
def dVar (i : Nat) : Den := fun _ σ st => R.of (getW σ i) st
def dBin (o : Op) (a b : Den) : Den := fun cf σ st => (a cf σ st).bind fun x s1 => (b cf σ s1).bind fun y s2 => R.of (opD o x y) s2
def negD (x : D) (s : ST) : R D := match x with
    | .int i => .ok (.int (-i)) s
    | _ => .bad
def dNeg (a : Den) : Den := fun cf σ st => (a cf σ st).bind negD
def cmpD (o : Cp) (s2 : ST) : Option D → Option D → R D
    | some x', some y' => R.of ((cpD o x' y').map D.bl) s2
    | _, _ => .bad
def dCmp (o : Cp) (a b : Den) : Den := fun cf σ st => (a cf σ st).bind fun x s1 => (b cf σ s1).bind fun y s2 => cmpD o s2 (deref s2 x) (deref s2 y)
def chnD (p : Cp) (c : Den) (cf : CF) (σ : Sg) (y : D) (s2 : ST) : Option Bool → R D
    | some true => (c cf σ s2).bind fun z s3 => R.of ((cpD p y z).map D.bl) s3
    | some false => .ok (.bl false) s2
    | none => .bad
def dChn (o p : Cp) (a b c : Den) : Den := fun cf σ st => (a cf σ st).bind fun x s1 => (b cf σ s1).bind fun y s2 => chnD p c cf σ y s2 (cpD o x y)
def notD (x : D) (s1 : ST) : R D := match x with
    | .bl b => .ok (.bl (!b)) s1
    | _ => .bad
def dNt (a : Den) : Den := fun cf σ st => (a cf σ st).bind notD
def ifD (a b : Den) (cf : CF) (σ : Sg) (x : D) (s1 : ST) : R D := match x with
    | .bl true => a cf σ s1
    | .bl false => b cf σ s1
    | _ => .bad
def dIte (c a b : Den) : Den := fun cf σ st => (c cf σ st).bind (ifD a b cf σ)
def dTup (es : Dens) : Den := fun cf σ st => (es cf σ st).bind fun ds s1 => R.of (tupOf ds) s1
def dLst (es : Dens) : Den := fun cf σ st => (es cf σ st).bind fun ds s1 => R.of (lstOf ds) s1
def idxO (y : D) (s2 : ST) : Option D → R D
    | some x' => R.of (idxD x' y) s2
    | none => .bad
def dIdx (a i : Den) : Den := fun cf σ st => (a cf σ st).bind fun x s1 => (i cf σ s1).bind fun y s2 => idxO y s2 (deref s2 x)
def slO (x : D) (s3 : ST) : Option (Option Int) → Option (Option Int) → R D
    | some l, some h => R.of (slD x l h) s3
    | _, _ => .bad
def dSl (a lo hi : Den) (l h : E) : Den := fun cf σ st => (a cf σ st).bind fun x s1 => (lo cf σ s1).bind fun y s2 => (hi cf σ s2).bind fun z s3 => slO x s3 (bnd l y) (bnd h z)
def revO (x : D) (s1 : ST) : R D := match x with
    | .lst ds => .ok (.lst ds.reverse) s1
    | _ => .bad
def dRev (a : Den) : Den := fun cf σ st => (a cf σ st).bind revO
def dCall (f : Nat) (es : Dens) : Den := fun cf σ st => (es cf σ st).bind fun ds s1 => cf f ds s1
def dBlt (b : Bf) (es : Dens) : Den := fun cf σ st => (es cf σ st).bind fun ds s1 => R.of (bfD b ds) s1
def get1O (y : D) (s2 : ST) (x : D) : R D := match x with
    | .dic ks vs => if D.kfits y ks then .ok ((D.look y ks vs).getD .non) s2 else .bad
    | _ => .bad
def dGet1 (o k : Den) : Den := fun cf σ st => (o cf σ st).bind fun x s1 => (k cf σ s1).bind fun y s2 => get1O y s2 x
def get2O (y z : D) (s3 : ST) (x : D) : R D := match x with
    | .dic ks vs => if D.kfits y ks then .ok ((D.look y ks vs).getD z) s3 else .bad
    | _ => .bad
def dGet2 (o k d : Den) : Den := fun cf σ st => (o cf σ st).bind fun x s1 => (k cf σ s1).bind fun y s2 => (d cf σ s2).bind fun z s3 => get2O y z s3 x
def dDc1 (k v : Den) : Den := fun cf σ st => (k cf σ st).bind fun x s1 => (v cf σ s1).bind fun y s2 => if D.kfits x [] then .ok (.dic [x] [y]) s2 else .bad
def compO (e c : Den) (t : Tg) (own : List Nat) (cf : CF) (σ : Sg) (x : D) (s1 : ST) : R D := match x with
    | .lst ds => (compL t (wipeW σ own) (fun σ' s => c cf σ' s) (fun σ' s => e cf σ' s) ds [] s1).bind fun r s2 => .ok (.lst r) s2
    | _ => .bad
def dComp (e : Den) (t : Tg) (it c : Den) (own : List Nat) : Den := fun cf σ st => (it cf σ st).bind (compO e c t own cf σ)
def dcmpO (k v : Den) (t : Tg) (own : List Nat) (cf : CF) (σ : Sg) (x : D) (s1 : ST) : R D := match x with
    | .lst ds => (dcmpL t (wipeW σ own) (fun σ' s => k cf σ' s) (fun σ' s => v cf σ' s) ds [] [] s1).bind fun r s2 => .ok (.dic r.1 r.2) s2
    | _ => .bad
def dDcmp (k v : Den) (t : Tg) (it : Den) (own : List Nat) : Den := fun cf σ st => (it cf σ st).bind (dcmpO k v t own cf σ)
def rng1O (x : D) (s1 : ST) : R D := match x with
    | .int j => if okRng j then .ok (.lst (rngUp 0 j.toNat)) s1 else .bad
    | _ => .bad
def dRng1 (a : Den) : Den := fun cf σ st => (a cf σ st).bind rng1O
def rng2O (s2 : ST) (x y : D) : R D := match x, y with
    | .int i, .int j => if okRng i && okRng j then .ok (.lst (rngUp i (j - i).toNat)) s2 else .bad
    | _, _ => .bad
def dRng2 (a b : Den) : Den := fun cf σ st => (a cf σ st).bind fun x s1 => (b cf σ s1).bind fun y s2 => rng2O s2 x y
def rngdO (s2 : ST) (x y : D) : R D := match x, y with
    | .int i, .int j => if okRng i && okRng j then .ok (.lst (rngDn i (i - j).toNat)) s2 else .bad
    | _, _ => .bad
def dRngd (a b : Den) : Den := fun cf σ st => (a cf σ st).bind fun x s1 => (b cf σ s1).bind fun y s2 => rngdO s2 x y
def enmO (x : D) (s1 : ST) : R D := match x with
    | .lst ds => .ok (.lst (enumD 0 ds)) s1
    | .tup ds => .ok (.lst (enumD 0 ds)) s1
    | _ => .bad
def dEnm (a : Den) : Den := fun cf σ st => (a cf σ st).bind enmO
def zpO (s2 : ST) (x y : D) : R D := match x, y with
    | .lst xs, .lst ys => .ok (.lst (zipD xs ys)) s2
    | .tup xs, .tup ys => .ok (.lst (zipD xs ys)) s2
    | _, _ => .bad
def dZp (a b : Den) : Den := fun cf σ st => (a cf σ st).bind fun x s1 => (b cf σ s1).bind fun y s2 => zpO s2 x y
def dItv (a : Den) : Den := fun cf σ st => (a cf σ st).bind fun x s1 => R.of ((itemsOf x).map D.lst) s1
def nrfO (x : D) (s1 : ST) : R D := match x with
    | .lst ds => .ok (.rf s1.length) (s1 ++ [.lst ds])
    | .dic ks vs => .ok (.rf s1.length) (s1 ++ [.dic ks vs])
    | _ => .bad
def dNrf (a : Den) : Den := fun cf σ st => (a cf σ st).bind nrfO
def dNil : Dens := fun _ _ st => .ok [] st
def dCons (e : Den) (es : Dens) : Dens := fun cf σ st => (e cf σ st).bind fun d s1 => (es cf σ s1).bind fun ds s2 => .ok (d :: ds) s2
def dBad : Den := fun _ _ _ => .bad
def andO (b : Den) (cf : CF) (σ : Sg) (x : D) (s1 : ST) : R D := match x with
      | .bl true => b cf σ s1
      | .bl false => .ok (.bl false) s1
      | _ => .bad
def dAnd (a b : Den) : Den := fun cf σ st => (a cf σ st).bind (andO b cf σ)
def orO (b : Den) (cf : CF) (σ : Sg) (x : D) (s1 : ST) : R D := match x with
      | .bl false => b cf σ s1
      | .bl true => .ok (.bl true) s1
      | _ => .bad
def dOr (a b : Den) : Den := fun cf σ st => (a cf σ st).bind (orO b cf σ)
mutual
def den : E → Den
  | .cst d => dCst d
  | .var i => dVar i
  | .glc d => dCst d
  | .bin o a b => dBin o (den a) (den b)
  | .neg a => dNeg (den a)
  | .cmp o a b => dCmp o (den a) (den b)
  | .chn o p a b c => dChn o p (den a) (den b) (den c)
  | .ands es => denA es
  | .ors es => denO es
  | .nt a => dNt (den a)
  | .ite c a b => dIte (den c) (den a) (den b)
  | .tup es => dTup (dens es)
  | .lst es => dLst (dens es)
  | .dc0 => dCst (.dic [] [])
  | .dc1 k v => dDc1 (den k) (den v)
  | .idx a i => dIdx (den a) (den i)
  | .sl a lo hi => dSl (den a) (den lo) (den hi) lo hi
  | .rev a => dRev (den a)
  | .call f es => dCall f (dens es)
  | .blt b es => dBlt b (dens es)
  | .get1 o k => dGet1 (den o) (den k)
  | .get2 o k d => dGet2 (den o) (den k) (den d)
  | .comp e t it c own => dComp (den e) t (den it) (den c) own
  | .dcmp k v t it own => dDcmp (den k) (den v) t (den it) own
  | .rng1 a => dRng1 (den a)
  | .rng2 a b => dRng2 (den a) (den b)
  | .rngd a b => dRngd (den a) (den b)
  | .enm a => dEnm (den a)
  | .zp a b => dZp (den a) (den b)
  | .itv a => dItv (den a)
  | .nrf a => dNrf (den a)
def dens : List E → Dens
  | [] => dNil
  | e :: es => dCons (den e) (dens es)
def denA : List E → Den
  | [] => dBad
  | e :: es => match es with
    | [] => den e
    | _ :: _ => dAnd (den e) (denA es)
def denO : List E → Den
  | [] => dBad
  | e :: es => match es with
    | [] => den e
    | _ :: _ => dOr (den e) (denO es)
end
theorem bind_congr {α β : Type} {r : R α} {f g : α → ST → R β} (h : ∀ a s, f a s = g a s) : r.bind f = r.bind g := by
  cases r with
  | ok a s => exact h a s
  | exc _ _ => rfl
  | bad => rfl
mutual
theorem den_eq : ∀ (e : E) (cf : CF) (σ : Sg) (st : ST), den e cf σ st = evE cf e σ st
  | .cst d, cf, σ, st => by rw [den, evE]; rfl
  | .var i, cf, σ, st => by rw [den, evE]; rfl
  | .glc d, cf, σ, st => by rw [den, evE]; rfl
  | .bin o a b, cf, σ, st => by rw [den, evE, dBin, den_eq a]; exact bind_congr fun x s => by rw [den_eq b]
  | .neg a, cf, σ, st => by rw [den, evE, dNeg, den_eq a]; exact bind_congr fun x s => by cases x <;> rfl
  | .cmp o a b, cf, σ, st => by
    rw [den, evE, dCmp, den_eq a]; refine bind_congr fun x s => ?_
    rw [den_eq b]; refine bind_congr fun y s => ?_
    cases deref s x <;> cases deref s y <;> rfl
  | .chn o p a b c, cf, σ, st => by
    rw [den, evE, dChn, den_eq a]; refine bind_congr fun x s => ?_
    rw [den_eq b]; refine bind_congr fun y s => ?_
    cases cpD o x y with
    | none => rfl
    | some k =>
      cases k with
      | false => rfl
      | true => show (den c cf σ s).bind _ = _; rw [den_eq c]
  | .ands es, cf, σ, st => by rw [den, evE]; exact denA_eq es cf σ st
  | .ors es, cf, σ, st => by rw [den, evE]; exact denO_eq es cf σ st
  | .nt a, cf, σ, st => by rw [den, evE, dNt, den_eq a]; exact bind_congr fun x s => by cases x <;> rfl
  | .ite c a b, cf, σ, st => by
    rw [den, evE, dIte, den_eq c]; refine bind_congr fun x s => ?_
    cases x <;> first | rfl | skip
    rename_i k
    cases k with
    | true => exact den_eq a cf σ s
    | false => exact den_eq b cf σ s
  | .tup es, cf, σ, st => by rw [den, evE, dTup, dens_eq es]
  | .lst es, cf, σ, st => by rw [den, evE, dLst, dens_eq es]
  | .dc0, cf, σ, st => by rw [den, evE]; rfl
  | .dc1 k v, cf, σ, st => by rw [den, evE, dDc1, den_eq k]; exact bind_congr fun x s => by rw [den_eq v]
  | .idx a i, cf, σ, st => by
    rw [den, evE, dIdx, den_eq a]; refine bind_congr fun x s => ?_
    rw [den_eq i]; refine bind_congr fun y s => ?_
    cases deref s x <;> rfl
  | .sl a lo hi, cf, σ, st => by
    rw [den, evE, dSl, den_eq a]; refine bind_congr fun x s => ?_
    rw [den_eq lo]; refine bind_congr fun y s => ?_
    rw [den_eq hi]; refine bind_congr fun z s => ?_
    cases bnd lo y <;> cases bnd hi z <;> rfl
  | .rev a, cf, σ, st => by rw [den, evE, dRev, den_eq a]; exact bind_congr fun x s => by cases x <;> rfl
  | .call f es, cf, σ, st => by rw [den, evE, dCall, dens_eq es]
  | .blt b es, cf, σ, st => by rw [den, evE, dBlt, dens_eq es]
  | .get1 o k, cf, σ, st => by
    rw [den, evE, dGet1, den_eq o]; refine bind_congr fun x s => ?_
    rw [den_eq k]; refine bind_congr fun y s => ?_
    cases x <;> rfl
  | .get2 o k d, cf, σ, st => by
    rw [den, evE, dGet2, den_eq o]; refine bind_congr fun x s => ?_
    rw [den_eq k]; refine bind_congr fun y s => ?_
    rw [den_eq d]; refine bind_congr fun z s => ?_
    cases x <;> rfl
  | .comp e t it c own, cf, σ, st => by
    rw [den, evE, dComp, den_eq it]; refine bind_congr fun x s => ?_
    have h1 : (fun σ' s => den c cf σ' s) = fun σ' s => evE cf c σ' s := funext fun σ' => funext fun s => den_eq c cf σ' s
    have h2 : (fun σ' s => den e cf σ' s) = fun σ' s => evE cf e σ' s := funext fun σ' => funext fun s => den_eq e cf σ' s
    unfold compO
    rw [h1, h2]
    all_goals (cases x <;> rfl)
  | .dcmp k v t it own, cf, σ, st => by
    rw [den, evE, dDcmp, den_eq it]; refine bind_congr fun x s => ?_
    have h1 : (fun σ' s => den k cf σ' s) = fun σ' s => evE cf k σ' s := funext fun σ' => funext fun s => den_eq k cf σ' s
    have h2 : (fun σ' s => den v cf σ' s) = fun σ' s => evE cf v σ' s := funext fun σ' => funext fun s => den_eq v cf σ' s
    unfold dcmpO
    rw [h1, h2]
    all_goals (cases x <;> rfl)
  | .rng1 a, cf, σ, st => by rw [den, evE, dRng1, den_eq a]; exact bind_congr fun x s => by cases x <;> rfl
  | .rng2 a b, cf, σ, st => by
    rw [den, evE, dRng2, den_eq a]; refine bind_congr fun x s => ?_
    rw [den_eq b]; exact bind_congr fun y s => by cases x <;> cases y <;> rfl
  | .rngd a b, cf, σ, st => by
    rw [den, evE, dRngd, den_eq a]; refine bind_congr fun x s => ?_
    rw [den_eq b]; exact bind_congr fun y s => by cases x <;> cases y <;> rfl
  | .enm a, cf, σ, st => by rw [den, evE, dEnm, den_eq a]; exact bind_congr fun x s => by cases x <;> rfl
  | .zp a b, cf, σ, st => by
    rw [den, evE, dZp, den_eq a]; refine bind_congr fun x s => ?_
    rw [den_eq b]; exact bind_congr fun y s => by cases x <;> cases y <;> rfl
  | .itv a, cf, σ, st => by rw [den, evE, dItv, den_eq a]
  | .nrf a, cf, σ, st => by rw [den, evE, dNrf, den_eq a]; exact bind_congr fun x s => by cases x <;> rfl
theorem dens_eq : ∀ (es : List E) (cf : CF) (σ : Sg) (st : ST), dens es cf σ st = evEs cf es σ st
  | [], cf, σ, st => by rw [dens, evEs]; rfl
  | e :: es, cf, σ, st => by rw [dens, evEs, dCons, den_eq e]; exact bind_congr fun x s => by rw [dens_eq es]
theorem denA_eq : ∀ (es : List E) (cf : CF) (σ : Sg) (st : ST), denA es cf σ st = evAnds cf es σ st
  | [], cf, σ, st => by rw [denA, evAnds]; rfl
  | [e], cf, σ, st => by rw [denA, evAnds]; exact den_eq e cf σ st
  | e :: e' :: es, cf, σ, st => by
    rw [denA, evAnds]
    show dAnd (den e) (denA (e' :: es)) cf σ st = _
    rw [dAnd, den_eq e]
    refine bind_congr fun x s => ?_
    cases x <;> first | rfl | skip
    rename_i k
    cases k with
    | true => exact denA_eq (e' :: es) cf σ s
    | false => rfl
theorem denO_eq : ∀ (es : List E) (cf : CF) (σ : Sg) (st : ST), denO es cf σ st = evOrs cf es σ st
  | [], cf, σ, st => by rw [denO, evOrs]; rfl
  | [e], cf, σ, st => by rw [denO, evOrs]; exact den_eq e cf σ st
  | e :: e' :: es, cf, σ, st => by
    rw [denO, evOrs]
    show dOr (den e) (denO (e' :: es)) cf σ st = _
    rw [dOr, den_eq e]
    refine bind_congr fun x s => ?_
    cases x <;> first | rfl | skip
    rename_i k
    cases k with
    | true => rfl
    | false => exact denO_eq (e' :: es) cf σ s
end
end PV
end
section
set_option Elab.async false
set_option linter.all false
set_option maxRecDepth 100000
set_option maxHeartbeats 2000000
/-! PvF2: commands by closed parts. -/
namespace PV
open PySem
def cOld (c : C) : CDen := fun lf cf σ st => evC lf cf c σ st
def cSkip : CDen := fun _ _ σ st => .nx σ st
def seqO (b : CDen) (lf : Nat) (cf : CF) (r : RC) : RC := match r with
    | .nx σ' s' => b lf cf σ' s'
    | r => r
def cSeq (a b : CDen) : CDen := fun lf cf σ st => seqO b lf cf (a lf cf σ st)
def wrapB (b : Bool) (d : D) : W := if b then .own d else .val d
def cAsg (i : Nat) (e : Den) (b : Bool) (z : List Nat) : CDen := fun _ cf σ st => (e cf σ st).thn fun d s1 => .nx (setW (frz σ z) i (wrapB b d)) s1
def nxO (s1 : ST) : Option Sg → RC
      | some σ' => .nx σ' s1
      | none => .bad
def unpO (is : List Nat) (z : List Nat) (σ : Sg) (d : D) (s1 : ST) : RC := match d with
    | .tup ds => nxO s1 (setMany (frz σ z) is ds)
    | _ => .bad
def cUnp (is : List Nat) (e : Den) (z : List Nat) : CDen := fun _ cf σ st => (e cf σ st).thn (unpO is z σ)
def wrapsB : List Bool → List D → List W
  | b :: es, d :: ds => wrapB b d :: wrapsB es ds
  | _, _ => []
def cPar (is : List Nat) (es : Dens) (bs : List Bool) (z : List Nat) : CDen := fun _ cf σ st => (es cf σ st).thn fun ds s1 => nxO s1 (setMW (frz σ z) is (wrapsB bs ds))
def cRet (e : Den) : CDen := fun _ cf σ st => (e cf σ st).thn fun d s1 => .ret d s1
def iteO (a b : CDen) (z : List Nat) (lf : Nat) (cf : CF) (σ : Sg) (x : D) (s1 : ST) : RC := match x with
    | .bl true => a lf cf (frz σ z) s1
    | .bl false => b lf cf (frz σ z) s1
    | _ => .bad
def cIte (c : Den) (z : List Nat) (a b : CDen) : CDen := fun lf cf σ st => (c cf σ st).thn (iteO a b z lf cf σ)
def cWhl (c : Den) (z : List Nat) (b : CDen) : CDen := fun lf cf σ st => whileL (fun σ' s => c cf σ' s) (fun σ' => frz σ' z) (fun σ' s => b lf cf σ' s) lf σ st
def forO (t : Tg) (z : List Nat) (b : CDen) (lf : Nat) (cf : CF) (σ : Sg) (x : D) (s1 : ST) : RC := match x with
    | .lst ds => forL t (fun σ' s => b lf cf σ' s) ds (frz σ z) s1
    | _ => .bad
def cFor (t : Tg) (it : Den) (z : List Nat) (b : CDen) : CDen := fun lf cf σ st => (it cf σ st).thn (forO t z b lf cf σ)
def cExs (e : Den) (z : List Nat) : CDen := fun _ cf σ st => (e cf σ st).thn fun _ s1 => .nx (frz σ z) s1
def putO (σ : Sg) (s : ST) (p : Pl) (d : D) : RC := .nx (putAt p d σ s).1 (putAt p d σ s).2
def appO2 (σ : Sg) (s2 : ST) (dv : D) (p : Pl) : D → RC
      | .lst ds => if small ds && !(isRf dv && !p.isCell) then putO σ s2 p (.lst (ds ++ [dv])) else .bad
      | _ => .bad
def appO (σ : Sg) (s2 : ST) (dv : D) : Option Pl → RC
    | some p => appO2 σ s2 dv p p.d
    | none => .bad
def cApp (o : E) (x : Den) (v : Den) (z : List Nat) : CDen := fun _ cf σ st => (x cf σ st).thn fun x s1 => cond (lsP (place o x σ s1)) ((v cf σ s1).thn fun dv s2 => appO (frz σ z) s2 dv (place o x (frz σ z) s2)) .bad
def extO2 (σ : Sg) (s2 : ST) (vs : List D) (p : Pl) : D → RC
      | .lst ds => if small (ds ++ vs) then putO σ s2 p (.lst (ds ++ vs)) else .bad
      | _ => .bad
def extO (σ : Sg) (s2 : ST) : Option Pl → D → RC
    | some p, .lst vs => extO2 σ s2 vs p p.d
    | _, _ => .bad
def cExt (o : E) (x : Den) (v : Den) (z : List Nat) : CDen := fun _ cf σ st => (x cf σ st).thn fun x s1 => cond (lsP (place o x σ s1)) ((v cf σ s1).thn fun dv s2 => extO (frz σ z) s2 (place o x (frz σ z) s2) dv) .bad
def denC : C → CDen
  | .skip => cSkip
  | .seq a b => cSeq (denC a) (denC b)
  | .asg i e z => cAsg i (den e) (frsh e) z
  | .unp is e z => cUnp is (den e) z
  | .par is es z => cPar is (dens es) (es.map frsh) z
  | .ret e => cRet (den e)
  | .ite c z a b => cIte (den c) z (denC a) (denC b)
  | .whl c z b => cWhl (den c) z (denC b)
  | .for_ t it z b => cFor t (den it) z (denC b)
  | .exs e z => cExs (den e) z
  | .app o v z => cApp o (den o) (den v) z
  | .ext o v z => cExt o (den o) (den v) z
  | .sidx o i v z => cOld (.sidx o i v z)
  | .aidx o i op v z => cOld (.aidx o i op v z)
  | .aug i op v z => cOld (.aug i op v z)
  | .popA i o ix z => cOld (.popA i o ix z)
  | .popP j w o ix z => cOld (.popP j w o ix z)
  | .brk => cOld .brk
  | .cnt => cOld .cnt
  | .rse c => cOld (.rse c)
theorem thn_congr {α : Type} {r : R α} {f g : α → ST → RC} (h : ∀ a s, f a s = g a s) : r.thn f = r.thn g := by
  cases r with
  | ok a s => exact h a s
  | exc _ _ => rfl
  | bad => rfl
theorem wrapsB_eq : ∀ (es : List E) (ds : List D), wrapsB (es.map frsh) ds = wraps es ds
  | [], _ => by simp [wrapsB, wraps]
  | _ :: _, [] => by simp [wrapsB, wraps]
  | e :: es, d :: ds => by
    rw [List.map_cons, wrapsB, wraps, wrapsB_eq es ds]; try rfl
theorem denC_eq : ∀ (c : C) (lf : Nat) (cf : CF) (σ : Sg) (st : ST), denC c lf cf σ st = evC lf cf c σ st
  | .skip, lf, cf, σ, st => by rw [denC, evC]; rfl
  | .seq a b, lf, cf, σ, st => by
    rw [denC, evC, cSeq, denC_eq a]
    cases evC lf cf a σ st <;> first | rfl | exact denC_eq b ..
  | .asg i e z, lf, cf, σ, st => by rw [denC, evC, cAsg, den_eq]; rfl
  | .unp is e z, lf, cf, σ, st => by
    rw [denC, evC, cUnp, den_eq]
    refine thn_congr fun d s => ?_
    cases d <;> rfl
  | .par is es z, lf, cf, σ, st => by
    rw [denC, evC, cPar, dens_eq]
    refine thn_congr fun ds s => ?_
    rw [wrapsB_eq]
    cases setMW (frz σ z) is (wraps es ds) <;> rfl
  | .ret e, lf, cf, σ, st => by rw [denC, evC, cRet, den_eq]
  | .ite c z a b, lf, cf, σ, st => by
    rw [denC, evC, cIte, den_eq]
    refine thn_congr fun d s => ?_
    cases d <;> first | rfl | skip
    rename_i k
    cases k with
    | true => exact denC_eq a ..
    | false => exact denC_eq b ..
  | .whl c z b, lf, cf, σ, st => by
    rw [denC, evC, cWhl]
    have h1 : (fun σ' s => den c cf σ' s) = fun σ' s => evE cf c σ' s := funext fun σ' => funext fun s => den_eq c cf σ' s
    have h2 : (fun σ' s => denC b lf cf σ' s) = fun σ' s => evC lf cf b σ' s := funext fun σ' => funext fun s => denC_eq b lf cf σ' s
    rw [h1, h2]
  | .for_ t it z b, lf, cf, σ, st => by
    rw [denC, evC, cFor, den_eq]
    refine thn_congr fun d s => ?_
    have h2 : (fun σ' s => denC b lf cf σ' s) = fun σ' s => evC lf cf b σ' s := funext fun σ' => funext fun s => denC_eq b lf cf σ' s
    unfold forO
    rw [h2]
    all_goals (cases d <;> rfl)
  | .exs e z, lf, cf, σ, st => by rw [denC, evC, cExs, den_eq]
  | .app o v z, lf, cf, σ, st => by
    rw [denC, evC, cApp, den_eq]
    refine thn_congr fun d s => ?_
    cases lsP (place o d σ s) with
    | false => rfl
    | true =>
      rw [if_neg (by simp)]
      show (den v cf σ s).thn _ = _
      rw [den_eq]
      refine thn_congr fun dv s2 => ?_
      cases place o d (frz σ z) s2 with
      | none => rfl
      | some p =>
        show appO2 (frz σ z) s2 dv p p.d = (match p.d with
          | .lst ds => if (small ds && !(isRf dv && !p.isCell)) = true then (let r := putAt p (.lst (ds ++ [dv])) (frz σ z) s2; .nx r.1 r.2) else .bad
          | _ => .bad)
        cases p.d <;> rfl
  | .ext o v z, lf, cf, σ, st => by
    rw [denC, evC, cExt, den_eq]
    refine thn_congr fun d s => ?_
    cases lsP (place o d σ s) with
    | false => rfl
    | true =>
      rw [if_neg (by simp)]
      show (den v cf σ s).thn _ = _
      rw [den_eq]
      refine thn_congr fun dv s2 => ?_
      cases place o d (frz σ z) s2 with
      | none => cases dv <;> rfl
      | some p =>
        cases dv <;> rfl
  | .sidx .., lf, cf, σ, st => by rw [denC]; rfl
  | .aidx .., lf, cf, σ, st => by rw [denC]; rfl
  | .aug .., lf, cf, σ, st => by rw [denC]; rfl
  | .popA .., lf, cf, σ, st => by rw [denC]; rfl
  | .popP .., lf, cf, σ, st => by rw [denC]; rfl
  | .brk, lf, cf, σ, st => by rw [denC]; rfl
  | .cnt, lf, cf, σ, st => by rw [denC]; rfl
  | .rse _, lf, cf, σ, st => by rw [denC]; rfl

/-! ### the table -/
structure FnD where
  np : Nat
  ns : Nat
  body : CDen
def rcR : RC → R D
  | .ret d s => .ok d s
  | .nx _ s => .ok .non s
  | .exc c s => .exc c s
  | _ => .bad
def callO (lf : Nat) (cf : CF) (ds : List D) (st : ST) : Option FnD → R D
  | none => .bad
  | some fn => cond (Nat.beq ds.length fn.np) (rcR (fn.body lf cf (startW fn.ns ds) st)) .bad
def callD (tbl : Nat → Option FnD) (lf : Nat) : Nat → CF
  | 0, _, _, _ => .bad
  | n + 1, f, ds, st => callO lf (callD tbl lf n) ds st (tbl f)
theorem callD_eq {tbl : List Fn} {tbd : Nat → Option FnD} {lf : Nat} (h : ∀ i, tbd i = (tbl[i]?).map fun f => ⟨f.np, f.ns, denC f.body⟩) : ∀ (n f : Nat) (ds : List D) (st : ST), callD tbd lf n f ds st = callF tbl lf n f ds st
  | 0, f, ds, st => rfl
  | n + 1, f, ds, st => by
    have ih : callD tbd lf n = callF tbl lf n := funext fun f => funext fun ds => funext fun st => callD_eq h n f ds st
    rw [callD, callF, h f, ih]
    cases tbl[f]? with
    | none => rfl
    | some fn =>
      show cond (Nat.beq ds.length fn.np) (rcR (denC fn.body lf (callF tbl lf n) (startW fn.ns ds) st)) .bad = (if Nat.beq ds.length fn.np = true then (match evC lf (callF tbl lf n) fn.body (startW fn.ns ds) st with
        | .ret d s => R.ok d s
        | .nx _ s => .ok .non s
        | .exc c s => .exc c s
        | _ => .bad) else .bad)
      rw [denC_eq]
      cases Nat.beq ds.length fn.np with
      | false => rfl
      | true =>
        show rcR _ = (match evC lf (callF tbl lf n) fn.body (startW fn.ns ds) st with
        | .ret d s => R.ok d s
        | .nx _ s => .ok .non s
        | .exc c s => .exc c s
        | _ => .bad)
        cases evC lf (callF tbl lf n) fn.body (startW fn.ns ds) st <;> rfl
end PV
end
section
set_option Elab.async false
set_option linter.all false
set_option maxRecDepth 100000
set_option maxHeartbeats 4000000
/-! Pw1: the draws of a script, in plain terms. -/
namespace PV
open PySem
def cDraw : C := (.seq (.ite (.cmp .gt (.idx (.var 1) (.cst (.int 1))) (.cst (.int 0))) [] (.seq (.asg 5 (.bin .mod (.idx (.var 1) (.cst (.int 1))) (.var 2)) [2]) (.seq (.sidx (.var 1) (.cst (.int 1)) (.bin .fdiv (.idx (.var 1) (.cst (.int 1))) (.var 2)) [2]) (.seq (.ret (.var 5)) .skip))) .skip) (.seq (.asg 3 (.idx (.var 1) (.cst (.int 0))) []) (.seq (.aidx (.var 1) (.cst (.int 0)) .add (.cst (.int 1)) []) (.seq (.ite (.cmp .eq (.var 0) (.lst [])) [] (.seq (.ret (.bin .mod (.var 3) (.var 2))) .skip) .skip) (.seq (.ite (.ands [(.cmp .lt (.var 3) (.blt .len [(.var 0)])), (.cmp .ge (.idx (.var 0) (.var 3)) (.bin .pow (.cst (.int 10)) (.cst (.int 18))))]) [3] (.seq (.sidx (.var 1) (.cst (.int 1)) (.bin .mod (.bin .fdiv (.idx (.var 0) (.var 3)) (.var 2)) (.bin .mul (.bin .pow (.cst (.int 10)) (.cst (.int 60))) (.bin .pow (.cst (.int 10)) (.cst (.int 60))))) [3, 2]) (.seq (.ret (.bin .mod (.idx (.var 0) (.var 3)) (.var 2))) .skip)) .skip) (.seq (.asg 4 (.bin .mod (.bin .add (.bin .add (.bin .mul (.idx (.var 0) (.bin .mod (.var 3) (.blt .len [(.var 0)]))) (.cst (.int 1103515245))) (.bin .mul (.cst (.int 7919)) (.var 3))) (.cst (.int 12345))) (.cst (.int 2147483647))) [3]) (.seq (.ret (.bin .mod (.bin .mod (.bin .mod (.bin .pow (.var 4) (.cst (.int 5))) (.cst (.int 2147483647))) (.cst (.int 999983))) (.var 2))) .skip)))))))
def town (a b : Int) : D := .lst [.int a, .int b]
theorem idx2_0 (a b : Int) : idxD (.lst [.int a, .int b]) (.int 0) = some (.int a) := rfl
theorem idx2_1 (a b : Int) : idxD (.lst [.int a, .int b]) (.int 1) = some (.int b) := rfl
theorem idxScr {ns : List Int} {i : Int} (h0 : 0 ≤ i) (h1 : i < ns.length) : ∃ x, idxD (.scr (ns.map D.int)) (.int i) = some (.int x) := by
  show ∃ x, L2.atI (ns.map D.int) i = some (.int x)
  unfold L2.atI L2.ixN
  rw [if_pos h0, List.length_map, if_pos h1]
  have hl : i.toNat < ns.length := by omega
  refine ⟨ns[i.toNat], ?_⟩
  show (ns.map D.int)[i.toNat]? = _
  rw [List.getElem?_map, List.getElem?_eq_getElem hl]
  rfl
theorem plains_ints : ∀ (n : Nat) (ns : List Int), D.plains n (ns.map D.int) = true
  | n, [] => by cases n <;> rfl
  | n, i :: ns => by
    rw [List.map_cons, D.plains, plains_ints n ns]
    cases n <;> rfl
theorem eqScr (ns : List Int) : eqD (.scr (ns.map D.int)) (.lst []) = some ns.isEmpty := by
  show (if D.plains 60 (ns.map D.int) = true then some (ns.map D.int).isEmpty else none) = _
  rw [plains_ints, if_pos rfl]
  cases ns <;> rfl
theorem draw_ev {cf : CF} {lf : Nat} (ns : List Int) (m : Int) (hm : 0 < m) (hm2 : m < 1073741824) (a b : Int) (ha : 0 ≤ a) (rest : ST) :
    ∃ r a' b', 0 ≤ r ∧ r < m ∧ 0 ≤ a' ∧ evC lf cf cDraw (startW 6 [.scr (ns.map D.int), .rf 0, .int m]) (town a b :: rest) = .ret (.int r) (town a' b' :: rest) := by
  have hs : startW 6 [.scr (ns.map D.int), .rf 0, .int m] = [some (.val (.scr (ns.map D.int))), some (.val (.rf 0)), some (.val (.int m)), none, none, none] := rfl
  rw [hs]
  have hmod : ∀ x : Int, opD .mod (.int x) (.int m) = some (.int (x % m)) := fun x => by simp [opD, hm]
  have hdiv : ∀ x : Int, opD .fdiv (.int x) (.int m) = some (.int (x / m)) := fun x => by simp [opD, hm, hm2]
  have mok : ∀ x : Int, 0 ≤ x % m ∧ x % m < m := fun x => ⟨Int.emod_nonneg x (by omega), Int.emod_lt_of_pos x hm⟩
  by_cases hb : 0 < b
  · refine ⟨b % m, a, b / m, (mok b).1, (mok b).2, ha, ?_⟩
    simp [cDraw, town, evC, evE, R.thn, R.bind, R.of, getW, deref, idx2_1, cpD, hb, hmod, hdiv, setW, frz, wrap, frsh, place, Pl.d, stoD, isRf, Pl.isCell, putAt]
  · have hp18 : opD .pow (.int 10) (.int 18) = some (.int 1000000000000000000) := by decide +kernel
    have hp60 : opD .pow (.int 10) (.int 60) = some (.int 1000000000000000000000000000000000000000000000000000000000000) := by decide +kernel
    have hmm : opD .mul (.int 1000000000000000000000000000000000000000000000000000000000000) (.int 1000000000000000000000000000000000000000000000000000000000000) = some (.int (1000000000000000000000000000000000000000000000000000000000000 * 1000000000000000000000000000000000000000000000000000000000000)) := by decide +kernel
    have hmodC : ∀ x c : Int, 0 < c → opD .mod (.int x) (.int c) = some (.int (x % c)) := fun x c h => by simp [opD, h]
    have hmul1 : ∀ x : Int, opD .mul (.int x) (.int 1103515245) = some (.int (x * 1103515245)) := fun x => by simp [opD, show fits64 1103515245 = true from by decide +kernel]
    have hmul2 : ∀ x : Int, opD .mul (.int 7919) (.int x) = some (.int (7919 * x)) := fun x => by simp [opD, show fits64 7919 = true from by decide +kernel]
    have hadd : ∀ x y : Int, opD .add (.int x) (.int y) = some (.int (x + y)) := fun x y => rfl
    have hpow5 : ∀ x : Int, opD .pow (.int (x % 2147483647)) (.int 5) = some (.int ((x % 2147483647) ^ 5)) := fun x => by
      have h1 : 0 ≤ x % 2147483647 := Int.emod_nonneg x (by omega)
      have h2 : x % 2147483647 < 2147483647 := Int.emod_lt_of_pos x (by omega)
      have h3 : fits64 (x % 2147483647) = true := by
        unfold fits64 big64
        simp only [Bool.and_eq_true, decide_eq_true_eq]
        omega
      simp [opD, h3]
    cases hn : ns with
    | nil =>
      refine ⟨a % m, a + 1, b, (mok a).1, (mok a).2, by omega, ?_⟩
      have e0 : eqD (.scr []) (.lst []) = some true := eqScr []
      simp [cDraw, town, evC, evE, evEs, lstOf, small, lim, R.thn, R.bind, R.of, getW, deref, idx2_1, idx2_0, cpD, hb, hmod, hdiv, setW, frz, wrap, frsh, place, Pl.d, stoD, isRf, Pl.isCell, putAt, idx0, e0]
    | cons n0 ns0 =>
      have hne : (ns.isEmpty) = false := by rw [hn]; rfl
      have hlen : (0 : Int) < ns.length := by rw [hn]; simp
      rw [← hn]
      have e0 : eqD (.scr (ns.map D.int)) (.lst []) = some false := by rw [eqScr, hne]
      have hL : lenD [.scr (ns.map D.int)] = some (.int ns.length) := by
        show some (D.int ((ns.map D.int).length : Nat)) = _
        rw [List.length_map]
      have hmodL : ∀ x : Int, opD .mod (.int x) (.int ns.length) = some (.int (x % ns.length)) := fun x => hmodC x _ hlen
      obtain ⟨y, hy⟩ := idxScr (ns := ns) (i := a % ns.length) (Int.emod_nonneg a (by omega)) (Int.emod_lt_of_pos a hlen)
      have big : ∀ P : Prop, P → P := fun _ h => h
      by_cases hlt : a < ns.length
      · obtain ⟨x, hx⟩ := idxScr ha hlt
        by_cases hge : 1000000000000000000 ≤ x
        · refine ⟨x % m, a + 1, x / m % (1000000000000000000000000000000000000000000000000000000000000 * 1000000000000000000000000000000000000000000000000000000000000), (mok x).1, (mok x).2, by omega, ?_⟩
          simp [cDraw, town, evC, evE, evEs, evAnds, bfD, lstOf, small, lim, R.thn, R.bind, R.of, getW, deref, idx2_1, idx2_0, cpD, hb, hmod, hdiv, setW, frz, wrap, frsh, place, Pl.d, stoD, isRf, Pl.isCell, putAt, idx0, e0, hL, ltD, hlt, hx, hp18, hge, hp60, hmm, hmodC]
        · refine ⟨((y * 1103515245 + 7919 * a + 12345) % 2147483647) ^ 5 % 2147483647 % 999983 % m, a + 1, b, (mok _).1, (mok _).2, by omega, ?_⟩
          simp [cDraw, town, evC, evE, evEs, evAnds, bfD, lstOf, small, lim, R.thn, R.bind, R.of, getW, deref, idx2_1, idx2_0, cpD, hb, hmod, hdiv, setW, frz, wrap, frsh, place, Pl.d, stoD, isRf, Pl.isCell, putAt, idx0, e0, hL, ltD, hlt, hx, hp18, hge, hp60, hmm, hmodL, hy, hmul1, hmul2, hadd, hmodC, hpow5]
      · refine ⟨((y * 1103515245 + 7919 * a + 12345) % 2147483647) ^ 5 % 2147483647 % 999983 % m, a + 1, b, (mok _).1, (mok _).2, by omega, ?_⟩
        simp [cDraw, town, evC, evE, evEs, evAnds, bfD, lstOf, small, lim, R.thn, R.bind, R.of, getW, deref, idx2_1, idx2_0, cpD, hb, hmod, hdiv, setW, frz, wrap, frsh, place, Pl.d, stoD, isRf, Pl.isCell, putAt, idx0, e0, hL, ltD, hlt, hp18, hp60, hmm, hmodL, hy, hmul1, hmul2, hadd, hmodC, hpow5]
theorem draw_ok {tbl : List Fn} {lf n i : Nat} (h : tbl[i]? = some ⟨3, 6, cDraw⟩) (ns : List Int) (m : Int) (hm : 0 < m) (hm2 : m < 1073741824) (a b : Int) (ha : 0 ≤ a) (rest : ST) :
    ∃ r a' b', 0 ≤ r ∧ r < m ∧ 0 ≤ a' ∧ callF tbl lf (n + 1) i [.scr (ns.map D.int), .rf 0, .int m] (town a b :: rest) = .ok (.int r) (town a' b' :: rest) := by
  obtain ⟨r, a', b', h1, h2, h3, e⟩ := draw_ev (cf := callF tbl lf n) (lf := lf) ns m hm hm2 a b ha rest
  refine ⟨r, a', b', h1, h2, h3, ?_⟩
  rw [callF, h]
  dsimp only
  rw [if_pos (by rfl), e]
end PV
end
section
set_option Elab.async false
set_option linter.all false
set_option maxRecDepth 100000
set_option maxHeartbeats 4000000
/-! Pw2: drawn keys, drawn shapes. -/
namespace PV
open PySem
def subs {α : Type} : List α → List (List α)
  | [] => [[]]
  | x :: xs => subs xs ++ (subs xs).map (x :: ·)
/-- the first changing object is the town -/
def Tw (rest st : ST) : Prop := ∃ a b, 0 ≤ a ∧ st = town a b :: rest
theorem comp_draw {rest : ST} {tg : Tg} {σ : Sg} {σd : D → Sg} {fc fe : Sg → ST → R D} (hb : ∀ d, bindT tg d σ = some (σd d)) (hc : ∀ d st, Tw rest st → ∃ b st', Tw rest st' ∧ fc (σd d) st = .ok (.bl b) st') (he : ∀ d st, fe (σd d) st = .ok d st) :
    ∀ (ds acc : List D) (st : ST), Tw rest st → acc.length + ds.length ≤ 1000000 → ∃ ks st', ks ∈ subs ds ∧ Tw rest st' ∧ compL tg σ fc fe ds acc st = .ok (acc ++ ks) st'
  | [], acc, st, h, _ => ⟨[], st, by simp [subs], h, by rw [compL, List.append_nil]⟩
  | d :: ds, acc, st, h, hl => by
    obtain ⟨b, s1, h1, e1⟩ := hc d st h
    rw [compL, hb d]
    simp only [e1, R.bind]
    have hl' : acc.length + (ds.length + 1) ≤ 1000000 := hl
    cases b with
    | false =>
      obtain ⟨ks, s2, k1, k2, k3⟩ := comp_draw hb hc he ds acc s1 h1 (by omega)
      exact ⟨ks, s2, by rw [subs]; exact List.mem_append_left _ k1, k2, k3⟩
    | true =>
      have hs : small acc = true := Nat.ble_eq_true_of_le (by show acc.length ≤ 1000000; omega)
      obtain ⟨ks, s2, k1, k2, k3⟩ := comp_draw hb hc he ds (acc ++ [d]) s1 h1 (by rw [List.length_append, List.length_singleton]; omega)
      simp only [he, hs, if_true]
      exact ⟨d :: ks, s2, by rw [subs]; exact List.mem_append_right _ (List.mem_map_of_mem k1), k2, by rw [k3, List.append_assoc]; rfl⟩
def cSomeKeys (i : Nat) : C := (.seq (.ret (.comp (.var 3) (.one 3) (.rng2 (.cst (.int 1)) (.bin .add (.var 2) (.cst (.int 1)))) (.cmp .gt (.call i [(.var 0), (.var 1), (.cst (.int 3))]) (.cst (.int 0))) [3])) .skip)
theorem rngUp_length : ∀ (n : Nat) (lo : Int), (rngUp lo n).length = n := fun n => by
    induction n with
    | zero => intro lo; rfl
    | succ n ih => intro lo; rw [rngUp, List.length_cons, ih]
theorem some_keys_ok {tbl : List Fn} {lf n i j : Nat} (hi : tbl[i]? = some ⟨3, 6, cDraw⟩) (hj : tbl[j]? = some ⟨3, 4, cSomeKeys i⟩) (ns : List Int) (k : Int) (hk : 0 ≤ k) (hk2 : k < 1000) {rest st : ST} (hst : Tw rest st) :
    ∃ ks st', ks ∈ subs (rngUp 1 k.toNat) ∧ Tw rest st' ∧ callF tbl lf (n + 2) j [.scr (ns.map D.int), .rf 0, .int k] st = .ok (.lst ks) st' := by
  rw [callF, hj]
  dsimp only
  rw [if_pos (by rfl)]
  have hs : startW 4 [.scr (ns.map D.int), .rf 0, .int k] = [some (.val (.scr (ns.map D.int))), some (.val (.rf 0)), some (.val (.int k)), none] := rfl
  rw [hs]
  have hadd : opD .add (.int k) (.int 1) = some (.int (k + 1)) := rfl
  have hr1 : okRng 1 = true := by decide
  have hr2 : okRng (k + 1) = true := by
    unfold okRng
    simp only [Bool.and_eq_true, decide_eq_true_eq]
    omega
  have hkk : (k + 1 - 1).toNat = k.toNat := by congr 1; omega
  obtain ⟨ks, s1, h1, h2, h3⟩ := comp_draw (rest := rest) (tg := .one 3) (σ := [some (.val (.scr (ns.map D.int))), some (.val (.rf 0)), some (.val (.int k)), none])
    (σd := fun d => [some (.val (.scr (ns.map D.int))), some (.val (.rf 0)), some (.val (.int k)), some (.val d)])
    (fc := fun σ' s => evE (callF tbl lf (n + 1)) (.cmp .gt (.call i [(.var 0), (.var 1), (.cst (.int 3))]) (.cst (.int 0))) σ' s) (fe := fun σ' s => evE (callF tbl lf (n + 1)) (.var 3) σ' s)
    (fun d => rfl) (fun d st ⟨a, b, ha, hst⟩ => by
      subst hst
      obtain ⟨r, a', b', _, _, k3, e⟩ := draw_ok (lf := lf) (n := n) hi ns 3 (by decide) (by decide) a b ha rest
      refine ⟨decide (0 < r), _, ⟨a', b', k3, rfl⟩, ?_⟩
      simp [evE, evEs, R.bind, R.of, getW, e, deref, cpD]) (fun d st => rfl) (rngUp 1 k.toNat) [] st hst (by rw [rngUp_length]; simp; omega)
  refine ⟨ks, s1, h1, h2, ?_⟩
  have hw : wipeW [some (W.val (.scr (ns.map D.int))), some (W.val (.rf 0)), some (W.val (.int k)), none] [3] = [some (.val (.scr (ns.map D.int))), some (.val (.rf 0)), some (.val (.int k)), none] := rfl
  have ec : evE (callF tbl lf (n + 1)) (.comp (.var 3) (.one 3) (.rng2 (.cst (.int 1)) (.bin .add (.var 2) (.cst (.int 1)))) (.cmp .gt (.call i [(.var 0), (.var 1), (.cst (.int 3))]) (.cst (.int 0))) [3])
      [some (.val (.scr (ns.map D.int))), some (.val (.rf 0)), some (.val (.int k)), none] st = .ok (.lst ks) s1 := by
    rw [evE]
    have e0 : evE (callF tbl lf (n + 1)) (.rng2 (.cst (.int 1)) (.bin .add (.var 2) (.cst (.int 1)))) [some (.val (.scr (ns.map D.int))), some (.val (.rf 0)), some (.val (.int k)), none] st = .ok (.lst (rngUp 1 k.toNat)) st := by
      simp [evE, R.bind, R.of, getW, hadd, hr1, hr2, hkk]
    rw [e0]
    simp only [R.bind, hw]
    rw [h3]
    rfl
  show (match evC lf _ (cSomeKeys i) _ st with
    | .ret d s => R.ok d s
    | .nx _ s => .ok .non s
    | .exc c s => .exc c s
    | _ => .bad) = _
  rw [cSomeKeys, evC, evC, ec]
  rfl
/-- all shapes with these keys -/
def allS : Nat → List D → List D
  | 0, _ => []
  | _ + 1, [] => [.tup []]
  | n + 1, k :: ks => (List.range (ks.length + 1)).flatMap fun at_ => (allS n ((k :: ks).take at_)).flatMap fun l => (allS n ((k :: ks).drop (at_ + 1))).map fun r => .tup [l, ((k :: ks)[at_]?).getD .non, r]
def cShape (i j : Nat) : C := (.seq (.ite (.cmp .eq (.var 2) (.lst [])) [] (.seq (.ret (.tup [])) .skip) .skip) (.seq (.asg 3 (.call i [(.var 0), (.var 1), (.blt .len [(.var 2)])]) [0, 1]) (.seq (.ret (.tup [(.call j [(.var 0), (.var 1), (.sl (.var 2) (.cst .non) (.var 3))]), (.idx (.var 2) (.var 3)), (.call j [(.var 0), (.var 1), (.sl (.var 2) (.bin .add (.var 3) (.cst (.int 1))) (.cst .non))])])) .skip)))
theorem cut_take (ds : List D) (r : Nat) (h : r ≤ ds.length) : cutD ds none (some (r : Int)) = ds.take r := by
  unfold cutD
  rw [HT.sIx_none, HT.sIx_nat, List.drop_zero, Nat.min_eq_left h, Nat.sub_zero]
theorem cut_drop (ds : List D) (r : Nat) (h : r ≤ ds.length) : cutD ds (some (r : Int)) none = ds.drop r := by
  unfold cutD
  rw [HT.sIx_none, HT.sIx_nat, Nat.min_eq_left h]
  exact List.take_of_length_le (by rw [List.length_drop]; omega)
theorem at_nat (ds : List D) (r : Nat) (h : r < ds.length) : idxD (.lst ds) (.int (r : Int)) = ds[r]? := by
  show L2.atI ds (r : Int) = _
  unfold L2.atI L2.ixN
  rw [if_pos (by omega), if_pos (by omega)]
  rfl
theorem eqNil (ns : List Int) : eqD (.lst (ns.map D.int)) (.lst []) = some ns.isEmpty := by
  show (if (D.plains 59 (ns.map D.int) && true) = true then some (D.eqv (.lst (ns.map D.int)) (.lst [])) else none) = _
  rw [plains_ints]
  cases ns <;> rfl
theorem shape_ok {tbl : List Fn} {lf i j : Nat} (hi : tbl[i]? = some ⟨3, 6, cDraw⟩) (hj : tbl[j]? = some ⟨3, 4, cShape i j⟩) (ns : List Int) {rest : ST} :
    ∀ (n : Nat) (ks : List Int) (st : ST), ks.length < n → ks.length < 1000 → Tw rest st → ∃ s st', s ∈ allS n (ks.map D.int) ∧ Tw rest st' ∧ callF tbl lf (n + 1) j [.scr (ns.map D.int), .rf 0, .lst (ks.map D.int)] st = .ok s st'
  | 0, ks, st, h, _, _ => absurd h (Nat.not_lt_zero _)
  | n + 1, ks, st, h, hl, hst => by
    rw [callF, hj]
    dsimp only
    rw [if_pos (by rfl)]
    have hs : startW 4 [.scr (ns.map D.int), .rf 0, .lst (ks.map D.int)] = [some (.val (.scr (ns.map D.int))), some (.val (.rf 0)), some (.val (.lst (ks.map D.int))), none] := rfl
    rw [hs]
    by_cases hks : ks = []
    · subst hks
      exact ⟨.tup [], st, by simp [allS], hst, rfl⟩
    · have hne : ks.isEmpty = false := by cases ks <;> first | exact absurd rfl hks | rfl
      have heq : eqD (.lst (ks.map D.int)) (.lst []) = some false := by rw [eqNil, hne]
      have hpos : 0 < ks.length := by cases ks <;> first | exact absurd rfl hks | simp
      obtain ⟨a, b, ha, hst⟩ := hst
      subst hst
      obtain ⟨r, a', b', r0, r1, a0, e⟩ := draw_ok (lf := lf) (n := n) hi ns (ks.length : Int) (by omega) (by omega) a b ha rest
      obtain ⟨q, rfl⟩ := Int.eq_ofNat_of_zero_le r0
      have hq : q < ks.length := by omega
      obtain ⟨l, s1, l1, l2, l3⟩ := shape_ok (lf := lf) hi hj ns n (ks.take q) _ (by rw [List.length_take]; omega) (by rw [List.length_take]; omega) ⟨a', b', a0, rfl⟩
      obtain ⟨t, s2, t1, t2, t3⟩ := shape_ok (lf := lf) hi hj ns n (ks.drop (q + 1)) s1 (by rw [List.length_drop]; omega) (by rw [List.length_drop]; omega) l2
      rw [List.map_take] at l1 l3
      rw [List.map_drop] at t1 t3
      refine ⟨.tup [l, .int ks[q], t], s2, ?_, t2, ?_⟩
      · have hx : ((ks.map D.int)[q]?).getD .non = .int ks[q] := by
          rw [List.getElem?_map, List.getElem?_eq_getElem hq]; rfl
        cases hm : ks.map D.int with
        | nil => have := congrArg List.length hm; rw [List.length_map] at this; simp at this; exact absurd this hks
        | cons k0 ks0 =>
          rw [hm] at l1 t1 hx
          have hlen : ks0.length + 1 = ks.length := by have := congrArg List.length hm; rw [List.length_map] at this; simpa using this.symm
          rw [allS]
          refine List.mem_flatMap.mpr ⟨q, List.mem_range.mpr (by omega), List.mem_flatMap.mpr ⟨l, l1, List.mem_map.mpr ⟨t, t1, ?_⟩⟩⟩
          rw [hx]
      · have hL : lenD [.lst (ks.map D.int)] = some (.int ks.length) := by
          show some (D.int ((ks.map D.int).length : Nat)) = _
          rw [List.length_map]
        have hsl1 : slD (.lst (ks.map D.int)) none (some (q : Int)) = some (.lst ((ks.map D.int).take q)) := by
          show some (D.lst _) = _
          rw [cut_take _ _ (by rw [List.length_map]; omega)]
        have hsl2 : slD (.lst (ks.map D.int)) (some ((q : Int) + 1)) none = some (.lst ((ks.map D.int).drop (q + 1))) := by
          show some (D.lst _) = _
          have e1 : ((q : Int) + 1) = ((q + 1 : Nat) : Int) := by omega
          rw [e1, cut_drop _ _ (by rw [List.length_map]; omega)]
        have hix : idxD (.lst (ks.map D.int)) (.int (q : Int)) = some (.int ks[q]) := by
          rw [at_nat _ _ (by rw [List.length_map]; exact hq), List.getElem?_map, List.getElem?_eq_getElem hq]; rfl
        have hadd : opD .add (.int (q : Int)) (.int 1) = some (.int ((q : Int) + 1)) := rfl
        simp [cShape, evC, evE, evEs, R.thn, R.bind, R.of, getW, deref, cpD, heq, lstOf, small, lim, tupOf, setW, frz, wrap, frsh, bfD, hL, e, bnd, hsl1, hsl2, hix, hadd, l3, t3]
end PV
end
section
set_option Elab.async false
set_option linter.all false
set_option maxRecDepth 100000
set_option maxHeartbeats 0
open PySem PySem.Spec PyProof.Rows L2 PV
namespace Lk01
def top (i : Nat) : Stmt := PySem.Challenge.pw_turnedtrees_k01_whole_shapes.main.body.getD i (.Pass ⟨0, 0, 0, 0⟩)
def c0 : C := (.seq (.ret (.ands [(.blt .isInt [(.var 0)]), (.nt (.blt .isBool [(.var 0)])), (.chn .le .le (.var 1) (.var 0) (.var 2))])) .skip)
def c1 : C := (.seq (.ite (.ands [(.cmp .eq (.var 0) (.tup [])), (.blt .isTup [(.var 0)])]) [] (.seq (.ret (.cst (.bl true))) .skip) .skip) (.seq (.ite (.ors [(.nt (.blt .isTup [(.var 0)])), (.cmp .ne (.blt .len [(.var 0)]) (.cst (.int 3))), (.nt (.call 0 [(.idx (.var 0) (.cst (.int 1))), (.var 1), (.var 2)]))]) [1, 2] (.seq (.ret (.cst (.bl false))) .skip) .skip) (.seq (.ret (.ands [(.call 1 [(.idx (.var 0) (.cst (.int 0))), (.var 1), (.bin .sub (.idx (.var 0) (.cst (.int 1))) (.cst (.int 1)))]), (.call 1 [(.idx (.var 0) (.cst (.int 2))), (.bin .add (.idx (.var 0) (.cst (.int 1))) (.cst (.int 1))), (.var 2)])])) .skip)))
def c2 : C := (.seq (.ret (.call 1 [(.var 0), (.cst (.int 1)), (.glc (.int 6))])) .skip)
def c3 : C := (.seq (.ite (.nt (.call 2 [(.var 0)])) [0] (.seq (.rse 1) .skip) .skip) .skip)
def c4 : C := (.seq (.ret (.ite (.cmp .ne (.var 0) (.tup [])) (.bin .add (.bin .add (.call 4 [(.idx (.var 0) (.cst (.int 0)))]) (.lst [(.idx (.var 0) (.cst (.int 1)))])) (.call 4 [(.idx (.var 0) (.cst (.int 2)))])) (.lst []))) .skip)
def c5 : C := (.seq (.ret (.ite (.cmp .ne (.var 0) (.tup [])) (.bin .add (.cst (.int 1)) (.blt .max2 [(.call 5 [(.idx (.var 0) (.cst (.int 0)))]), (.call 5 [(.idx (.var 0) (.cst (.int 2)))])])) (.cst (.int 0)))) .skip)
def c6 : C := (.seq (.ite (.ors [(.cmp .eq (.var 0) (.tup [])), (.cmp .eq (.idx (.var 0) (.cst (.int 1))) (.var 1))]) [] (.seq (.ret (.cst (.int 0))) .skip) .skip) (.seq (.ret (.bin .add (.cst (.int 1)) (.call 6 [(.ite (.cmp .lt (.var 1) (.idx (.var 0) (.cst (.int 1)))) (.idx (.var 0) (.cst (.int 0))) (.idx (.var 0) (.cst (.int 2)))), (.var 1)]))) .skip))
def c7 : C := (.seq (.exs (.call 3 [(.var 0)]) [0]) (.seq (.ret (.call 4 [(.var 0)])) .skip))
def c8 : C := (.seq (.exs (.call 3 [(.var 0)]) [0]) (.seq (.ret (.call 5 [(.var 0)])) .skip))
def c9 : C := (.seq (.ret (.ands [(.call 0 [(.var 1), (.cst (.int 1)), (.glc (.int 6))]), (.cmp .isin (.var 1) (.call 4 [(.var 0)]))])) .skip)
def c10 : C := (.seq (.exs (.call 3 [(.var 0)]) [0]) (.seq (.ite (.nt (.call 9 [(.var 0), (.var 1)])) [0, 1] (.seq (.rse 1) .skip) .skip) (.seq (.ret (.bin .add (.call 6 [(.var 0), (.var 1)]) (.cst (.int 1)))) .skip)))
def c11 : C := (.seq (.ite (.ors [(.nt (.blt .isTup [(.var 0)])), (.cmp .gt (.blt .len [(.var 0)]) (.var 1)), (.nt (.blt .all [(.comp (.call 0 [(.var 2), (.cst (.int 1)), (.glc (.int 6))]) (.one 2) (.itv (.var 0)) (.cst (.bl true)) [2])]))]) [0, 2] (.seq (.rse 1) .skip) .skip) (.seq (.ite (.nt (.blt .all [(.comp (.cmp .lt (.var 3) (.var 4)) (.many [3, 4]) (.zp (.var 0) (.sl (.var 0) (.cst (.int 1)) (.cst .non))) (.cst (.bl true)) [3, 4])])) [0] (.seq (.rse 1) .skip) .skip) .skip))
def c12 : C := (.seq (.ite (.cmp .eq (.blt .len [(.var 0)]) (.cst (.int 0))) [] (.seq (.ret (.lst [(.tup [])])) .skip) .skip) (.seq (.asg 1 (.lst []) []) (.seq (.for_ (.many [2, 3]) (.enm (.var 0)) [0] (.seq (.for_ (.one 4) (.itv (.call 12 [(.sl (.var 0) (.cst .non) (.var 2))])) [2] (.seq (.ext (.var 1) (.comp (.tup [(.var 4), (.var 3), (.var 5)]) (.one 5) (.itv (.call 12 [(.sl (.var 0) (.bin .add (.var 2) (.cst (.int 1))) (.cst .non))])) (.cst (.bl true)) [5]) [2, 4, 3, 5]) .skip)) .skip)) (.seq (.ret (.var 1)) .skip))))
def c13 : C := (.seq (.exs (.call 11 [(.var 0), (.glc (.int 6))]) [0]) (.seq (.ret (.blt .sorted [(.call 12 [(.var 0)])])) .skip))
def c14 : C := (.seq (.ite (.cmp .gt (.idx (.var 1) (.cst (.int 1))) (.cst (.int 0))) [] (.seq (.asg 5 (.bin .mod (.idx (.var 1) (.cst (.int 1))) (.var 2)) [2]) (.seq (.sidx (.var 1) (.cst (.int 1)) (.bin .fdiv (.idx (.var 1) (.cst (.int 1))) (.var 2)) [2]) (.seq (.ret (.var 5)) .skip))) .skip) (.seq (.asg 3 (.idx (.var 1) (.cst (.int 0))) []) (.seq (.aidx (.var 1) (.cst (.int 0)) .add (.cst (.int 1)) []) (.seq (.ite (.cmp .eq (.var 0) (.lst [])) [] (.seq (.ret (.bin .mod (.var 3) (.var 2))) .skip) .skip) (.seq (.ite (.ands [(.cmp .lt (.var 3) (.blt .len [(.var 0)])), (.cmp .ge (.idx (.var 0) (.var 3)) (.bin .pow (.cst (.int 10)) (.cst (.int 18))))]) [3] (.seq (.sidx (.var 1) (.cst (.int 1)) (.bin .mod (.bin .fdiv (.idx (.var 0) (.var 3)) (.var 2)) (.bin .mul (.bin .pow (.cst (.int 10)) (.cst (.int 60))) (.bin .pow (.cst (.int 10)) (.cst (.int 60))))) [3, 2]) (.seq (.ret (.bin .mod (.idx (.var 0) (.var 3)) (.var 2))) .skip)) .skip) (.seq (.asg 4 (.bin .mod (.bin .add (.bin .add (.bin .mul (.idx (.var 0) (.bin .mod (.var 3) (.blt .len [(.var 0)]))) (.cst (.int 1103515245))) (.bin .mul (.cst (.int 7919)) (.var 3))) (.cst (.int 12345))) (.cst (.int 2147483647))) [3]) (.seq (.ret (.bin .mod (.bin .mod (.bin .mod (.bin .pow (.var 4) (.cst (.int 5))) (.cst (.int 2147483647))) (.cst (.int 999983))) (.var 2))) .skip)))))))
def c15 : C := (.seq (.ret (.ite (.cmp .ne (.var 0) (.tup [])) (.bin .add (.cst (.int 1)) (.blt .max2 [(.call 15 [(.idx (.var 0) (.cst (.int 0)))]), (.call 15 [(.idx (.var 0) (.cst (.int 2)))])])) (.cst (.int 0)))) .skip)
def c16 : C := (.seq (.ite (.cmp .eq (.var 0) (.tup [])) [] (.seq (.ret (.lst [])) .skip) .skip) (.seq (.ite (.cmp .eq (.idx (.var 0) (.cst (.int 1))) (.var 1)) [] (.seq (.ret (.lst [(.var 1)])) .skip) .skip) (.seq (.ret (.bin .add (.lst [(.idx (.var 0) (.cst (.int 1)))]) (.call 16 [(.ite (.cmp .lt (.var 1) (.idx (.var 0) (.cst (.int 1)))) (.idx (.var 0) (.cst (.int 0))) (.idx (.var 0) (.cst (.int 2)))), (.var 1)]))) .skip)))
def c17 : C := (.seq (.ite (.cmp .eq (.var 0) (.lst [])) [] (.seq (.ret (.lst [(.tup [])])) .skip) .skip) (.seq (.asg 1 (.lst []) []) (.seq (.for_ (.one 2) (.rng1 (.blt .len [(.var 0)])) [] (.seq (.for_ (.one 3) (.itv (.call 17 [(.sl (.var 0) (.cst .non) (.var 2))])) [2] (.seq (.ext (.var 1) (.comp (.tup [(.var 3), (.idx (.var 0) (.var 2)), (.var 4)]) (.one 4) (.itv (.call 17 [(.sl (.var 0) (.bin .add (.var 2) (.cst (.int 1))) (.cst .non))])) (.cst (.bl true)) [4]) [2, 3, 4]) .skip)) .skip)) (.seq (.ret (.var 1)) .skip))))
def c18 : C := (.seq (.ret (.comp (.var 3) (.one 3) (.rng2 (.cst (.int 1)) (.bin .add (.var 2) (.cst (.int 1)))) (.cmp .gt (.call 14 [(.var 0), (.var 1), (.cst (.int 3))]) (.cst (.int 0))) [3])) .skip)
def c19 : C := (.seq (.ite (.cmp .eq (.var 2) (.lst [])) [] (.seq (.ret (.tup [])) .skip) .skip) (.seq (.asg 3 (.call 14 [(.var 0), (.var 1), (.blt .len [(.var 2)])]) [0, 1]) (.seq (.ret (.tup [(.call 19 [(.var 0), (.var 1), (.sl (.var 2) (.cst .non) (.var 3))]), (.idx (.var 2) (.var 3)), (.call 19 [(.var 0), (.var 1), (.sl (.var 2) (.bin .add (.var 3) (.cst (.int 1))) (.cst .non))])])) .skip)))
def c20 : C := (.seq (.asg 1 (.nrf (.lst [(.cst (.int 0)), (.cst (.int 0))])) []) (.seq (.asg 2 (.call 18 [(.var 0), (.var 1), (.cst (.int 6))]) [0, 1]) (.seq (.ite (.cmp .ne (.call 13 [(.blt .tuple [(.var 2)])]) (.blt .sorted [(.call 17 [(.var 2)])])) [2] (.seq (.ret (.cst (.bl false))) .skip) .skip) (.seq (.ite (.cmp .ne (.blt .len [(.call 17 [(.var 2)])]) (.idx (.tup [(.cst (.int 1)), (.cst (.int 1)), (.cst (.int 2)), (.cst (.int 5)), (.cst (.int 14)), (.cst (.int 42)), (.cst (.int 132))]) (.blt .len [(.var 2)]))) [2] (.seq (.ret (.cst (.bl false))) .skip) .skip) (.seq (.asg 3 (.call 19 [(.var 0), (.var 1), (.var 2)]) [0, 1, 2]) (.seq (.ite (.ors [(.cmp .isnot (.call 2 [(.var 3)]) (.cst (.bl true))), (.cmp .ne (.call 7 [(.var 3)]) (.var 2)), (.cmp .ne (.call 8 [(.var 3)]) (.call 15 [(.var 3)]))]) [3] (.seq (.ret (.cst (.bl false))) .skip) .skip) (.seq (.for_ (.one 4) (.itv (.var 2)) [2] (.seq (.ite (.cmp .ne (.call 10 [(.var 3), (.var 4)]) (.blt .len [(.call 16 [(.var 3), (.var 4)])])) [3, 4] (.seq (.ret (.cst (.bl false))) .skip) .skip) .skip)) (.seq (.asg 5 (.lst [(.tup [(.var 3), (.cst (.int 7)), (.tup [])]), (.tup [(.var 3), (.cst (.int 0)), (.tup [])]), (.ite (.cmp .ne (.var 2) (.lst [])) (.tup [(.var 3), (.idx (.var 2) (.cst (.int 0))), (.tup [])]) (.tup [])), (.lst [(.var 3)])]) [3]) (.seq (.ext (.var 5) (.lst [(.tup [(.var 3)]), (.tup [(.var 3), (.cst (.int 1))])]) [3]) (.seq (.for_ (.one 6) (.itv (.var 5)) [5] (.seq (.ite (.cmp .ne (.call 2 [(.var 6)]) (.cmp .eq (.var 6) (.tup []))) [6] (.seq (.ret (.cst (.bl false))) .skip) .skip) .skip)) (.seq (.ite (.cmp .eq (.var 3) (.tup [])) [] (.seq (.ret (.cst (.bl true))) .skip) .skip) (.seq (.unp [7, 8, 9] (.var 3) [3]) (.seq (.ret (.cmp .eq (.call 2 [(.tup [(.var 9), (.var 8), (.var 7)])]) (.ands [(.cmp .eq (.var 7) (.tup [])), (.cmp .eq (.var 9) (.tup []))]))) .skip)))))))))))))
def f0 : FI := ⟨"is_number", ["value", "least", "most"], ["value", "least", "most"], top 7, ⟨3, 3, c0⟩⟩
def f1 : FI := ⟨"is_between", ["value", "low", "high"], ["value", "low", "high"], top 8, ⟨3, 3, c1⟩⟩
def f2 : FI := ⟨"is_shape", ["candidate"], ["candidate"], top 9, ⟨1, 1, c2⟩⟩
def f3 : FI := ⟨"need_shape", ["value"], ["value"], top 10, ⟨1, 1, c3⟩⟩
def f4 : FI := ⟨"keys_of", ["shape"], ["shape"], top 11, ⟨1, 1, c4⟩⟩
def f5 : FI := ⟨"height_of", ["shape"], ["shape"], top 12, ⟨1, 1, c5⟩⟩
def f6 : FI := ⟨"way_to", ["shape", "key"], ["shape", "key"], top 13, ⟨2, 2, c6⟩⟩
def f7 : FI := ⟨"keys_in", ["shape"], ["shape"], top 14, ⟨1, 1, c7⟩⟩
def f8 : FI := ⟨"height", ["shape"], ["shape"], top 15, ⟨1, 1, c8⟩⟩
def f9 : FI := ⟨"is_there", ["shape", "key"], ["shape", "key"], top 16, ⟨2, 2, c9⟩⟩
def f10 : FI := ⟨"level", ["shape", "key"], ["shape", "key"], top 17, ⟨2, 2, c10⟩⟩
def f11 : FI := ⟨"need_keys", ["value", "most", "key", "one", "other"], ["value", "most"], top 18, ⟨2, 5, c11⟩⟩
def f12 : FI := ⟨"all_shapes", ["keys", "found", "at", "key", "left", "right"], ["keys"], top 19, ⟨1, 6, c12⟩⟩
def f13 : FI := ⟨"shapes_of", ["keys"], ["keys"], top 20, ⟨1, 1, c13⟩⟩
def f14 : FI := ⟨"_law_draw", ["_law_script", "_law_town", "_law_many", "_law_at", "_law_mixed", "_law_one"], ["_law_script", "_law_town", "_law_many"], top 22, ⟨3, 6, c14⟩⟩
def f15 : FI := ⟨"_law_tall", ["_law_shape_here"], ["_law_shape_here"], top 25, ⟨1, 1, c15⟩⟩
def f16 : FI := ⟨"_law_path", ["_law_shape_here", "_law_key"], ["_law_shape_here", "_law_key"], top 26, ⟨2, 2, c16⟩⟩
def f17 : FI := ⟨"_law_all", ["_law_keys_here", "_law_found", "_law_at", "_law_left", "_law_right"], ["_law_keys_here"], top 27, ⟨1, 5, c17⟩⟩
def f18 : FI := ⟨"_law_some_keys", ["_law_script", "_law_town", "_law_most", "_law_key"], ["_law_script", "_law_town", "_law_most"], top 30, ⟨3, 4, c18⟩⟩
def f19 : FI := ⟨"_law_shape", ["_law_script", "_law_town", "_law_keys_here", "_law_at"], ["_law_script", "_law_town", "_law_keys_here"], top 31, ⟨3, 4, c19⟩⟩
def f20 : FI := ⟨"law", ["_law_script", "_law_town", "_law_keys_here", "_law_shape_here", "_law_key", "_law_kinds", "_law_bent", "_law_left", "_law_top", "_law_right"], ["_law_script"], top 32, ⟨1, 10, c20⟩⟩
def fis : List FI := [f0, f1, f2, f3, f4, f5, f6, f7, f8, f9, f10, f11, f12, f13, f14, f15, f16, f17, f18, f19, f20]
def gcs : List (Str × D) := [("MOST", (.int 6))]
theorem ok0 : okF (fis.map (·.name)) gcs f0 = true := by kernel_rfl
theorem ok1 : okF (fis.map (·.name)) gcs f1 = true := by kernel_rfl
theorem ok2 : okF (fis.map (·.name)) gcs f2 = true := by kernel_rfl
theorem ok3 : okF (fis.map (·.name)) gcs f3 = true := by kernel_rfl
theorem ok4 : okF (fis.map (·.name)) gcs f4 = true := by kernel_rfl
theorem ok5 : okF (fis.map (·.name)) gcs f5 = true := by kernel_rfl
theorem ok6 : okF (fis.map (·.name)) gcs f6 = true := by kernel_rfl
theorem ok7 : okF (fis.map (·.name)) gcs f7 = true := by kernel_rfl
theorem ok8 : okF (fis.map (·.name)) gcs f8 = true := by kernel_rfl
theorem ok9 : okF (fis.map (·.name)) gcs f9 = true := by kernel_rfl
theorem ok10 : okF (fis.map (·.name)) gcs f10 = true := by kernel_rfl
theorem ok11 : okF (fis.map (·.name)) gcs f11 = true := by kernel_rfl
theorem ok12 : okF (fis.map (·.name)) gcs f12 = true := by kernel_rfl
theorem ok13 : okF (fis.map (·.name)) gcs f13 = true := by kernel_rfl
theorem ok14 : okF (fis.map (·.name)) gcs f14 = true := by kernel_rfl
theorem ok15 : okF (fis.map (·.name)) gcs f15 = true := by kernel_rfl
theorem ok16 : okF (fis.map (·.name)) gcs f16 = true := by kernel_rfl
theorem ok17 : okF (fis.map (·.name)) gcs f17 = true := by kernel_rfl
theorem ok18 : okF (fis.map (·.name)) gcs f18 = true := by kernel_rfl
theorem ok19 : okF (fis.map (·.name)) gcs f19 = true := by kernel_rfl
theorem ok20 : okF (fis.map (·.name)) gcs f20 = true := by kernel_rfl
theorem okAll : fis.all (okF (fis.map (·.name)) gcs) = true := by
  simp only [fis, List.all_cons, List.all_nil, Bool.and_true]
  rw [show okF (List.map (·.name) [f0, f1, f2, f3, f4, f5, f6, f7, f8, f9, f10, f11, f12, f13, f14, f15, f16, f17, f18, f19, f20]) gcs f0 = true from ok0, show okF (List.map (·.name) [f0, f1, f2, f3, f4, f5, f6, f7, f8, f9, f10, f11, f12, f13, f14, f15, f16, f17, f18, f19, f20]) gcs f1 = true from ok1, show okF (List.map (·.name) [f0, f1, f2, f3, f4, f5, f6, f7, f8, f9, f10, f11, f12, f13, f14, f15, f16, f17, f18, f19, f20]) gcs f2 = true from ok2, show okF (List.map (·.name) [f0, f1, f2, f3, f4, f5, f6, f7, f8, f9, f10, f11, f12, f13, f14, f15, f16, f17, f18, f19, f20]) gcs f3 = true from ok3, show okF (List.map (·.name) [f0, f1, f2, f3, f4, f5, f6, f7, f8, f9, f10, f11, f12, f13, f14, f15, f16, f17, f18, f19, f20]) gcs f4 = true from ok4, show okF (List.map (·.name) [f0, f1, f2, f3, f4, f5, f6, f7, f8, f9, f10, f11, f12, f13, f14, f15, f16, f17, f18, f19, f20]) gcs f5 = true from ok5, show okF (List.map (·.name) [f0, f1, f2, f3, f4, f5, f6, f7, f8, f9, f10, f11, f12, f13, f14, f15, f16, f17, f18, f19, f20]) gcs f6 = true from ok6, show okF (List.map (·.name) [f0, f1, f2, f3, f4, f5, f6, f7, f8, f9, f10, f11, f12, f13, f14, f15, f16, f17, f18, f19, f20]) gcs f7 = true from ok7, show okF (List.map (·.name) [f0, f1, f2, f3, f4, f5, f6, f7, f8, f9, f10, f11, f12, f13, f14, f15, f16, f17, f18, f19, f20]) gcs f8 = true from ok8, show okF (List.map (·.name) [f0, f1, f2, f3, f4, f5, f6, f7, f8, f9, f10, f11, f12, f13, f14, f15, f16, f17, f18, f19, f20]) gcs f9 = true from ok9, show okF (List.map (·.name) [f0, f1, f2, f3, f4, f5, f6, f7, f8, f9, f10, f11, f12, f13, f14, f15, f16, f17, f18, f19, f20]) gcs f10 = true from ok10, show okF (List.map (·.name) [f0, f1, f2, f3, f4, f5, f6, f7, f8, f9, f10, f11, f12, f13, f14, f15, f16, f17, f18, f19, f20]) gcs f11 = true from ok11, show okF (List.map (·.name) [f0, f1, f2, f3, f4, f5, f6, f7, f8, f9, f10, f11, f12, f13, f14, f15, f16, f17, f18, f19, f20]) gcs f12 = true from ok12, show okF (List.map (·.name) [f0, f1, f2, f3, f4, f5, f6, f7, f8, f9, f10, f11, f12, f13, f14, f15, f16, f17, f18, f19, f20]) gcs f13 = true from ok13, show okF (List.map (·.name) [f0, f1, f2, f3, f4, f5, f6, f7, f8, f9, f10, f11, f12, f13, f14, f15, f16, f17, f18, f19, f20]) gcs f14 = true from ok14, show okF (List.map (·.name) [f0, f1, f2, f3, f4, f5, f6, f7, f8, f9, f10, f11, f12, f13, f14, f15, f16, f17, f18, f19, f20]) gcs f15 = true from ok15, show okF (List.map (·.name) [f0, f1, f2, f3, f4, f5, f6, f7, f8, f9, f10, f11, f12, f13, f14, f15, f16, f17, f18, f19, f20]) gcs f16 = true from ok16, show okF (List.map (·.name) [f0, f1, f2, f3, f4, f5, f6, f7, f8, f9, f10, f11, f12, f13, f14, f15, f16, f17, f18, f19, f20]) gcs f17 = true from ok17, show okF (List.map (·.name) [f0, f1, f2, f3, f4, f5, f6, f7, f8, f9, f10, f11, f12, f13, f14, f15, f16, f17, f18, f19, f20]) gcs f18 = true from ok18, show okF (List.map (·.name) [f0, f1, f2, f3, f4, f5, f6, f7, f8, f9, f10, f11, f12, f13, f14, f15, f16, f17, f18, f19, f20]) gcs f19 = true from ok19, show okF (List.map (·.name) [f0, f1, f2, f3, f4, f5, f6, f7, f8, f9, f10, f11, f12, f13, f14, f15, f16, f17, f18, f19, f20]) gcs f20 = true from ok20]
  rfl
def tbl : List Fn := fis.map (·.fn)
def k0 : CDen := (cSeq (cRet (dAnd (dBlt .isInt (dCons (dVar 0) dNil)) (dAnd (dNt (dBlt .isBool (dCons (dVar 0) dNil))) (dChn .le .le (dVar 1) (dVar 0) (dVar 2))))) cSkip)
theorem kc0 : denC c0 = k0 := by kernel_rfl
def k1 : CDen := (cSeq (cIte (dAnd (dCmp .eq (dVar 0) (dTup dNil)) (dBlt .isTup (dCons (dVar 0) dNil))) [] (cSeq (cRet (dCst (.bl true))) cSkip) cSkip) (cSeq (cIte (dOr (dNt (dBlt .isTup (dCons (dVar 0) dNil))) (dOr (dCmp .ne (dBlt .len (dCons (dVar 0) dNil)) (dCst (.int 3))) (dNt (dCall 0 (dCons (dIdx (dVar 0) (dCst (.int 1))) (dCons (dVar 1) (dCons (dVar 2) dNil))))))) [1, 2] (cSeq (cRet (dCst (.bl false))) cSkip) cSkip) (cSeq (cRet (dAnd (dCall 1 (dCons (dIdx (dVar 0) (dCst (.int 0))) (dCons (dVar 1) (dCons (dBin .sub (dIdx (dVar 0) (dCst (.int 1))) (dCst (.int 1))) dNil)))) (dCall 1 (dCons (dIdx (dVar 0) (dCst (.int 2))) (dCons (dBin .add (dIdx (dVar 0) (dCst (.int 1))) (dCst (.int 1))) (dCons (dVar 2) dNil)))))) cSkip)))
theorem kc1 : denC c1 = k1 := by kernel_rfl
def k2 : CDen := (cSeq (cRet (dCall 1 (dCons (dVar 0) (dCons (dCst (.int 1)) (dCons (dCst (.int 6)) dNil))))) cSkip)
theorem kc2 : denC c2 = k2 := by kernel_rfl
def k3 : CDen := (cSeq (cIte (dNt (dCall 2 (dCons (dVar 0) dNil))) [0] (cSeq (cOld (.rse 1)) cSkip) cSkip) cSkip)
theorem kc3 : denC c3 = k3 := by kernel_rfl
def k4 : CDen := (cSeq (cRet (dIte (dCmp .ne (dVar 0) (dTup dNil)) (dBin .add (dBin .add (dCall 4 (dCons (dIdx (dVar 0) (dCst (.int 0))) dNil)) (dLst (dCons (dIdx (dVar 0) (dCst (.int 1))) dNil))) (dCall 4 (dCons (dIdx (dVar 0) (dCst (.int 2))) dNil))) (dLst dNil))) cSkip)
theorem kc4 : denC c4 = k4 := by kernel_rfl
def k5 : CDen := (cSeq (cRet (dIte (dCmp .ne (dVar 0) (dTup dNil)) (dBin .add (dCst (.int 1)) (dBlt .max2 (dCons (dCall 5 (dCons (dIdx (dVar 0) (dCst (.int 0))) dNil)) (dCons (dCall 5 (dCons (dIdx (dVar 0) (dCst (.int 2))) dNil)) dNil)))) (dCst (.int 0)))) cSkip)
theorem kc5 : denC c5 = k5 := by kernel_rfl
def k6 : CDen := (cSeq (cIte (dOr (dCmp .eq (dVar 0) (dTup dNil)) (dCmp .eq (dIdx (dVar 0) (dCst (.int 1))) (dVar 1))) [] (cSeq (cRet (dCst (.int 0))) cSkip) cSkip) (cSeq (cRet (dBin .add (dCst (.int 1)) (dCall 6 (dCons (dIte (dCmp .lt (dVar 1) (dIdx (dVar 0) (dCst (.int 1)))) (dIdx (dVar 0) (dCst (.int 0))) (dIdx (dVar 0) (dCst (.int 2)))) (dCons (dVar 1) dNil))))) cSkip))
theorem kc6 : denC c6 = k6 := by kernel_rfl
def k7 : CDen := (cSeq (cExs (dCall 3 (dCons (dVar 0) dNil)) [0]) (cSeq (cRet (dCall 4 (dCons (dVar 0) dNil))) cSkip))
theorem kc7 : denC c7 = k7 := by kernel_rfl
def k8 : CDen := (cSeq (cExs (dCall 3 (dCons (dVar 0) dNil)) [0]) (cSeq (cRet (dCall 5 (dCons (dVar 0) dNil))) cSkip))
theorem kc8 : denC c8 = k8 := by kernel_rfl
def k9 : CDen := (cSeq (cRet (dAnd (dCall 0 (dCons (dVar 1) (dCons (dCst (.int 1)) (dCons (dCst (.int 6)) dNil)))) (dCmp .isin (dVar 1) (dCall 4 (dCons (dVar 0) dNil))))) cSkip)
theorem kc9 : denC c9 = k9 := by kernel_rfl
def k10 : CDen := (cSeq (cExs (dCall 3 (dCons (dVar 0) dNil)) [0]) (cSeq (cIte (dNt (dCall 9 (dCons (dVar 0) (dCons (dVar 1) dNil)))) [0, 1] (cSeq (cOld (.rse 1)) cSkip) cSkip) (cSeq (cRet (dBin .add (dCall 6 (dCons (dVar 0) (dCons (dVar 1) dNil))) (dCst (.int 1)))) cSkip)))
theorem kc10 : denC c10 = k10 := by kernel_rfl
def k11 : CDen := (cSeq (cIte (dOr (dNt (dBlt .isTup (dCons (dVar 0) dNil))) (dOr (dCmp .gt (dBlt .len (dCons (dVar 0) dNil)) (dVar 1)) (dNt (dBlt .all (dCons (dComp (dCall 0 (dCons (dVar 2) (dCons (dCst (.int 1)) (dCons (dCst (.int 6)) dNil)))) (.one 2) (dItv (dVar 0)) (dCst (.bl true)) [2]) dNil))))) [0, 2] (cSeq (cOld (.rse 1)) cSkip) cSkip) (cSeq (cIte (dNt (dBlt .all (dCons (dComp (dCmp .lt (dVar 3) (dVar 4)) (.many [3, 4]) (dZp (dVar 0) (dSl (dVar 0) (dCst (.int 1)) (dCst .non) (.cst (.int 1)) (.cst .non))) (dCst (.bl true)) [3, 4]) dNil))) [0] (cSeq (cOld (.rse 1)) cSkip) cSkip) cSkip))
theorem kc11 : denC c11 = k11 := by kernel_rfl
def k12 : CDen := (cSeq (cIte (dCmp .eq (dBlt .len (dCons (dVar 0) dNil)) (dCst (.int 0))) [] (cSeq (cRet (dLst (dCons (dTup dNil) dNil))) cSkip) cSkip) (cSeq (cAsg 1 (dLst dNil) true []) (cSeq (cFor (.many [2, 3]) (dEnm (dVar 0)) [0] (cSeq (cFor (.one 4) (dItv (dCall 12 (dCons (dSl (dVar 0) (dCst .non) (dVar 2) (.cst .non) (.var 2)) dNil))) [2] (cSeq (cExt (.var 1) (dVar 1) (dComp (dTup (dCons (dVar 4) (dCons (dVar 3) (dCons (dVar 5) dNil)))) (.one 5) (dItv (dCall 12 (dCons (dSl (dVar 0) (dBin .add (dVar 2) (dCst (.int 1))) (dCst .non) (.bin .add (.var 2) (.cst (.int 1))) (.cst .non)) dNil))) (dCst (.bl true)) [5]) [2, 4, 3, 5]) cSkip)) cSkip)) (cSeq (cRet (dVar 1)) cSkip))))
theorem kc12 : denC c12 = k12 := by kernel_rfl
def k13 : CDen := (cSeq (cExs (dCall 11 (dCons (dVar 0) (dCons (dCst (.int 6)) dNil))) [0]) (cSeq (cRet (dBlt .sorted (dCons (dCall 12 (dCons (dVar 0) dNil)) dNil))) cSkip))
theorem kc13 : denC c13 = k13 := by kernel_rfl
def k14 : CDen := (cSeq (cIte (dCmp .gt (dIdx (dVar 1) (dCst (.int 1))) (dCst (.int 0))) [] (cSeq (cAsg 5 (dBin .mod (dIdx (dVar 1) (dCst (.int 1))) (dVar 2)) false [2]) (cSeq (cOld (.sidx (.var 1) (.cst (.int 1)) (.bin .fdiv (.idx (.var 1) (.cst (.int 1))) (.var 2)) [2])) (cSeq (cRet (dVar 5)) cSkip))) cSkip) (cSeq (cAsg 3 (dIdx (dVar 1) (dCst (.int 0))) false []) (cSeq (cOld (.aidx (.var 1) (.cst (.int 0)) .add (.cst (.int 1)) [])) (cSeq (cIte (dCmp .eq (dVar 0) (dLst dNil)) [] (cSeq (cRet (dBin .mod (dVar 3) (dVar 2))) cSkip) cSkip) (cSeq (cIte (dAnd (dCmp .lt (dVar 3) (dBlt .len (dCons (dVar 0) dNil))) (dCmp .ge (dIdx (dVar 0) (dVar 3)) (dBin .pow (dCst (.int 10)) (dCst (.int 18))))) [3] (cSeq (cOld (.sidx (.var 1) (.cst (.int 1)) (.bin .mod (.bin .fdiv (.idx (.var 0) (.var 3)) (.var 2)) (.bin .mul (.bin .pow (.cst (.int 10)) (.cst (.int 60))) (.bin .pow (.cst (.int 10)) (.cst (.int 60))))) [3, 2])) (cSeq (cRet (dBin .mod (dIdx (dVar 0) (dVar 3)) (dVar 2))) cSkip)) cSkip) (cSeq (cAsg 4 (dBin .mod (dBin .add (dBin .add (dBin .mul (dIdx (dVar 0) (dBin .mod (dVar 3) (dBlt .len (dCons (dVar 0) dNil)))) (dCst (.int 1103515245))) (dBin .mul (dCst (.int 7919)) (dVar 3))) (dCst (.int 12345))) (dCst (.int 2147483647))) false [3]) (cSeq (cRet (dBin .mod (dBin .mod (dBin .mod (dBin .pow (dVar 4) (dCst (.int 5))) (dCst (.int 2147483647))) (dCst (.int 999983))) (dVar 2))) cSkip)))))))
theorem kc14 : denC c14 = k14 := by kernel_rfl
def k15 : CDen := (cSeq (cRet (dIte (dCmp .ne (dVar 0) (dTup dNil)) (dBin .add (dCst (.int 1)) (dBlt .max2 (dCons (dCall 15 (dCons (dIdx (dVar 0) (dCst (.int 0))) dNil)) (dCons (dCall 15 (dCons (dIdx (dVar 0) (dCst (.int 2))) dNil)) dNil)))) (dCst (.int 0)))) cSkip)
theorem kc15 : denC c15 = k15 := by kernel_rfl
def k16 : CDen := (cSeq (cIte (dCmp .eq (dVar 0) (dTup dNil)) [] (cSeq (cRet (dLst dNil)) cSkip) cSkip) (cSeq (cIte (dCmp .eq (dIdx (dVar 0) (dCst (.int 1))) (dVar 1)) [] (cSeq (cRet (dLst (dCons (dVar 1) dNil))) cSkip) cSkip) (cSeq (cRet (dBin .add (dLst (dCons (dIdx (dVar 0) (dCst (.int 1))) dNil)) (dCall 16 (dCons (dIte (dCmp .lt (dVar 1) (dIdx (dVar 0) (dCst (.int 1)))) (dIdx (dVar 0) (dCst (.int 0))) (dIdx (dVar 0) (dCst (.int 2)))) (dCons (dVar 1) dNil))))) cSkip)))
theorem kc16 : denC c16 = k16 := by kernel_rfl
def k17 : CDen := (cSeq (cIte (dCmp .eq (dVar 0) (dLst dNil)) [] (cSeq (cRet (dLst (dCons (dTup dNil) dNil))) cSkip) cSkip) (cSeq (cAsg 1 (dLst dNil) true []) (cSeq (cFor (.one 2) (dRng1 (dBlt .len (dCons (dVar 0) dNil))) [] (cSeq (cFor (.one 3) (dItv (dCall 17 (dCons (dSl (dVar 0) (dCst .non) (dVar 2) (.cst .non) (.var 2)) dNil))) [2] (cSeq (cExt (.var 1) (dVar 1) (dComp (dTup (dCons (dVar 3) (dCons (dIdx (dVar 0) (dVar 2)) (dCons (dVar 4) dNil)))) (.one 4) (dItv (dCall 17 (dCons (dSl (dVar 0) (dBin .add (dVar 2) (dCst (.int 1))) (dCst .non) (.bin .add (.var 2) (.cst (.int 1))) (.cst .non)) dNil))) (dCst (.bl true)) [4]) [2, 3, 4]) cSkip)) cSkip)) (cSeq (cRet (dVar 1)) cSkip))))
theorem kc17 : denC c17 = k17 := by kernel_rfl
def k18 : CDen := (cSeq (cRet (dComp (dVar 3) (.one 3) (dRng2 (dCst (.int 1)) (dBin .add (dVar 2) (dCst (.int 1)))) (dCmp .gt (dCall 14 (dCons (dVar 0) (dCons (dVar 1) (dCons (dCst (.int 3)) dNil)))) (dCst (.int 0))) [3])) cSkip)
theorem kc18 : denC c18 = k18 := by kernel_rfl
def k19 : CDen := (cSeq (cIte (dCmp .eq (dVar 2) (dLst dNil)) [] (cSeq (cRet (dTup dNil)) cSkip) cSkip) (cSeq (cAsg 3 (dCall 14 (dCons (dVar 0) (dCons (dVar 1) (dCons (dBlt .len (dCons (dVar 2) dNil)) dNil)))) false [0, 1]) (cSeq (cRet (dTup (dCons (dCall 19 (dCons (dVar 0) (dCons (dVar 1) (dCons (dSl (dVar 2) (dCst .non) (dVar 3) (.cst .non) (.var 3)) dNil)))) (dCons (dIdx (dVar 2) (dVar 3)) (dCons (dCall 19 (dCons (dVar 0) (dCons (dVar 1) (dCons (dSl (dVar 2) (dBin .add (dVar 3) (dCst (.int 1))) (dCst .non) (.bin .add (.var 3) (.cst (.int 1))) (.cst .non)) dNil)))) dNil))))) cSkip)))
theorem kc19 : denC c19 = k19 := by kernel_rfl
def k20 : CDen := (cSeq (cAsg 1 (dNrf (dLst (dCons (dCst (.int 0)) (dCons (dCst (.int 0)) dNil)))) false []) (cSeq (cAsg 2 (dCall 18 (dCons (dVar 0) (dCons (dVar 1) (dCons (dCst (.int 6)) dNil)))) false [0, 1]) (cSeq (cIte (dCmp .ne (dCall 13 (dCons (dBlt .tuple (dCons (dVar 2) dNil)) dNil)) (dBlt .sorted (dCons (dCall 17 (dCons (dVar 2) dNil)) dNil))) [2] (cSeq (cRet (dCst (.bl false))) cSkip) cSkip) (cSeq (cIte (dCmp .ne (dBlt .len (dCons (dCall 17 (dCons (dVar 2) dNil)) dNil)) (dIdx (dTup (dCons (dCst (.int 1)) (dCons (dCst (.int 1)) (dCons (dCst (.int 2)) (dCons (dCst (.int 5)) (dCons (dCst (.int 14)) (dCons (dCst (.int 42)) (dCons (dCst (.int 132)) dNil)))))))) (dBlt .len (dCons (dVar 2) dNil)))) [2] (cSeq (cRet (dCst (.bl false))) cSkip) cSkip) (cSeq (cAsg 3 (dCall 19 (dCons (dVar 0) (dCons (dVar 1) (dCons (dVar 2) dNil)))) false [0, 1, 2]) (cSeq (cIte (dOr (dCmp .isnot (dCall 2 (dCons (dVar 3) dNil)) (dCst (.bl true))) (dOr (dCmp .ne (dCall 7 (dCons (dVar 3) dNil)) (dVar 2)) (dCmp .ne (dCall 8 (dCons (dVar 3) dNil)) (dCall 15 (dCons (dVar 3) dNil))))) [3] (cSeq (cRet (dCst (.bl false))) cSkip) cSkip) (cSeq (cFor (.one 4) (dItv (dVar 2)) [2] (cSeq (cIte (dCmp .ne (dCall 10 (dCons (dVar 3) (dCons (dVar 4) dNil))) (dBlt .len (dCons (dCall 16 (dCons (dVar 3) (dCons (dVar 4) dNil))) dNil))) [3, 4] (cSeq (cRet (dCst (.bl false))) cSkip) cSkip) cSkip)) (cSeq (cAsg 5 (dLst (dCons (dTup (dCons (dVar 3) (dCons (dCst (.int 7)) (dCons (dTup dNil) dNil)))) (dCons (dTup (dCons (dVar 3) (dCons (dCst (.int 0)) (dCons (dTup dNil) dNil)))) (dCons (dIte (dCmp .ne (dVar 2) (dLst dNil)) (dTup (dCons (dVar 3) (dCons (dIdx (dVar 2) (dCst (.int 0))) (dCons (dTup dNil) dNil)))) (dTup dNil)) (dCons (dLst (dCons (dVar 3) dNil)) dNil))))) true [3]) (cSeq (cExt (.var 5) (dVar 5) (dLst (dCons (dTup (dCons (dVar 3) dNil)) (dCons (dTup (dCons (dVar 3) (dCons (dCst (.int 1)) dNil))) dNil))) [3]) (cSeq (cFor (.one 6) (dItv (dVar 5)) [5] (cSeq (cIte (dCmp .ne (dCall 2 (dCons (dVar 6) dNil)) (dCmp .eq (dVar 6) (dTup dNil))) [6] (cSeq (cRet (dCst (.bl false))) cSkip) cSkip) cSkip)) (cSeq (cIte (dCmp .eq (dVar 3) (dTup dNil)) [] (cSeq (cRet (dCst (.bl true))) cSkip) cSkip) (cSeq (cUnp [7, 8, 9] (dVar 3) [3]) (cSeq (cRet (dCmp .eq (dCall 2 (dCons (dTup (dCons (dVar 9) (dCons (dVar 8) (dCons (dVar 7) dNil)))) dNil)) (dAnd (dCmp .eq (dVar 7) (dTup dNil)) (dCmp .eq (dVar 9) (dTup dNil))))) cSkip)))))))))))))
theorem kc20 : denC c20 = k20 := by kernel_rfl
def tblD : List FnD := [⟨3, 3, k0⟩, ⟨3, 3, k1⟩, ⟨1, 1, k2⟩, ⟨1, 1, k3⟩, ⟨1, 1, k4⟩, ⟨1, 1, k5⟩, ⟨2, 2, k6⟩, ⟨1, 1, k7⟩, ⟨1, 1, k8⟩, ⟨2, 2, k9⟩, ⟨2, 2, k10⟩, ⟨2, 5, k11⟩, ⟨1, 6, k12⟩, ⟨1, 1, k13⟩, ⟨3, 6, k14⟩, ⟨1, 1, k15⟩, ⟨2, 2, k16⟩, ⟨1, 5, k17⟩, ⟨3, 4, k18⟩, ⟨3, 4, k19⟩, ⟨1, 10, k20⟩]
def tbd (i : Nat) : Option FnD := tblD[i]?
theorem tbd_eq (i : Nat) : tbd i = (tbl[i]?).map fun f => ⟨f.np, f.ns, denC f.body⟩ := by
  have e : tbl.map (fun f => (⟨f.np, f.ns, denC f.body⟩ : FnD)) = tblD := by
    show [(⟨3, 3, denC c0⟩ : FnD), (⟨3, 3, denC c1⟩ : FnD), (⟨1, 1, denC c2⟩ : FnD), (⟨1, 1, denC c3⟩ : FnD), (⟨1, 1, denC c4⟩ : FnD), (⟨1, 1, denC c5⟩ : FnD), (⟨2, 2, denC c6⟩ : FnD), (⟨1, 1, denC c7⟩ : FnD), (⟨1, 1, denC c8⟩ : FnD), (⟨2, 2, denC c9⟩ : FnD), (⟨2, 2, denC c10⟩ : FnD), (⟨2, 5, denC c11⟩ : FnD), (⟨1, 6, denC c12⟩ : FnD), (⟨1, 1, denC c13⟩ : FnD), (⟨3, 6, denC c14⟩ : FnD), (⟨1, 1, denC c15⟩ : FnD), (⟨2, 2, denC c16⟩ : FnD), (⟨1, 5, denC c17⟩ : FnD), (⟨3, 4, denC c18⟩ : FnD), (⟨3, 4, denC c19⟩ : FnD), (⟨1, 10, denC c20⟩ : FnD)] = tblD
    rw [kc0, kc1, kc2, kc3, kc4, kc5, kc6, kc7, kc8, kc9, kc10, kc11, kc12, kc13, kc14, kc15, kc16, kc17, kc18, kc19, kc20]
    rfl
  rw [← List.getElem?_map, e]
  rfl
theorem callK (lf n : Nat) : callD tbd lf n = callF tbl lf n := funext fun f => funext fun ds => funext fun st => callD_eq tbd_eq n f ds st
def d0 : He.DefD := ⟨(f0.name, none), f0.name, f0.name, defArgs f0.st, defBody f0.st, defScope f0.st, [], []⟩
def d1 : He.DefD := ⟨(f1.name, none), f1.name, f1.name, defArgs f1.st, defBody f1.st, defScope f1.st, [], []⟩
def d2 : He.DefD := ⟨(f2.name, none), f2.name, f2.name, defArgs f2.st, defBody f2.st, defScope f2.st, [], []⟩
def d3 : He.DefD := ⟨(f3.name, none), f3.name, f3.name, defArgs f3.st, defBody f3.st, defScope f3.st, [], []⟩
def d4 : He.DefD := ⟨(f4.name, none), f4.name, f4.name, defArgs f4.st, defBody f4.st, defScope f4.st, [], []⟩
def d5 : He.DefD := ⟨(f5.name, none), f5.name, f5.name, defArgs f5.st, defBody f5.st, defScope f5.st, [], []⟩
def d6 : He.DefD := ⟨(f6.name, none), f6.name, f6.name, defArgs f6.st, defBody f6.st, defScope f6.st, [], []⟩
def d7 : He.DefD := ⟨(f7.name, none), f7.name, f7.name, defArgs f7.st, defBody f7.st, defScope f7.st, [], []⟩
def d8 : He.DefD := ⟨(f8.name, none), f8.name, f8.name, defArgs f8.st, defBody f8.st, defScope f8.st, [], []⟩
def d9 : He.DefD := ⟨(f9.name, none), f9.name, f9.name, defArgs f9.st, defBody f9.st, defScope f9.st, [], []⟩
def d10 : He.DefD := ⟨(f10.name, none), f10.name, f10.name, defArgs f10.st, defBody f10.st, defScope f10.st, [], []⟩
def d11 : He.DefD := ⟨(f11.name, none), f11.name, f11.name, defArgs f11.st, defBody f11.st, defScope f11.st, [], []⟩
def d12 : He.DefD := ⟨(f12.name, none), f12.name, f12.name, defArgs f12.st, defBody f12.st, defScope f12.st, [], []⟩
def d13 : He.DefD := ⟨(f13.name, none), f13.name, f13.name, defArgs f13.st, defBody f13.st, defScope f13.st, [], []⟩
def d14 : He.DefD := ⟨(f14.name, none), f14.name, f14.name, defArgs f14.st, defBody f14.st, defScope f14.st, [], []⟩
def d15 : He.DefD := ⟨(f15.name, none), f15.name, f15.name, defArgs f15.st, defBody f15.st, defScope f15.st, [], []⟩
def d16 : He.DefD := ⟨(f16.name, none), f16.name, f16.name, defArgs f16.st, defBody f16.st, defScope f16.st, [], []⟩
def d17 : He.DefD := ⟨(f17.name, none), f17.name, f17.name, defArgs f17.st, defBody f17.st, defScope f17.st, [], []⟩
def d18 : He.DefD := ⟨(f18.name, none), f18.name, f18.name, defArgs f18.st, defBody f18.st, defScope f18.st, [], []⟩
def d19 : He.DefD := ⟨(f19.name, none), f19.name, f19.name, defArgs f19.st, defBody f19.st, defScope f19.st, [], []⟩
def d20 : He.DefD := ⟨(f20.name, none), f20.name, f20.name, defArgs f20.st, defBody f20.st, defScope f20.st, [], []⟩
def fn : List He.DefD := [d0, d1, d2, d3, d4, d5, d6, d7, d8, d9, d10, d11, d12, d13, d14, d15, d16, d17, d18, d19, d20]
def fa : List He.Fa := [.glo f0.name, .glo f1.name, .glo f2.name, .glo f3.name, .glo f4.name, .glo f5.name, .glo f6.name, .glo f7.name, .glo f8.name, .glo f9.name, .glo f10.name, .glo f11.name, .glo f12.name, .glo f13.name, .glo f14.name, .glo f15.name, .glo f16.name, .glo f17.name, .glo f18.name, .glo f19.name, .glo f20.name, .free "len", .free "all", .free "any", .free "sorted", .free "list", .free "tuple", .free "max", .free "min", .free "sum", .free "abs", .free "str", .free "int", .free "isinstance", .free "bool", .free "range", .free "enumerate", .free "zip", .int "MOST" 6]
abbrev R : PySem.W.OpenRow := PySem.W.OpenLaw.row PySem.Challenge.rw_turnedtrees_k01_whole_shapes
abbrev hk : PySem.W.Hook := He.hookD 4 fa fn
def ob (s : PySem.W.SharedT) : He.AlD := He.obsDG 4 fa fn (HandSHeadRun.getT s)
theorem ob_eq (s : PySem.W.SharedT) : ob s = hk.obs s.abs := He.obsDG_eq (HandSHeadRun.getT_eq s)
def names0 : List PySem.Str := ["TreeError", "InvalidShape", "InvalidKey", "InvalidKeys", "MOST", "is_number", "is_between", "is_shape", "need_shape", "keys_of", "height_of", "way_to", "keys_in", "height", "is_there", "level", "need_keys", "all_shapes", "shapes_of", "_law_draw", "_law_pick", "_law_keys", "_law_tall", "_law_path", "_law_all", "_law_plant", "_law_order", "_law_some_keys", "_law_shape"]
def names : List PySem.Str := names0
theorem run (w : World) : HandSHeadRun.RunEq R (PySem.W.view R.prog [32]) hk ob 4000 names w := by
  intro os
  kernel_rfl
theorem hd {P : Program} {w : World} {K : PySem.W.Frag} {h : Heap} {mg : Str → Option Value} (X : K.In h) (G : h.Ns mainGlobals mg) (c : He.SaysD fa fn K) : Hd P w K mg fis gcs := by
  refine ⟨fun i fi hi => ?_, fun x d hx => ?_, fun b => ?_, ?_, ?_, ?_, ?_⟩
  · have pt : ∀ (j : Nat) (g : FI) (d : He.DefD), d = ⟨(g.name, none), g.name, g.name, defArgs g.st, defBody g.st, defScope g.st, [], []⟩ → fn[j]? = some d → fa[j]? = some (.glo g.name) → (∀ (kV doc pm : Value) (an : Option Addr) (cdv ct : Value) (us : List Value), us.length = g.ps.length → bindArgs (PySem.W.fnOf g.name g.name (defArgs g.st) (defBody g.st) (defScope g.st) .none kV doc pm an cdv ct) ⟨us, []⟩ = pure (g.ps.zip us)) →
        ∃ f fd, FunD K g.name g.name (defArgs g.st) (defBody g.st) (defScope g.st) [] [] f fd ∧ mg g.name = some (.ref f) ∧ Binds K fd g.ps [] := fun j g d hd h1 h2 hb => by
      subst hd
      obtain ⟨fd, F⟩ := c.def_ j h1
      exact ⟨_, fd, F, He.glo_ok X G (c.fact j h2), FunD.bindsN F hb⟩
    match i, hi with
    | 0, hi => cases hi; exact pt 0 f0 d0 rfl rfl rfl fun _ _ _ _ _ _ us hl => match us, hl with | [_, _, _], _ => rfl
    | 1, hi => cases hi; exact pt 1 f1 d1 rfl rfl rfl fun _ _ _ _ _ _ us hl => match us, hl with | [_, _, _], _ => rfl
    | 2, hi => cases hi; exact pt 2 f2 d2 rfl rfl rfl fun _ _ _ _ _ _ us hl => match us, hl with | [_], _ => rfl
    | 3, hi => cases hi; exact pt 3 f3 d3 rfl rfl rfl fun _ _ _ _ _ _ us hl => match us, hl with | [_], _ => rfl
    | 4, hi => cases hi; exact pt 4 f4 d4 rfl rfl rfl fun _ _ _ _ _ _ us hl => match us, hl with | [_], _ => rfl
    | 5, hi => cases hi; exact pt 5 f5 d5 rfl rfl rfl fun _ _ _ _ _ _ us hl => match us, hl with | [_], _ => rfl
    | 6, hi => cases hi; exact pt 6 f6 d6 rfl rfl rfl fun _ _ _ _ _ _ us hl => match us, hl with | [_, _], _ => rfl
    | 7, hi => cases hi; exact pt 7 f7 d7 rfl rfl rfl fun _ _ _ _ _ _ us hl => match us, hl with | [_], _ => rfl
    | 8, hi => cases hi; exact pt 8 f8 d8 rfl rfl rfl fun _ _ _ _ _ _ us hl => match us, hl with | [_], _ => rfl
    | 9, hi => cases hi; exact pt 9 f9 d9 rfl rfl rfl fun _ _ _ _ _ _ us hl => match us, hl with | [_, _], _ => rfl
    | 10, hi => cases hi; exact pt 10 f10 d10 rfl rfl rfl fun _ _ _ _ _ _ us hl => match us, hl with | [_, _], _ => rfl
    | 11, hi => cases hi; exact pt 11 f11 d11 rfl rfl rfl fun _ _ _ _ _ _ us hl => match us, hl with | [_, _], _ => rfl
    | 12, hi => cases hi; exact pt 12 f12 d12 rfl rfl rfl fun _ _ _ _ _ _ us hl => match us, hl with | [_], _ => rfl
    | 13, hi => cases hi; exact pt 13 f13 d13 rfl rfl rfl fun _ _ _ _ _ _ us hl => match us, hl with | [_], _ => rfl
    | 14, hi => cases hi; exact pt 14 f14 d14 rfl rfl rfl fun _ _ _ _ _ _ us hl => match us, hl with | [_, _, _], _ => rfl
    | 15, hi => cases hi; exact pt 15 f15 d15 rfl rfl rfl fun _ _ _ _ _ _ us hl => match us, hl with | [_], _ => rfl
    | 16, hi => cases hi; exact pt 16 f16 d16 rfl rfl rfl fun _ _ _ _ _ _ us hl => match us, hl with | [_, _], _ => rfl
    | 17, hi => cases hi; exact pt 17 f17 d17 rfl rfl rfl fun _ _ _ _ _ _ us hl => match us, hl with | [_], _ => rfl
    | 18, hi => cases hi; exact pt 18 f18 d18 rfl rfl rfl fun _ _ _ _ _ _ us hl => match us, hl with | [_, _, _], _ => rfl
    | 19, hi => cases hi; exact pt 19 f19 d19 rfl rfl rfl fun _ _ _ _ _ _ us hl => match us, hl with | [_, _, _], _ => rfl
    | 20, hi => cases hi; exact pt 20 f20 d20 rfl rfl rfl fun _ _ _ _ _ _ us hl => match us, hl with | [_], _ => rfl
    | n + 21, hi => cases hi
  · simp only [gcs, List.mem_cons, List.not_mem_nil, or_false, Prod.mk.injEq] at hx
    rcases hx with ⟨rfl, rfl⟩
    · obtain ⟨t, ht⟩ := He.int_ok X G (c.fact 38 (f := .int "MOST" 6) rfl)
      exact ⟨_, .int 6, ht, ⟨t, rfl⟩, fun F ρ => .int _⟩
  · cases b <;> first | exact He.free_ok X G (c.fact 21 (f := .free "len") rfl) | exact He.free_ok X G (c.fact 22 (f := .free "all") rfl) | exact He.free_ok X G (c.fact 23 (f := .free "any") rfl) | exact He.free_ok X G (c.fact 24 (f := .free "sorted") rfl) | exact He.free_ok X G (c.fact 25 (f := .free "list") rfl) | exact He.free_ok X G (c.fact 26 (f := .free "tuple") rfl) | exact He.free_ok X G (c.fact 27 (f := .free "max") rfl) | exact He.free_ok X G (c.fact 28 (f := .free "min") rfl) | exact He.free_ok X G (c.fact 29 (f := .free "sum") rfl) | exact He.free_ok X G (c.fact 30 (f := .free "abs") rfl) | exact He.free_ok X G (c.fact 31 (f := .free "str") rfl) | exact He.free_ok X G (c.fact 32 (f := .free "int") rfl) | exact He.free_ok X G (c.fact 33 (f := .free "isinstance") rfl)
  · exact He.free_ok X G (c.fact 34 (f := .free "bool") rfl)
  · exact He.free_ok X G (c.fact 35 (f := .free "range") rfl)
  · exact He.free_ok X G (c.fact 36 (f := .free "enumerate") rfl)
  · exact He.free_ok X G (c.fact 37 (f := .free "zip") rfl)
theorem facts {P : Program} {w : World} {K : PySem.W.Frag} {h : Heap} {mg : Str → Option Value} {f : Addr} (X : K.In h) (G : h.Ns mainGlobals mg) (hfa : mg ("law" : Str) = some (.ref f)) (c : He.SaysD fa fn K) (n lf : Nat) :
    ∃ fd : FuncData, (∀ (s : Shared) (v : Value), BindsTo s fd ⟨[v], []⟩ [("_law_script", v)]) ∧ ∀ base : Heap, FnOk P w K mg base CX0 n f fd ["_law_script"] (spF P w K (callF tbl lf n) 20) := by
  have H := hd (P := P) (w := w) X G c
  obtain ⟨fd, F⟩ := c.def_ 20 (d := d20) rfl
  have e := hfa.symm.trans (He.glo_ok X G (c.fact 20 (f := .glo "law") rfl))
  cases e
  have b := FunD.bindsA (ps := ["_law_script"]) F fun _ _ _ _ _ _ us hl => match us, hl with | [_], _ => rfl
  exact ⟨fd, fun s v => b s [v] rfl, fun base => table H okAll n 20 f20 rfl _ _ F⟩
theorem law_end (n lf : Nat) (hn : n ≤ 200) (hlaw : ∀ ns : List Int, ns.length ≤ 63 → ∃ st, callF tbl lf n 20 [.scr (ns.map D.int)] [] = .ok (.bl true) st) : PySem.Challenge.rw_turnedtrees_k01_whole_shapes.Holds := by
  w_on; o_law
  refine HandSHeadRun.head_any (r := PySem.W.OpenLaw.row PySem.Challenge.rw_turnedtrees_k01_whole_shapes) (q := PySem.W.view (PySem.W.OpenLaw.row PySem.Challenge.rw_turnedtrees_k01_whole_shapes).prog [32]) (H := hk) (ob := ob) (M := 4000) (loose := names) (d := HandSHeadRun.topDef (PySem.W.OpenLaw.row PySem.Challenge.rw_turnedtrees_k01_whole_shapes).prog 32) (kwd := []) ob_eq
    (by kernel_rfl) (fun s => by kernel_rfl) run (by kernel_rfl) (by kernel_rfl) (by kernel_rfl) (by rfl) (by first | assumption | decide +kernel) (by decide +kernel) ⟨rfl, rfl, rfl, rfl, rfl, by decide +kernel⟩ ?hw ?hc
  case hw => w_witness2
  case hc =>
    refine L2.walk_ofE (l := PySem.Challenge.rw_turnedtrees_k01_whole_shapes) (n := 63) (k := n) (x := "_law_script") (CX := CX0) rfl (by decide) (by kernel_rfl) (room_n hn) ?F (fun _ _ _ _ z => z)
    intro w mg fa h Y G hmg0
    obtain ⟨K, KX, c⟩ := Y
    have hmg : mg ("law" : PySem.Str) = some (.ref fa) := by
      have e : (HandSHeadRun.topDef (PySem.W.OpenLaw.row PySem.Challenge.rw_turnedtrees_k01_whole_shapes).prog 32).name = ("law" : PySem.Str) := by kernel_rfl
      rw [← e]
      exact hmg0
    obtain ⟨fd, hb, hF⟩ := facts (P := (PySem.Challenge.rw_turnedtrees_k01_whole_shapes).prog) (w := w) KX G hmg c n lf
    exact ⟨K, fd, _, KX, hb, fun H a ns hl _ hS => law_sp hS (hlaw ns hl), fun base _ _ => hF base⟩
end Lk01
end
section
set_option Elab.async false
set_option linter.all false
set_option maxRecDepth 100000
set_option maxHeartbeats 0
open PySem PV
namespace Lk01
def isTrue : RC → Bool
  | .ret (.bl true) _ => true
  | _ => false
def cA1 : C := (.ite (.cmp .ne (.call 13 [(.blt .tuple [(.var 2)])]) (.blt .sorted [(.call 17 [(.var 2)])])) [2] (.seq (.ret (.cst (.bl false))) .skip) .skip)
def cA2 : C := (.ite (.cmp .ne (.blt .len [(.call 17 [(.var 2)])]) (.idx (.tup [(.cst (.int 1)), (.cst (.int 1)), (.cst (.int 2)), (.cst (.int 5)), (.cst (.int 14)), (.cst (.int 42)), (.cst (.int 132))]) (.blt .len [(.var 2)]))) [2] (.seq (.ret (.cst (.bl false))) .skip) .skip)
def cRest : C := (.seq (.ite (.ors [(.cmp .isnot (.call 2 [(.var 3)]) (.cst (.bl true))), (.cmp .ne (.call 7 [(.var 3)]) (.var 2)), (.cmp .ne (.call 8 [(.var 3)]) (.call 15 [(.var 3)]))]) [3] (.seq (.ret (.cst (.bl false))) .skip) .skip) (.seq (.for_ (.one 4) (.itv (.var 2)) [2] (.seq (.ite (.cmp .ne (.call 10 [(.var 3), (.var 4)]) (.blt .len [(.call 16 [(.var 3), (.var 4)])])) [3, 4] (.seq (.ret (.cst (.bl false))) .skip) .skip) .skip)) (.seq (.asg 5 (.lst [(.tup [(.var 3), (.cst (.int 7)), (.tup [])]), (.tup [(.var 3), (.cst (.int 0)), (.tup [])]), (.ite (.cmp .ne (.var 2) (.lst [])) (.tup [(.var 3), (.idx (.var 2) (.cst (.int 0))), (.tup [])]) (.tup [])), (.lst [(.var 3)])]) [3]) (.seq (.ext (.var 5) (.lst [(.tup [(.var 3)]), (.tup [(.var 3), (.cst (.int 1))])]) [3]) (.seq (.for_ (.one 6) (.itv (.var 5)) [5] (.seq (.ite (.cmp .ne (.call 2 [(.var 6)]) (.cmp .eq (.var 6) (.tup []))) [6] (.seq (.ret (.cst (.bl false))) .skip) .skip) .skip)) (.seq (.ite (.cmp .eq (.var 3) (.tup [])) [] (.seq (.ret (.cst (.bl true))) .skip) .skip) (.seq (.unp [7, 8, 9] (.var 3) [3]) (.seq (.ret (.cmp .eq (.call 2 [(.tup [(.var 9), (.var 8), (.var 7)])]) (.ands [(.cmp .eq (.var 7) (.tup [])), (.cmp .eq (.var 9) (.tup []))]))) .skip))))))))
def kA1 : CDen := (cIte (dCmp .ne (dCall 13 (dCons (dBlt .tuple (dCons (dVar 2) dNil)) dNil)) (dBlt .sorted (dCons (dCall 17 (dCons (dVar 2) dNil)) dNil))) [2] (cSeq (cRet (dCst (.bl false))) cSkip) cSkip)
def kA2 : CDen := (cIte (dCmp .ne (dBlt .len (dCons (dCall 17 (dCons (dVar 2) dNil)) dNil)) (dIdx (dTup (dCons (dCst (.int 1)) (dCons (dCst (.int 1)) (dCons (dCst (.int 2)) (dCons (dCst (.int 5)) (dCons (dCst (.int 14)) (dCons (dCst (.int 42)) (dCons (dCst (.int 132)) dNil)))))))) (dBlt .len (dCons (dVar 2) dNil)))) [2] (cSeq (cRet (dCst (.bl false))) cSkip) cSkip)
def kRest : CDen := (cSeq (cIte (dOr (dCmp .isnot (dCall 2 (dCons (dVar 3) dNil)) (dCst (.bl true))) (dOr (dCmp .ne (dCall 7 (dCons (dVar 3) dNil)) (dVar 2)) (dCmp .ne (dCall 8 (dCons (dVar 3) dNil)) (dCall 15 (dCons (dVar 3) dNil))))) [3] (cSeq (cRet (dCst (.bl false))) cSkip) cSkip) (cSeq (cFor (.one 4) (dItv (dVar 2)) [2] (cSeq (cIte (dCmp .ne (dCall 10 (dCons (dVar 3) (dCons (dVar 4) dNil))) (dBlt .len (dCons (dCall 16 (dCons (dVar 3) (dCons (dVar 4) dNil))) dNil))) [3, 4] (cSeq (cRet (dCst (.bl false))) cSkip) cSkip) cSkip)) (cSeq (cAsg 5 (dLst (dCons (dTup (dCons (dVar 3) (dCons (dCst (.int 7)) (dCons (dTup dNil) dNil)))) (dCons (dTup (dCons (dVar 3) (dCons (dCst (.int 0)) (dCons (dTup dNil) dNil)))) (dCons (dIte (dCmp .ne (dVar 2) (dLst dNil)) (dTup (dCons (dVar 3) (dCons (dIdx (dVar 2) (dCst (.int 0))) (dCons (dTup dNil) dNil)))) (dTup dNil)) (dCons (dLst (dCons (dVar 3) dNil)) dNil))))) true [3]) (cSeq (cExt (.var 5) (dVar 5) (dLst (dCons (dTup (dCons (dVar 3) dNil)) (dCons (dTup (dCons (dVar 3) (dCons (dCst (.int 1)) dNil))) dNil))) [3]) (cSeq (cFor (.one 6) (dItv (dVar 5)) [5] (cSeq (cIte (dCmp .ne (dCall 2 (dCons (dVar 6) dNil)) (dCmp .eq (dVar 6) (dTup dNil))) [6] (cSeq (cRet (dCst (.bl false))) cSkip) cSkip) cSkip)) (cSeq (cIte (dCmp .eq (dVar 3) (dTup dNil)) [] (cSeq (cRet (dCst (.bl true))) cSkip) cSkip) (cSeq (cUnp [7, 8, 9] (dVar 3) [3]) (cSeq (cRet (dCmp .eq (dCall 2 (dCons (dTup (dCons (dVar 9) (dCons (dVar 8) (dCons (dVar 7) dNil)))) dNil)) (dAnd (dCmp .eq (dVar 7) (dTup dNil)) (dCmp .eq (dVar 9) (dTup dNil))))) cSkip))))))))
def sg (x : D) (ks : List D) : Sg := [some (.val x), some (.val (.rf 0)), some (.val (.lst ks)), none, none, none, none, none, none, none]
def sg2 (x : D) (ks : List D) (s : D) : Sg := [some (.val x), some (.val (.rf 0)), some (.val (.lst ks)), some (.val s), none, none, none, none, none, none]
def chk (x : D) (st : ST) (ks : List D) (s : D) : Bool := isTrue (kRest 0 (callD tbd 0 20) (sg2 x ks s) st)
theorem all_split {α : Type} (n : Nat) (l : List α) (p : α → Bool) (h1 : (l.take n).all p = true) (h2 : (l.drop n).all p = true) : l.all p = true := by
  rw [← List.take_append_drop n l, List.all_append, h1, h2]; rfl
theorem a0 (x : D) (st : ST) : kA1 0 (callD tbd 0 20) (sg x []) st = .nx (sg x []) st := by kernel_rfl
theorem b0 (x : D) (st : ST) : kA2 0 (callD tbd 0 20) (sg x []) st = .nx (sg x []) st := by kernel_rfl
theorem s0 (x : D) (st : ST) : (allS 7 []).all (chk x st []) = true := by kernel_rfl
theorem a1 (x : D) (st : ST) : kA1 0 (callD tbd 0 20) (sg x [.int 6]) st = .nx (sg x [.int 6]) st := by kernel_rfl
theorem b1 (x : D) (st : ST) : kA2 0 (callD tbd 0 20) (sg x [.int 6]) st = .nx (sg x [.int 6]) st := by kernel_rfl
theorem s1 (x : D) (st : ST) : (allS 7 [.int 6]).all (chk x st [.int 6]) = true := by kernel_rfl
theorem a2 (x : D) (st : ST) : kA1 0 (callD tbd 0 20) (sg x [.int 5]) st = .nx (sg x [.int 5]) st := by kernel_rfl
theorem b2 (x : D) (st : ST) : kA2 0 (callD tbd 0 20) (sg x [.int 5]) st = .nx (sg x [.int 5]) st := by kernel_rfl
theorem s2 (x : D) (st : ST) : (allS 7 [.int 5]).all (chk x st [.int 5]) = true := by kernel_rfl
theorem a3 (x : D) (st : ST) : kA1 0 (callD tbd 0 20) (sg x [.int 5, .int 6]) st = .nx (sg x [.int 5, .int 6]) st := by kernel_rfl
theorem b3 (x : D) (st : ST) : kA2 0 (callD tbd 0 20) (sg x [.int 5, .int 6]) st = .nx (sg x [.int 5, .int 6]) st := by kernel_rfl
theorem s3 (x : D) (st : ST) : (allS 7 [.int 5, .int 6]).all (chk x st [.int 5, .int 6]) = true := by kernel_rfl
theorem a4 (x : D) (st : ST) : kA1 0 (callD tbd 0 20) (sg x [.int 4]) st = .nx (sg x [.int 4]) st := by kernel_rfl
theorem b4 (x : D) (st : ST) : kA2 0 (callD tbd 0 20) (sg x [.int 4]) st = .nx (sg x [.int 4]) st := by kernel_rfl
theorem s4 (x : D) (st : ST) : (allS 7 [.int 4]).all (chk x st [.int 4]) = true := by kernel_rfl
theorem a5 (x : D) (st : ST) : kA1 0 (callD tbd 0 20) (sg x [.int 4, .int 6]) st = .nx (sg x [.int 4, .int 6]) st := by kernel_rfl
theorem b5 (x : D) (st : ST) : kA2 0 (callD tbd 0 20) (sg x [.int 4, .int 6]) st = .nx (sg x [.int 4, .int 6]) st := by kernel_rfl
theorem s5 (x : D) (st : ST) : (allS 7 [.int 4, .int 6]).all (chk x st [.int 4, .int 6]) = true := by kernel_rfl
theorem a6 (x : D) (st : ST) : kA1 0 (callD tbd 0 20) (sg x [.int 4, .int 5]) st = .nx (sg x [.int 4, .int 5]) st := by kernel_rfl
theorem b6 (x : D) (st : ST) : kA2 0 (callD tbd 0 20) (sg x [.int 4, .int 5]) st = .nx (sg x [.int 4, .int 5]) st := by kernel_rfl
theorem s6 (x : D) (st : ST) : (allS 7 [.int 4, .int 5]).all (chk x st [.int 4, .int 5]) = true := by kernel_rfl
theorem a7 (x : D) (st : ST) : kA1 0 (callD tbd 0 20) (sg x [.int 4, .int 5, .int 6]) st = .nx (sg x [.int 4, .int 5, .int 6]) st := by kernel_rfl
theorem b7 (x : D) (st : ST) : kA2 0 (callD tbd 0 20) (sg x [.int 4, .int 5, .int 6]) st = .nx (sg x [.int 4, .int 5, .int 6]) st := by kernel_rfl
theorem s7 (x : D) (st : ST) : (allS 7 [.int 4, .int 5, .int 6]).all (chk x st [.int 4, .int 5, .int 6]) = true := by kernel_rfl
theorem a8 (x : D) (st : ST) : kA1 0 (callD tbd 0 20) (sg x [.int 3]) st = .nx (sg x [.int 3]) st := by kernel_rfl
theorem b8 (x : D) (st : ST) : kA2 0 (callD tbd 0 20) (sg x [.int 3]) st = .nx (sg x [.int 3]) st := by kernel_rfl
theorem s8 (x : D) (st : ST) : (allS 7 [.int 3]).all (chk x st [.int 3]) = true := by kernel_rfl
theorem a9 (x : D) (st : ST) : kA1 0 (callD tbd 0 20) (sg x [.int 3, .int 6]) st = .nx (sg x [.int 3, .int 6]) st := by kernel_rfl
theorem b9 (x : D) (st : ST) : kA2 0 (callD tbd 0 20) (sg x [.int 3, .int 6]) st = .nx (sg x [.int 3, .int 6]) st := by kernel_rfl
theorem s9 (x : D) (st : ST) : (allS 7 [.int 3, .int 6]).all (chk x st [.int 3, .int 6]) = true := by kernel_rfl
theorem a10 (x : D) (st : ST) : kA1 0 (callD tbd 0 20) (sg x [.int 3, .int 5]) st = .nx (sg x [.int 3, .int 5]) st := by kernel_rfl
theorem b10 (x : D) (st : ST) : kA2 0 (callD tbd 0 20) (sg x [.int 3, .int 5]) st = .nx (sg x [.int 3, .int 5]) st := by kernel_rfl
theorem s10 (x : D) (st : ST) : (allS 7 [.int 3, .int 5]).all (chk x st [.int 3, .int 5]) = true := by kernel_rfl
theorem a11 (x : D) (st : ST) : kA1 0 (callD tbd 0 20) (sg x [.int 3, .int 5, .int 6]) st = .nx (sg x [.int 3, .int 5, .int 6]) st := by kernel_rfl
theorem b11 (x : D) (st : ST) : kA2 0 (callD tbd 0 20) (sg x [.int 3, .int 5, .int 6]) st = .nx (sg x [.int 3, .int 5, .int 6]) st := by kernel_rfl
theorem s11 (x : D) (st : ST) : (allS 7 [.int 3, .int 5, .int 6]).all (chk x st [.int 3, .int 5, .int 6]) = true := by kernel_rfl
theorem a12 (x : D) (st : ST) : kA1 0 (callD tbd 0 20) (sg x [.int 3, .int 4]) st = .nx (sg x [.int 3, .int 4]) st := by kernel_rfl
theorem b12 (x : D) (st : ST) : kA2 0 (callD tbd 0 20) (sg x [.int 3, .int 4]) st = .nx (sg x [.int 3, .int 4]) st := by kernel_rfl
theorem s12 (x : D) (st : ST) : (allS 7 [.int 3, .int 4]).all (chk x st [.int 3, .int 4]) = true := by kernel_rfl
theorem a13 (x : D) (st : ST) : kA1 0 (callD tbd 0 20) (sg x [.int 3, .int 4, .int 6]) st = .nx (sg x [.int 3, .int 4, .int 6]) st := by kernel_rfl
theorem b13 (x : D) (st : ST) : kA2 0 (callD tbd 0 20) (sg x [.int 3, .int 4, .int 6]) st = .nx (sg x [.int 3, .int 4, .int 6]) st := by kernel_rfl
theorem s13 (x : D) (st : ST) : (allS 7 [.int 3, .int 4, .int 6]).all (chk x st [.int 3, .int 4, .int 6]) = true := by kernel_rfl
theorem a14 (x : D) (st : ST) : kA1 0 (callD tbd 0 20) (sg x [.int 3, .int 4, .int 5]) st = .nx (sg x [.int 3, .int 4, .int 5]) st := by kernel_rfl
theorem b14 (x : D) (st : ST) : kA2 0 (callD tbd 0 20) (sg x [.int 3, .int 4, .int 5]) st = .nx (sg x [.int 3, .int 4, .int 5]) st := by kernel_rfl
theorem s14 (x : D) (st : ST) : (allS 7 [.int 3, .int 4, .int 5]).all (chk x st [.int 3, .int 4, .int 5]) = true := by kernel_rfl
theorem a15 (x : D) (st : ST) : kA1 0 (callD tbd 0 20) (sg x [.int 3, .int 4, .int 5, .int 6]) st = .nx (sg x [.int 3, .int 4, .int 5, .int 6]) st := by kernel_rfl
theorem b15 (x : D) (st : ST) : kA2 0 (callD tbd 0 20) (sg x [.int 3, .int 4, .int 5, .int 6]) st = .nx (sg x [.int 3, .int 4, .int 5, .int 6]) st := by kernel_rfl
theorem s15 (x : D) (st : ST) : (allS 7 [.int 3, .int 4, .int 5, .int 6]).all (chk x st [.int 3, .int 4, .int 5, .int 6]) = true := by kernel_rfl
theorem a16 (x : D) (st : ST) : kA1 0 (callD tbd 0 20) (sg x [.int 2]) st = .nx (sg x [.int 2]) st := by kernel_rfl
theorem b16 (x : D) (st : ST) : kA2 0 (callD tbd 0 20) (sg x [.int 2]) st = .nx (sg x [.int 2]) st := by kernel_rfl
theorem s16 (x : D) (st : ST) : (allS 7 [.int 2]).all (chk x st [.int 2]) = true := by kernel_rfl
theorem a17 (x : D) (st : ST) : kA1 0 (callD tbd 0 20) (sg x [.int 2, .int 6]) st = .nx (sg x [.int 2, .int 6]) st := by kernel_rfl
theorem b17 (x : D) (st : ST) : kA2 0 (callD tbd 0 20) (sg x [.int 2, .int 6]) st = .nx (sg x [.int 2, .int 6]) st := by kernel_rfl
theorem s17 (x : D) (st : ST) : (allS 7 [.int 2, .int 6]).all (chk x st [.int 2, .int 6]) = true := by kernel_rfl
theorem a18 (x : D) (st : ST) : kA1 0 (callD tbd 0 20) (sg x [.int 2, .int 5]) st = .nx (sg x [.int 2, .int 5]) st := by kernel_rfl
theorem b18 (x : D) (st : ST) : kA2 0 (callD tbd 0 20) (sg x [.int 2, .int 5]) st = .nx (sg x [.int 2, .int 5]) st := by kernel_rfl
theorem s18 (x : D) (st : ST) : (allS 7 [.int 2, .int 5]).all (chk x st [.int 2, .int 5]) = true := by kernel_rfl
theorem a19 (x : D) (st : ST) : kA1 0 (callD tbd 0 20) (sg x [.int 2, .int 5, .int 6]) st = .nx (sg x [.int 2, .int 5, .int 6]) st := by kernel_rfl
theorem b19 (x : D) (st : ST) : kA2 0 (callD tbd 0 20) (sg x [.int 2, .int 5, .int 6]) st = .nx (sg x [.int 2, .int 5, .int 6]) st := by kernel_rfl
theorem s19 (x : D) (st : ST) : (allS 7 [.int 2, .int 5, .int 6]).all (chk x st [.int 2, .int 5, .int 6]) = true := by kernel_rfl
theorem a20 (x : D) (st : ST) : kA1 0 (callD tbd 0 20) (sg x [.int 2, .int 4]) st = .nx (sg x [.int 2, .int 4]) st := by kernel_rfl
theorem b20 (x : D) (st : ST) : kA2 0 (callD tbd 0 20) (sg x [.int 2, .int 4]) st = .nx (sg x [.int 2, .int 4]) st := by kernel_rfl
theorem s20 (x : D) (st : ST) : (allS 7 [.int 2, .int 4]).all (chk x st [.int 2, .int 4]) = true := by kernel_rfl
theorem a21 (x : D) (st : ST) : kA1 0 (callD tbd 0 20) (sg x [.int 2, .int 4, .int 6]) st = .nx (sg x [.int 2, .int 4, .int 6]) st := by kernel_rfl
theorem b21 (x : D) (st : ST) : kA2 0 (callD tbd 0 20) (sg x [.int 2, .int 4, .int 6]) st = .nx (sg x [.int 2, .int 4, .int 6]) st := by kernel_rfl
theorem s21 (x : D) (st : ST) : (allS 7 [.int 2, .int 4, .int 6]).all (chk x st [.int 2, .int 4, .int 6]) = true := by kernel_rfl
theorem a22 (x : D) (st : ST) : kA1 0 (callD tbd 0 20) (sg x [.int 2, .int 4, .int 5]) st = .nx (sg x [.int 2, .int 4, .int 5]) st := by kernel_rfl
theorem b22 (x : D) (st : ST) : kA2 0 (callD tbd 0 20) (sg x [.int 2, .int 4, .int 5]) st = .nx (sg x [.int 2, .int 4, .int 5]) st := by kernel_rfl
theorem s22 (x : D) (st : ST) : (allS 7 [.int 2, .int 4, .int 5]).all (chk x st [.int 2, .int 4, .int 5]) = true := by kernel_rfl
theorem a23 (x : D) (st : ST) : kA1 0 (callD tbd 0 20) (sg x [.int 2, .int 4, .int 5, .int 6]) st = .nx (sg x [.int 2, .int 4, .int 5, .int 6]) st := by kernel_rfl
theorem b23 (x : D) (st : ST) : kA2 0 (callD tbd 0 20) (sg x [.int 2, .int 4, .int 5, .int 6]) st = .nx (sg x [.int 2, .int 4, .int 5, .int 6]) st := by kernel_rfl
theorem s23 (x : D) (st : ST) : (allS 7 [.int 2, .int 4, .int 5, .int 6]).all (chk x st [.int 2, .int 4, .int 5, .int 6]) = true := by kernel_rfl
theorem a24 (x : D) (st : ST) : kA1 0 (callD tbd 0 20) (sg x [.int 2, .int 3]) st = .nx (sg x [.int 2, .int 3]) st := by kernel_rfl
theorem b24 (x : D) (st : ST) : kA2 0 (callD tbd 0 20) (sg x [.int 2, .int 3]) st = .nx (sg x [.int 2, .int 3]) st := by kernel_rfl
theorem s24 (x : D) (st : ST) : (allS 7 [.int 2, .int 3]).all (chk x st [.int 2, .int 3]) = true := by kernel_rfl
theorem a25 (x : D) (st : ST) : kA1 0 (callD tbd 0 20) (sg x [.int 2, .int 3, .int 6]) st = .nx (sg x [.int 2, .int 3, .int 6]) st := by kernel_rfl
theorem b25 (x : D) (st : ST) : kA2 0 (callD tbd 0 20) (sg x [.int 2, .int 3, .int 6]) st = .nx (sg x [.int 2, .int 3, .int 6]) st := by kernel_rfl
theorem s25 (x : D) (st : ST) : (allS 7 [.int 2, .int 3, .int 6]).all (chk x st [.int 2, .int 3, .int 6]) = true := by kernel_rfl
theorem a26 (x : D) (st : ST) : kA1 0 (callD tbd 0 20) (sg x [.int 2, .int 3, .int 5]) st = .nx (sg x [.int 2, .int 3, .int 5]) st := by kernel_rfl
theorem b26 (x : D) (st : ST) : kA2 0 (callD tbd 0 20) (sg x [.int 2, .int 3, .int 5]) st = .nx (sg x [.int 2, .int 3, .int 5]) st := by kernel_rfl
theorem s26 (x : D) (st : ST) : (allS 7 [.int 2, .int 3, .int 5]).all (chk x st [.int 2, .int 3, .int 5]) = true := by kernel_rfl
theorem a27 (x : D) (st : ST) : kA1 0 (callD tbd 0 20) (sg x [.int 2, .int 3, .int 5, .int 6]) st = .nx (sg x [.int 2, .int 3, .int 5, .int 6]) st := by kernel_rfl
theorem b27 (x : D) (st : ST) : kA2 0 (callD tbd 0 20) (sg x [.int 2, .int 3, .int 5, .int 6]) st = .nx (sg x [.int 2, .int 3, .int 5, .int 6]) st := by kernel_rfl
theorem s27 (x : D) (st : ST) : (allS 7 [.int 2, .int 3, .int 5, .int 6]).all (chk x st [.int 2, .int 3, .int 5, .int 6]) = true := by kernel_rfl
theorem a28 (x : D) (st : ST) : kA1 0 (callD tbd 0 20) (sg x [.int 2, .int 3, .int 4]) st = .nx (sg x [.int 2, .int 3, .int 4]) st := by kernel_rfl
theorem b28 (x : D) (st : ST) : kA2 0 (callD tbd 0 20) (sg x [.int 2, .int 3, .int 4]) st = .nx (sg x [.int 2, .int 3, .int 4]) st := by kernel_rfl
theorem s28 (x : D) (st : ST) : (allS 7 [.int 2, .int 3, .int 4]).all (chk x st [.int 2, .int 3, .int 4]) = true := by kernel_rfl
theorem a29 (x : D) (st : ST) : kA1 0 (callD tbd 0 20) (sg x [.int 2, .int 3, .int 4, .int 6]) st = .nx (sg x [.int 2, .int 3, .int 4, .int 6]) st := by kernel_rfl
theorem b29 (x : D) (st : ST) : kA2 0 (callD tbd 0 20) (sg x [.int 2, .int 3, .int 4, .int 6]) st = .nx (sg x [.int 2, .int 3, .int 4, .int 6]) st := by kernel_rfl
theorem s29 (x : D) (st : ST) : (allS 7 [.int 2, .int 3, .int 4, .int 6]).all (chk x st [.int 2, .int 3, .int 4, .int 6]) = true := by kernel_rfl
theorem a30 (x : D) (st : ST) : kA1 0 (callD tbd 0 20) (sg x [.int 2, .int 3, .int 4, .int 5]) st = .nx (sg x [.int 2, .int 3, .int 4, .int 5]) st := by kernel_rfl
theorem b30 (x : D) (st : ST) : kA2 0 (callD tbd 0 20) (sg x [.int 2, .int 3, .int 4, .int 5]) st = .nx (sg x [.int 2, .int 3, .int 4, .int 5]) st := by kernel_rfl
theorem s30 (x : D) (st : ST) : (allS 7 [.int 2, .int 3, .int 4, .int 5]).all (chk x st [.int 2, .int 3, .int 4, .int 5]) = true := by kernel_rfl
theorem a31 (x : D) (st : ST) : kA1 0 (callD tbd 0 20) (sg x [.int 2, .int 3, .int 4, .int 5, .int 6]) st = .nx (sg x [.int 2, .int 3, .int 4, .int 5, .int 6]) st := by kernel_rfl
theorem b31 (x : D) (st : ST) : kA2 0 (callD tbd 0 20) (sg x [.int 2, .int 3, .int 4, .int 5, .int 6]) st = .nx (sg x [.int 2, .int 3, .int 4, .int 5, .int 6]) st := by kernel_rfl
theorem s31 (x : D) (st : ST) : (allS 7 [.int 2, .int 3, .int 4, .int 5, .int 6]).all (chk x st [.int 2, .int 3, .int 4, .int 5, .int 6]) = true := by kernel_rfl
theorem a32 (x : D) (st : ST) : kA1 0 (callD tbd 0 20) (sg x [.int 1]) st = .nx (sg x [.int 1]) st := by kernel_rfl
theorem b32 (x : D) (st : ST) : kA2 0 (callD tbd 0 20) (sg x [.int 1]) st = .nx (sg x [.int 1]) st := by kernel_rfl
theorem s32 (x : D) (st : ST) : (allS 7 [.int 1]).all (chk x st [.int 1]) = true := by kernel_rfl
theorem a33 (x : D) (st : ST) : kA1 0 (callD tbd 0 20) (sg x [.int 1, .int 6]) st = .nx (sg x [.int 1, .int 6]) st := by kernel_rfl
theorem b33 (x : D) (st : ST) : kA2 0 (callD tbd 0 20) (sg x [.int 1, .int 6]) st = .nx (sg x [.int 1, .int 6]) st := by kernel_rfl
theorem s33 (x : D) (st : ST) : (allS 7 [.int 1, .int 6]).all (chk x st [.int 1, .int 6]) = true := by kernel_rfl
theorem a34 (x : D) (st : ST) : kA1 0 (callD tbd 0 20) (sg x [.int 1, .int 5]) st = .nx (sg x [.int 1, .int 5]) st := by kernel_rfl
theorem b34 (x : D) (st : ST) : kA2 0 (callD tbd 0 20) (sg x [.int 1, .int 5]) st = .nx (sg x [.int 1, .int 5]) st := by kernel_rfl
theorem s34 (x : D) (st : ST) : (allS 7 [.int 1, .int 5]).all (chk x st [.int 1, .int 5]) = true := by kernel_rfl
theorem a35 (x : D) (st : ST) : kA1 0 (callD tbd 0 20) (sg x [.int 1, .int 5, .int 6]) st = .nx (sg x [.int 1, .int 5, .int 6]) st := by kernel_rfl
theorem b35 (x : D) (st : ST) : kA2 0 (callD tbd 0 20) (sg x [.int 1, .int 5, .int 6]) st = .nx (sg x [.int 1, .int 5, .int 6]) st := by kernel_rfl
theorem s35 (x : D) (st : ST) : (allS 7 [.int 1, .int 5, .int 6]).all (chk x st [.int 1, .int 5, .int 6]) = true := by kernel_rfl
theorem a36 (x : D) (st : ST) : kA1 0 (callD tbd 0 20) (sg x [.int 1, .int 4]) st = .nx (sg x [.int 1, .int 4]) st := by kernel_rfl
theorem b36 (x : D) (st : ST) : kA2 0 (callD tbd 0 20) (sg x [.int 1, .int 4]) st = .nx (sg x [.int 1, .int 4]) st := by kernel_rfl
theorem s36 (x : D) (st : ST) : (allS 7 [.int 1, .int 4]).all (chk x st [.int 1, .int 4]) = true := by kernel_rfl
theorem a37 (x : D) (st : ST) : kA1 0 (callD tbd 0 20) (sg x [.int 1, .int 4, .int 6]) st = .nx (sg x [.int 1, .int 4, .int 6]) st := by kernel_rfl
theorem b37 (x : D) (st : ST) : kA2 0 (callD tbd 0 20) (sg x [.int 1, .int 4, .int 6]) st = .nx (sg x [.int 1, .int 4, .int 6]) st := by kernel_rfl
theorem s37 (x : D) (st : ST) : (allS 7 [.int 1, .int 4, .int 6]).all (chk x st [.int 1, .int 4, .int 6]) = true := by kernel_rfl
theorem a38 (x : D) (st : ST) : kA1 0 (callD tbd 0 20) (sg x [.int 1, .int 4, .int 5]) st = .nx (sg x [.int 1, .int 4, .int 5]) st := by kernel_rfl
theorem b38 (x : D) (st : ST) : kA2 0 (callD tbd 0 20) (sg x [.int 1, .int 4, .int 5]) st = .nx (sg x [.int 1, .int 4, .int 5]) st := by kernel_rfl
theorem s38 (x : D) (st : ST) : (allS 7 [.int 1, .int 4, .int 5]).all (chk x st [.int 1, .int 4, .int 5]) = true := by kernel_rfl
theorem a39 (x : D) (st : ST) : kA1 0 (callD tbd 0 20) (sg x [.int 1, .int 4, .int 5, .int 6]) st = .nx (sg x [.int 1, .int 4, .int 5, .int 6]) st := by kernel_rfl
theorem b39 (x : D) (st : ST) : kA2 0 (callD tbd 0 20) (sg x [.int 1, .int 4, .int 5, .int 6]) st = .nx (sg x [.int 1, .int 4, .int 5, .int 6]) st := by kernel_rfl
theorem s39 (x : D) (st : ST) : (allS 7 [.int 1, .int 4, .int 5, .int 6]).all (chk x st [.int 1, .int 4, .int 5, .int 6]) = true := by kernel_rfl
theorem a40 (x : D) (st : ST) : kA1 0 (callD tbd 0 20) (sg x [.int 1, .int 3]) st = .nx (sg x [.int 1, .int 3]) st := by kernel_rfl
theorem b40 (x : D) (st : ST) : kA2 0 (callD tbd 0 20) (sg x [.int 1, .int 3]) st = .nx (sg x [.int 1, .int 3]) st := by kernel_rfl
theorem s40 (x : D) (st : ST) : (allS 7 [.int 1, .int 3]).all (chk x st [.int 1, .int 3]) = true := by kernel_rfl
theorem a41 (x : D) (st : ST) : kA1 0 (callD tbd 0 20) (sg x [.int 1, .int 3, .int 6]) st = .nx (sg x [.int 1, .int 3, .int 6]) st := by kernel_rfl
theorem b41 (x : D) (st : ST) : kA2 0 (callD tbd 0 20) (sg x [.int 1, .int 3, .int 6]) st = .nx (sg x [.int 1, .int 3, .int 6]) st := by kernel_rfl
theorem s41 (x : D) (st : ST) : (allS 7 [.int 1, .int 3, .int 6]).all (chk x st [.int 1, .int 3, .int 6]) = true := by kernel_rfl
theorem a42 (x : D) (st : ST) : kA1 0 (callD tbd 0 20) (sg x [.int 1, .int 3, .int 5]) st = .nx (sg x [.int 1, .int 3, .int 5]) st := by kernel_rfl
theorem b42 (x : D) (st : ST) : kA2 0 (callD tbd 0 20) (sg x [.int 1, .int 3, .int 5]) st = .nx (sg x [.int 1, .int 3, .int 5]) st := by kernel_rfl
theorem s42 (x : D) (st : ST) : (allS 7 [.int 1, .int 3, .int 5]).all (chk x st [.int 1, .int 3, .int 5]) = true := by kernel_rfl
theorem a43 (x : D) (st : ST) : kA1 0 (callD tbd 0 20) (sg x [.int 1, .int 3, .int 5, .int 6]) st = .nx (sg x [.int 1, .int 3, .int 5, .int 6]) st := by kernel_rfl
theorem b43 (x : D) (st : ST) : kA2 0 (callD tbd 0 20) (sg x [.int 1, .int 3, .int 5, .int 6]) st = .nx (sg x [.int 1, .int 3, .int 5, .int 6]) st := by kernel_rfl
theorem s43 (x : D) (st : ST) : (allS 7 [.int 1, .int 3, .int 5, .int 6]).all (chk x st [.int 1, .int 3, .int 5, .int 6]) = true := by kernel_rfl
theorem a44 (x : D) (st : ST) : kA1 0 (callD tbd 0 20) (sg x [.int 1, .int 3, .int 4]) st = .nx (sg x [.int 1, .int 3, .int 4]) st := by kernel_rfl
theorem b44 (x : D) (st : ST) : kA2 0 (callD tbd 0 20) (sg x [.int 1, .int 3, .int 4]) st = .nx (sg x [.int 1, .int 3, .int 4]) st := by kernel_rfl
theorem s44 (x : D) (st : ST) : (allS 7 [.int 1, .int 3, .int 4]).all (chk x st [.int 1, .int 3, .int 4]) = true := by kernel_rfl
theorem a45 (x : D) (st : ST) : kA1 0 (callD tbd 0 20) (sg x [.int 1, .int 3, .int 4, .int 6]) st = .nx (sg x [.int 1, .int 3, .int 4, .int 6]) st := by kernel_rfl
theorem b45 (x : D) (st : ST) : kA2 0 (callD tbd 0 20) (sg x [.int 1, .int 3, .int 4, .int 6]) st = .nx (sg x [.int 1, .int 3, .int 4, .int 6]) st := by kernel_rfl
theorem s45 (x : D) (st : ST) : (allS 7 [.int 1, .int 3, .int 4, .int 6]).all (chk x st [.int 1, .int 3, .int 4, .int 6]) = true := by kernel_rfl
theorem a46 (x : D) (st : ST) : kA1 0 (callD tbd 0 20) (sg x [.int 1, .int 3, .int 4, .int 5]) st = .nx (sg x [.int 1, .int 3, .int 4, .int 5]) st := by kernel_rfl
theorem b46 (x : D) (st : ST) : kA2 0 (callD tbd 0 20) (sg x [.int 1, .int 3, .int 4, .int 5]) st = .nx (sg x [.int 1, .int 3, .int 4, .int 5]) st := by kernel_rfl
theorem s46 (x : D) (st : ST) : (allS 7 [.int 1, .int 3, .int 4, .int 5]).all (chk x st [.int 1, .int 3, .int 4, .int 5]) = true := by kernel_rfl
theorem a47 (x : D) (st : ST) : kA1 0 (callD tbd 0 20) (sg x [.int 1, .int 3, .int 4, .int 5, .int 6]) st = .nx (sg x [.int 1, .int 3, .int 4, .int 5, .int 6]) st := by kernel_rfl
theorem b47 (x : D) (st : ST) : kA2 0 (callD tbd 0 20) (sg x [.int 1, .int 3, .int 4, .int 5, .int 6]) st = .nx (sg x [.int 1, .int 3, .int 4, .int 5, .int 6]) st := by kernel_rfl
theorem s47 (x : D) (st : ST) : (allS 7 [.int 1, .int 3, .int 4, .int 5, .int 6]).all (chk x st [.int 1, .int 3, .int 4, .int 5, .int 6]) = true := by kernel_rfl
theorem a48 (x : D) (st : ST) : kA1 0 (callD tbd 0 20) (sg x [.int 1, .int 2]) st = .nx (sg x [.int 1, .int 2]) st := by kernel_rfl
theorem b48 (x : D) (st : ST) : kA2 0 (callD tbd 0 20) (sg x [.int 1, .int 2]) st = .nx (sg x [.int 1, .int 2]) st := by kernel_rfl
theorem s48 (x : D) (st : ST) : (allS 7 [.int 1, .int 2]).all (chk x st [.int 1, .int 2]) = true := by kernel_rfl
theorem a49 (x : D) (st : ST) : kA1 0 (callD tbd 0 20) (sg x [.int 1, .int 2, .int 6]) st = .nx (sg x [.int 1, .int 2, .int 6]) st := by kernel_rfl
theorem b49 (x : D) (st : ST) : kA2 0 (callD tbd 0 20) (sg x [.int 1, .int 2, .int 6]) st = .nx (sg x [.int 1, .int 2, .int 6]) st := by kernel_rfl
theorem s49 (x : D) (st : ST) : (allS 7 [.int 1, .int 2, .int 6]).all (chk x st [.int 1, .int 2, .int 6]) = true := by kernel_rfl
theorem a50 (x : D) (st : ST) : kA1 0 (callD tbd 0 20) (sg x [.int 1, .int 2, .int 5]) st = .nx (sg x [.int 1, .int 2, .int 5]) st := by kernel_rfl
theorem b50 (x : D) (st : ST) : kA2 0 (callD tbd 0 20) (sg x [.int 1, .int 2, .int 5]) st = .nx (sg x [.int 1, .int 2, .int 5]) st := by kernel_rfl
theorem s50 (x : D) (st : ST) : (allS 7 [.int 1, .int 2, .int 5]).all (chk x st [.int 1, .int 2, .int 5]) = true := by kernel_rfl
theorem a51 (x : D) (st : ST) : kA1 0 (callD tbd 0 20) (sg x [.int 1, .int 2, .int 5, .int 6]) st = .nx (sg x [.int 1, .int 2, .int 5, .int 6]) st := by kernel_rfl
theorem b51 (x : D) (st : ST) : kA2 0 (callD tbd 0 20) (sg x [.int 1, .int 2, .int 5, .int 6]) st = .nx (sg x [.int 1, .int 2, .int 5, .int 6]) st := by kernel_rfl
theorem s51 (x : D) (st : ST) : (allS 7 [.int 1, .int 2, .int 5, .int 6]).all (chk x st [.int 1, .int 2, .int 5, .int 6]) = true := by kernel_rfl
theorem a52 (x : D) (st : ST) : kA1 0 (callD tbd 0 20) (sg x [.int 1, .int 2, .int 4]) st = .nx (sg x [.int 1, .int 2, .int 4]) st := by kernel_rfl
theorem b52 (x : D) (st : ST) : kA2 0 (callD tbd 0 20) (sg x [.int 1, .int 2, .int 4]) st = .nx (sg x [.int 1, .int 2, .int 4]) st := by kernel_rfl
theorem s52 (x : D) (st : ST) : (allS 7 [.int 1, .int 2, .int 4]).all (chk x st [.int 1, .int 2, .int 4]) = true := by kernel_rfl
theorem a53 (x : D) (st : ST) : kA1 0 (callD tbd 0 20) (sg x [.int 1, .int 2, .int 4, .int 6]) st = .nx (sg x [.int 1, .int 2, .int 4, .int 6]) st := by kernel_rfl
theorem b53 (x : D) (st : ST) : kA2 0 (callD tbd 0 20) (sg x [.int 1, .int 2, .int 4, .int 6]) st = .nx (sg x [.int 1, .int 2, .int 4, .int 6]) st := by kernel_rfl
theorem s53 (x : D) (st : ST) : (allS 7 [.int 1, .int 2, .int 4, .int 6]).all (chk x st [.int 1, .int 2, .int 4, .int 6]) = true := by kernel_rfl
theorem a54 (x : D) (st : ST) : kA1 0 (callD tbd 0 20) (sg x [.int 1, .int 2, .int 4, .int 5]) st = .nx (sg x [.int 1, .int 2, .int 4, .int 5]) st := by kernel_rfl
theorem b54 (x : D) (st : ST) : kA2 0 (callD tbd 0 20) (sg x [.int 1, .int 2, .int 4, .int 5]) st = .nx (sg x [.int 1, .int 2, .int 4, .int 5]) st := by kernel_rfl
theorem s54 (x : D) (st : ST) : (allS 7 [.int 1, .int 2, .int 4, .int 5]).all (chk x st [.int 1, .int 2, .int 4, .int 5]) = true := by kernel_rfl
theorem a55 (x : D) (st : ST) : kA1 0 (callD tbd 0 20) (sg x [.int 1, .int 2, .int 4, .int 5, .int 6]) st = .nx (sg x [.int 1, .int 2, .int 4, .int 5, .int 6]) st := by kernel_rfl
theorem b55 (x : D) (st : ST) : kA2 0 (callD tbd 0 20) (sg x [.int 1, .int 2, .int 4, .int 5, .int 6]) st = .nx (sg x [.int 1, .int 2, .int 4, .int 5, .int 6]) st := by kernel_rfl
theorem s55 (x : D) (st : ST) : (allS 7 [.int 1, .int 2, .int 4, .int 5, .int 6]).all (chk x st [.int 1, .int 2, .int 4, .int 5, .int 6]) = true := by kernel_rfl
theorem a56 (x : D) (st : ST) : kA1 0 (callD tbd 0 20) (sg x [.int 1, .int 2, .int 3]) st = .nx (sg x [.int 1, .int 2, .int 3]) st := by kernel_rfl
theorem b56 (x : D) (st : ST) : kA2 0 (callD tbd 0 20) (sg x [.int 1, .int 2, .int 3]) st = .nx (sg x [.int 1, .int 2, .int 3]) st := by kernel_rfl
theorem s56 (x : D) (st : ST) : (allS 7 [.int 1, .int 2, .int 3]).all (chk x st [.int 1, .int 2, .int 3]) = true := by kernel_rfl
theorem a57 (x : D) (st : ST) : kA1 0 (callD tbd 0 20) (sg x [.int 1, .int 2, .int 3, .int 6]) st = .nx (sg x [.int 1, .int 2, .int 3, .int 6]) st := by kernel_rfl
theorem b57 (x : D) (st : ST) : kA2 0 (callD tbd 0 20) (sg x [.int 1, .int 2, .int 3, .int 6]) st = .nx (sg x [.int 1, .int 2, .int 3, .int 6]) st := by kernel_rfl
theorem s57 (x : D) (st : ST) : (allS 7 [.int 1, .int 2, .int 3, .int 6]).all (chk x st [.int 1, .int 2, .int 3, .int 6]) = true := by kernel_rfl
theorem a58 (x : D) (st : ST) : kA1 0 (callD tbd 0 20) (sg x [.int 1, .int 2, .int 3, .int 5]) st = .nx (sg x [.int 1, .int 2, .int 3, .int 5]) st := by kernel_rfl
theorem b58 (x : D) (st : ST) : kA2 0 (callD tbd 0 20) (sg x [.int 1, .int 2, .int 3, .int 5]) st = .nx (sg x [.int 1, .int 2, .int 3, .int 5]) st := by kernel_rfl
theorem s58 (x : D) (st : ST) : (allS 7 [.int 1, .int 2, .int 3, .int 5]).all (chk x st [.int 1, .int 2, .int 3, .int 5]) = true := by kernel_rfl
theorem a59 (x : D) (st : ST) : kA1 0 (callD tbd 0 20) (sg x [.int 1, .int 2, .int 3, .int 5, .int 6]) st = .nx (sg x [.int 1, .int 2, .int 3, .int 5, .int 6]) st := by kernel_rfl
theorem b59 (x : D) (st : ST) : kA2 0 (callD tbd 0 20) (sg x [.int 1, .int 2, .int 3, .int 5, .int 6]) st = .nx (sg x [.int 1, .int 2, .int 3, .int 5, .int 6]) st := by kernel_rfl
theorem s59 (x : D) (st : ST) : (allS 7 [.int 1, .int 2, .int 3, .int 5, .int 6]).all (chk x st [.int 1, .int 2, .int 3, .int 5, .int 6]) = true := by kernel_rfl
theorem a60 (x : D) (st : ST) : kA1 0 (callD tbd 0 20) (sg x [.int 1, .int 2, .int 3, .int 4]) st = .nx (sg x [.int 1, .int 2, .int 3, .int 4]) st := by kernel_rfl
theorem b60 (x : D) (st : ST) : kA2 0 (callD tbd 0 20) (sg x [.int 1, .int 2, .int 3, .int 4]) st = .nx (sg x [.int 1, .int 2, .int 3, .int 4]) st := by kernel_rfl
theorem s60 (x : D) (st : ST) : (allS 7 [.int 1, .int 2, .int 3, .int 4]).all (chk x st [.int 1, .int 2, .int 3, .int 4]) = true := by kernel_rfl
theorem a61 (x : D) (st : ST) : kA1 0 (callD tbd 0 20) (sg x [.int 1, .int 2, .int 3, .int 4, .int 6]) st = .nx (sg x [.int 1, .int 2, .int 3, .int 4, .int 6]) st := by kernel_rfl
theorem b61 (x : D) (st : ST) : kA2 0 (callD tbd 0 20) (sg x [.int 1, .int 2, .int 3, .int 4, .int 6]) st = .nx (sg x [.int 1, .int 2, .int 3, .int 4, .int 6]) st := by kernel_rfl
theorem s61 (x : D) (st : ST) : (allS 7 [.int 1, .int 2, .int 3, .int 4, .int 6]).all (chk x st [.int 1, .int 2, .int 3, .int 4, .int 6]) = true := by kernel_rfl
theorem a62 (x : D) (st : ST) : kA1 0 (callD tbd 0 20) (sg x [.int 1, .int 2, .int 3, .int 4, .int 5]) st = .nx (sg x [.int 1, .int 2, .int 3, .int 4, .int 5]) st := by kernel_rfl
theorem b62 (x : D) (st : ST) : kA2 0 (callD tbd 0 20) (sg x [.int 1, .int 2, .int 3, .int 4, .int 5]) st = .nx (sg x [.int 1, .int 2, .int 3, .int 4, .int 5]) st := by kernel_rfl
theorem s62 (x : D) (st : ST) : (allS 7 [.int 1, .int 2, .int 3, .int 4, .int 5]).all (chk x st [.int 1, .int 2, .int 3, .int 4, .int 5]) = true := by kernel_rfl
theorem a63 (x : D) (st : ST) : kA1 0 (callD tbd 0 20) (sg x [.int 1, .int 2, .int 3, .int 4, .int 5, .int 6]) st = .nx (sg x [.int 1, .int 2, .int 3, .int 4, .int 5, .int 6]) st := by kernel_rfl
theorem b63 (x : D) (st : ST) : kA2 0 (callD tbd 0 20) (sg x [.int 1, .int 2, .int 3, .int 4, .int 5, .int 6]) st = .nx (sg x [.int 1, .int 2, .int 3, .int 4, .int 5, .int 6]) st := by kernel_rfl
theorem s63_0 (x : D) (st : ST) : ((allS 7 [.int 1, .int 2, .int 3, .int 4, .int 5, .int 6]).take 33).all (chk x st [.int 1, .int 2, .int 3, .int 4, .int 5, .int 6]) = true := by kernel_rfl
theorem s63_1 (x : D) (st : ST) : (((allS 7 [.int 1, .int 2, .int 3, .int 4, .int 5, .int 6]).drop 33).take 33).all (chk x st [.int 1, .int 2, .int 3, .int 4, .int 5, .int 6]) = true := by kernel_rfl
theorem s63_2 (x : D) (st : ST) : ((((allS 7 [.int 1, .int 2, .int 3, .int 4, .int 5, .int 6]).drop 33).drop 33).take 33).all (chk x st [.int 1, .int 2, .int 3, .int 4, .int 5, .int 6]) = true := by kernel_rfl
theorem s63_3 (x : D) (st : ST) : ((((allS 7 [.int 1, .int 2, .int 3, .int 4, .int 5, .int 6]).drop 33).drop 33).drop 33).all (chk x st [.int 1, .int 2, .int 3, .int 4, .int 5, .int 6]) = true := by kernel_rfl
theorem s63 (x : D) (st : ST) : (allS 7 [.int 1, .int 2, .int 3, .int 4, .int 5, .int 6]).all (chk x st [.int 1, .int 2, .int 3, .int 4, .int 5, .int 6]) = true := all_split 33 _ _ (s63_0 x st) (all_split 33 _ _ (s63_1 x st) (all_split 33 _ _ (s63_2 x st) (s63_3 x st)))
theorem subs6 : subs (rngUp 1 6) = [[], [.int 6], [.int 5], [.int 5, .int 6], [.int 4], [.int 4, .int 6], [.int 4, .int 5], [.int 4, .int 5, .int 6], [.int 3], [.int 3, .int 6], [.int 3, .int 5], [.int 3, .int 5, .int 6], [.int 3, .int 4], [.int 3, .int 4, .int 6], [.int 3, .int 4, .int 5], [.int 3, .int 4, .int 5, .int 6], [.int 2], [.int 2, .int 6], [.int 2, .int 5], [.int 2, .int 5, .int 6], [.int 2, .int 4], [.int 2, .int 4, .int 6], [.int 2, .int 4, .int 5], [.int 2, .int 4, .int 5, .int 6], [.int 2, .int 3], [.int 2, .int 3, .int 6], [.int 2, .int 3, .int 5], [.int 2, .int 3, .int 5, .int 6], [.int 2, .int 3, .int 4], [.int 2, .int 3, .int 4, .int 6], [.int 2, .int 3, .int 4, .int 5], [.int 2, .int 3, .int 4, .int 5, .int 6], [.int 1], [.int 1, .int 6], [.int 1, .int 5], [.int 1, .int 5, .int 6], [.int 1, .int 4], [.int 1, .int 4, .int 6], [.int 1, .int 4, .int 5], [.int 1, .int 4, .int 5, .int 6], [.int 1, .int 3], [.int 1, .int 3, .int 6], [.int 1, .int 3, .int 5], [.int 1, .int 3, .int 5, .int 6], [.int 1, .int 3, .int 4], [.int 1, .int 3, .int 4, .int 6], [.int 1, .int 3, .int 4, .int 5], [.int 1, .int 3, .int 4, .int 5, .int 6], [.int 1, .int 2], [.int 1, .int 2, .int 6], [.int 1, .int 2, .int 5], [.int 1, .int 2, .int 5, .int 6], [.int 1, .int 2, .int 4], [.int 1, .int 2, .int 4, .int 6], [.int 1, .int 2, .int 4, .int 5], [.int 1, .int 2, .int 4, .int 5, .int 6], [.int 1, .int 2, .int 3], [.int 1, .int 2, .int 3, .int 6], [.int 1, .int 2, .int 3, .int 5], [.int 1, .int 2, .int 3, .int 5, .int 6], [.int 1, .int 2, .int 3, .int 4], [.int 1, .int 2, .int 3, .int 4, .int 6], [.int 1, .int 2, .int 3, .int 4, .int 5], [.int 1, .int 2, .int 3, .int 4, .int 5, .int 6]] := by kernel_rfl
theorem allk (x : D) (st st' : ST) : ∀ ks ∈ subs (rngUp 1 6), kA1 0 (callD tbd 0 20) (sg x ks) st = .nx (sg x ks) st ∧ kA2 0 (callD tbd 0 20) (sg x ks) st = .nx (sg x ks) st ∧ (allS 7 ks).all (chk x st' ks) = true := by
  rw [subs6]
  intro ks h
  simp only [List.mem_cons, List.not_mem_nil, or_false] at h
  rcases h with rfl | rfl | rfl | rfl | rfl | rfl | rfl | rfl | rfl | rfl | rfl | rfl | rfl | rfl | rfl | rfl | rfl | rfl | rfl | rfl | rfl | rfl | rfl | rfl | rfl | rfl | rfl | rfl | rfl | rfl | rfl | rfl | rfl | rfl | rfl | rfl | rfl | rfl | rfl | rfl | rfl | rfl | rfl | rfl | rfl | rfl | rfl | rfl | rfl | rfl | rfl | rfl | rfl | rfl | rfl | rfl | rfl | rfl | rfl | rfl | rfl | rfl | rfl | rfl
  · exact ⟨a0 x st, b0 x st, s0 x st'⟩
  · exact ⟨a1 x st, b1 x st, s1 x st'⟩
  · exact ⟨a2 x st, b2 x st, s2 x st'⟩
  · exact ⟨a3 x st, b3 x st, s3 x st'⟩
  · exact ⟨a4 x st, b4 x st, s4 x st'⟩
  · exact ⟨a5 x st, b5 x st, s5 x st'⟩
  · exact ⟨a6 x st, b6 x st, s6 x st'⟩
  · exact ⟨a7 x st, b7 x st, s7 x st'⟩
  · exact ⟨a8 x st, b8 x st, s8 x st'⟩
  · exact ⟨a9 x st, b9 x st, s9 x st'⟩
  · exact ⟨a10 x st, b10 x st, s10 x st'⟩
  · exact ⟨a11 x st, b11 x st, s11 x st'⟩
  · exact ⟨a12 x st, b12 x st, s12 x st'⟩
  · exact ⟨a13 x st, b13 x st, s13 x st'⟩
  · exact ⟨a14 x st, b14 x st, s14 x st'⟩
  · exact ⟨a15 x st, b15 x st, s15 x st'⟩
  · exact ⟨a16 x st, b16 x st, s16 x st'⟩
  · exact ⟨a17 x st, b17 x st, s17 x st'⟩
  · exact ⟨a18 x st, b18 x st, s18 x st'⟩
  · exact ⟨a19 x st, b19 x st, s19 x st'⟩
  · exact ⟨a20 x st, b20 x st, s20 x st'⟩
  · exact ⟨a21 x st, b21 x st, s21 x st'⟩
  · exact ⟨a22 x st, b22 x st, s22 x st'⟩
  · exact ⟨a23 x st, b23 x st, s23 x st'⟩
  · exact ⟨a24 x st, b24 x st, s24 x st'⟩
  · exact ⟨a25 x st, b25 x st, s25 x st'⟩
  · exact ⟨a26 x st, b26 x st, s26 x st'⟩
  · exact ⟨a27 x st, b27 x st, s27 x st'⟩
  · exact ⟨a28 x st, b28 x st, s28 x st'⟩
  · exact ⟨a29 x st, b29 x st, s29 x st'⟩
  · exact ⟨a30 x st, b30 x st, s30 x st'⟩
  · exact ⟨a31 x st, b31 x st, s31 x st'⟩
  · exact ⟨a32 x st, b32 x st, s32 x st'⟩
  · exact ⟨a33 x st, b33 x st, s33 x st'⟩
  · exact ⟨a34 x st, b34 x st, s34 x st'⟩
  · exact ⟨a35 x st, b35 x st, s35 x st'⟩
  · exact ⟨a36 x st, b36 x st, s36 x st'⟩
  · exact ⟨a37 x st, b37 x st, s37 x st'⟩
  · exact ⟨a38 x st, b38 x st, s38 x st'⟩
  · exact ⟨a39 x st, b39 x st, s39 x st'⟩
  · exact ⟨a40 x st, b40 x st, s40 x st'⟩
  · exact ⟨a41 x st, b41 x st, s41 x st'⟩
  · exact ⟨a42 x st, b42 x st, s42 x st'⟩
  · exact ⟨a43 x st, b43 x st, s43 x st'⟩
  · exact ⟨a44 x st, b44 x st, s44 x st'⟩
  · exact ⟨a45 x st, b45 x st, s45 x st'⟩
  · exact ⟨a46 x st, b46 x st, s46 x st'⟩
  · exact ⟨a47 x st, b47 x st, s47 x st'⟩
  · exact ⟨a48 x st, b48 x st, s48 x st'⟩
  · exact ⟨a49 x st, b49 x st, s49 x st'⟩
  · exact ⟨a50 x st, b50 x st, s50 x st'⟩
  · exact ⟨a51 x st, b51 x st, s51 x st'⟩
  · exact ⟨a52 x st, b52 x st, s52 x st'⟩
  · exact ⟨a53 x st, b53 x st, s53 x st'⟩
  · exact ⟨a54 x st, b54 x st, s54 x st'⟩
  · exact ⟨a55 x st, b55 x st, s55 x st'⟩
  · exact ⟨a56 x st, b56 x st, s56 x st'⟩
  · exact ⟨a57 x st, b57 x st, s57 x st'⟩
  · exact ⟨a58 x st, b58 x st, s58 x st'⟩
  · exact ⟨a59 x st, b59 x st, s59 x st'⟩
  · exact ⟨a60 x st, b60 x st, s60 x st'⟩
  · exact ⟨a61 x st, b61 x st, s61 x st'⟩
  · exact ⟨a62 x st, b62 x st, s62 x st'⟩
  · exact ⟨a63 x st, b63 x st, s63 x st'⟩
end Lk01
end
section
set_option Elab.async false
set_option linter.all false
set_option maxRecDepth 100000
set_option maxHeartbeats 0
open PySem PV
namespace Lk01
theorem f14_eq : tbl[14]? = some ⟨3, 6, cDraw⟩ := by kernel_rfl
theorem f18_eq : tbl[18]? = some ⟨3, 4, cSomeKeys 14⟩ := by kernel_rfl
theorem f19_eq : tbl[19]? = some ⟨3, 4, cShape 14 19⟩ := by kernel_rfl
theorem f20_eq : tbl[20]? = some ⟨1, 10, .seq (.asg 1 (.nrf (.lst [(.cst (.int 0)), (.cst (.int 0))])) []) (.seq (.asg 2 (.call 18 [(.var 0), (.var 1), (.cst (.int 6))]) [0, 1]) (.seq cA1 (.seq cA2 (.seq (.asg 3 (.call 19 [(.var 0), (.var 1), (.var 2)]) [0, 1, 2]) cRest))))⟩ := by kernel_rfl
theorem kRest_eq : denC cRest = kRest := by kernel_rfl
theorem kA1_eq : denC cA1 = kA1 := by kernel_rfl
theorem kA2_eq : denC cA2 = kA2 := by kernel_rfl
theorem isTrue_eq {r : RC} (h : isTrue r = true) : ∃ st, r = .ret (.bl true) st := by
  unfold isTrue at h
  split at h
  · exact ⟨_, rfl⟩
  · cases h
theorem subs_ints : ∀ (l : List Int) (ks : List D), ks ∈ subs (l.map D.int) → ∃ is : List Int, ks = is.map D.int ∧ is.length ≤ l.length
  | [], ks, h => by
    simp only [List.map_nil, subs, List.mem_singleton] at h
    exact ⟨[], h, Nat.le_refl _⟩
  | i :: l, ks, h => by
    rw [List.map_cons, subs, List.mem_append, List.mem_map] at h
    rcases h with h | ⟨t, h, rfl⟩
    · obtain ⟨is, e, hl⟩ := subs_ints l ks h
      exact ⟨is, e, Nat.le_succ_of_le hl⟩
    · obtain ⟨is, e, hl⟩ := subs_ints l t h
      exact ⟨i :: is, by rw [e]; rfl, Nat.succ_le_succ hl⟩
theorem allS_mono : ∀ (n m : Nat) (ks : List D) (s : D), s ∈ allS n ks → ks.length < m → s ∈ allS m ks
  | 0, m, ks, s, h, _ => by simp [allS] at h
  | n + 1, 0, ks, s, h, hm => absurd hm (Nat.not_lt_zero _)
  | n + 1, m + 1, [], s, h, hm => by simpa [allS] using h
  | n + 1, m + 1, k :: ks, s, h, hm => by
    rw [allS] at h ⊢
    obtain ⟨at_, h1, h2⟩ := List.mem_flatMap.mp h
    obtain ⟨l, l1, l2⟩ := List.mem_flatMap.mp h2
    obtain ⟨r, r1, r2⟩ := List.mem_map.mp l2
    have ha : at_ < ks.length + 1 := List.mem_range.mp h1
    have hm' : ks.length < m := by simpa using hm
    refine List.mem_flatMap.mpr ⟨at_, h1, List.mem_flatMap.mpr ⟨l, allS_mono n m _ l l1 ?_, List.mem_map.mpr ⟨r, allS_mono n m _ r r1 ?_, r2⟩⟩⟩
    · rw [List.length_take, List.length_cons]; omega
    · rw [List.length_drop, List.length_cons]; omega
theorem law_true (ns : List Int) : ∃ st, callF tbl 0 21 20 [.scr (ns.map D.int)] [] = .ok (.bl true) st := by
  obtain ⟨ks, s1, h1, h2, h3⟩ := some_keys_ok (lf := 0) (n := 18) f14_eq f18_eq ns 6 (by decide) (by decide) (rest := []) (st := [town 0 0]) ⟨0, 0, Int.le_refl _, rfl⟩
  obtain ⟨is, e, hl⟩ := subs_ints [1, 2, 3, 4, 5, 6] ks h1
  subst e
  have hl : is.length ≤ 6 := hl
  obtain ⟨s, s2, g1, g2, g3⟩ := shape_ok (lf := 0) f14_eq f19_eq ns (rest := []) 19 is s1 (by omega) (by omega) h2
  have g1' := allS_mono 19 7 _ s g1 (by rw [List.length_map]; omega)
  obtain ⟨ea, eb, hc⟩ := allk (.scr (ns.map D.int)) s1 s2 _ h1
  have hc := List.all_eq_true.mp hc s g1'
  obtain ⟨s3, e3⟩ := isTrue_eq hc
  rw [← kRest_eq, denC_eq, callK] at e3
  rw [← kA1_eq, denC_eq, callK] at ea
  rw [← kA2_eq, denC_eq, callK] at eb
  refine ⟨s3, ?_⟩
  rw [callF, f20_eq]
  dsimp only
  rw [if_pos (by rfl)]
  have hs : startW 10 [.scr (ns.map D.int)] = [some (.val (.scr (ns.map D.int))), none, none, none, none, none, none, none, none, none] := rfl
  rw [hs]
  have e1 : evC 0 (callF tbl 0 20) (.asg 1 (.nrf (.lst [(.cst (.int 0)), (.cst (.int 0))])) []) [some (.val (.scr (ns.map D.int))), none, none, none, none, none, none, none, none, none] [] =
      .nx [some (.val (.scr (ns.map D.int))), some (.val (.rf 0)), none, none, none, none, none, none, none, none] [town 0 0] := by
    simp [evC, evE, evEs, R.thn, R.bind, R.of, lstOf, small, lim, getW, setW, frz, wrap, frsh, town]
  have e2 : evC 0 (callF tbl 0 20) (.asg 2 (.call 18 [(.var 0), (.var 1), (.cst (.int 6))]) [0, 1]) [some (.val (.scr (ns.map D.int))), some (.val (.rf 0)), none, none, none, none, none, none, none, none] [town 0 0] = .nx (sg (.scr (ns.map D.int)) (is.map D.int)) s1 := by
    simp [evC, evE, evEs, R.thn, R.bind, R.of, getW, setW, frz, wrap, frsh, h3, sg]
  have e5 : evC 0 (callF tbl 0 20) (.asg 3 (.call 19 [(.var 0), (.var 1), (.var 2)]) [0, 1, 2]) (sg (.scr (ns.map D.int)) (is.map D.int)) s1 = .nx (sg2 (.scr (ns.map D.int)) (is.map D.int) s) s2 := by
    simp [evC, evE, evEs, R.thn, R.bind, R.of, getW, setW, frz, wrap, frsh, g3, sg, sg2]
  have sq : ∀ {a b : C} {σ σ' : Sg} {st st' : ST}, evC 0 (callF tbl 0 20) a σ st = .nx σ' st' → evC 0 (callF tbl 0 20) (.seq a b) σ st = evC 0 (callF tbl 0 20) b σ' st' := fun {a b σ σ' st st'} h => by
    rw [evC, h]
  rw [sq e1, sq e2, sq ea, sq eb, sq e5, e3]
theorem holds : PySem.Challenge.rw_turnedtrees_k01_whole_shapes.Holds := Lk01.law_end 21 0 (by decide) fun ns _ => law_true ns
end Lk01
end
theorem PySem.Challenge.cw_turnedtrees_k01_whole_shapes_holds : PySem.Challenge.rw_turnedtrees_k01_whole_shapes.Holds := by
  exact Lk01.holds
